import PyProof.Rows.All
import Wide.All
import OpenK.AllK
import Wide.FinOn
import HandS.Base
import HandS.Call
import HandS.List
import HandS.Comp
import HandS.Ends
import HandS.Dict
import HandS.DictComp
import HandS.Iter
import HandS.Words
import HandS.WordsList
import HandS.WordsDict
import KE.KUnpackStar
import KE.GoesMore
import KE.GoesEnum
import HandS.Exc
import HandS.ExcOwn
import HandS.ExcInit
import HandS.ExcField
import HandS.TryOnly
import HandS.CallLocal
import HandS.Deep
import HandS.WordsExc
import HandS.Head0
import HandS.HeadHook1
import HandS.HeadHook2
import HandS.IsInst
import HandS.SetKeys
import HandS.Style
import HandS.Conv
import HandS.Defaults
import KE.KStateDown
import Lean
import HandS.More
import HandS.Head1
import HandS.Head2
import HandS.HeadEnd
import PySem.Challenge.RW_ledclocks_k27_whole_world_or_ring
set_option Elab.async false
set_option linter.all false
set_option autoImplicit false
set_option maxRecDepth 100000
set_option maxHeartbeats 8000000
/-! The plain law: steps, worlds, rings; rounds over all steps; a queue. No program in sight. -/
namespace KM
abbrev Step := Nat × Nat × Int
abbrev Steps := List Step

/-- a world fits -/
def Fits (st : Steps) (t : Nat → Int) : Prop := ∀ s ∈ st, t s.2.1 ≤ t s.1 + s.2.2

/-- the numbers of steps go on from one another -/
def Chain (st : Steps) : Nat → List Nat → Nat → Prop
  | a, [], b => a = b
  | a, k :: ks, b => ∃ s, st[k]? = some s ∧ s.1 = a ∧ Chain st s.2.1 ks b
def total (st : Steps) (ks : List Nat) : Int := (ks.map fun k => match st[k]? with
  | some s => s.2.2
  | none => 0).sum
theorem total_nil (st : Steps) : total st [] = 0 := rfl
theorem total_cons {st : Steps} {k : Nat} {s : Step} {ks : List Nat} (h : st[k]? = some s) : total st (k :: ks) = s.2.2 + total st ks := by
  unfold total
  rw [List.map_cons, List.sum_cons, h]
theorem total_append (st : Steps) (a b : List Nat) : total st (a ++ b) = total st a + total st b := by
  unfold total
  rw [List.map_append, List.sum_append]
theorem chain_fits {st : Steps} {t : Nat → Int} (f : Fits st t) : ∀ (ks : List Nat) (a b : Nat), Chain st a ks b → t b ≤ t a + total st ks
  | [], a, b, h => by
    have h : a = b := h
    subst h
    rw [total_nil]
    omega
  | k :: ks, a, b, h => by
    obtain ⟨s, hs, ha, hc⟩ := h
    subst ha
    have h1 := chain_fits f ks _ _ hc
    have h2 := f s (List.mem_of_getElem? hs)
    rw [total_cons hs]
    omega
/-- a ring as the checker looks at it -/
structure Ring (st : Steps) (ks : List Nat) : Prop where
  ne : ks ≠ []
  go : ∃ a, Chain st a ks a
  neg : total st ks < 0
theorem no_both {st : Steps} {t : Nat → Int} {ks : List Nat} (f : Fits st t) (r : Ring st ks) : False := by
  obtain ⟨a, h⟩ := r.go
  have := chain_fits f ks a a h
  have := r.neg
  omega
/-- the checker's own three looks -/
structure RingC (st : Steps) (ks : List Nat) : Prop where
  ne : ks ≠ []
  bd : ∀ k ∈ ks, k < st.length
  go : ∀ (i : Nat) (k j : Nat) (s u : Step), ks[i]? = some k → (if i = 0 then ks.getLast? else ks[i - 1]?) = some j → st[k]? = some s → st[j]? = some u → u.2.1 = s.1
  neg : total st ks < 0
theorem chain_of_go {st : Steps} : ∀ (ks : List Nat) (a : Nat) (_ : ∀ k ∈ ks, k < st.length)
    (_ : ∀ k s, ks[0]? = some k → st[k]? = some s → s.1 = a)
    (_ : ∀ (i k j : Nat) (s u : Step), ks[i + 1]? = some k → ks[i]? = some j → st[k]? = some s → st[j]? = some u → u.2.1 = s.1),
    ∃ b, Chain st a ks b ∧ (ks = [] → b = a) ∧ ∀ k u, ks.getLast? = some k → st[k]? = some u → u.2.1 = b
  | [], a, _, _, _ => ⟨a, rfl, fun _ => rfl, fun k u h => by simp at h⟩
  | k :: ks, a, hb, h0, hg => by
    have hk := hb k (List.mem_cons_self ..)
    obtain ⟨s, hs⟩ : ∃ s, st[k]? = some s := ⟨st[k], List.getElem?_eq_getElem hk⟩
    obtain ⟨b, c, e, l⟩ := chain_of_go ks s.2.1 (fun q hq => hb q (List.mem_cons_of_mem _ hq))
      (fun q u hq hu => (hg 0 q k u s (by simpa using hq) (by simp) hu hs).symm)
      (fun i q j s' u' h1 h2 => hg (i + 1) q j s' u' (by simpa using h1) (by simpa using h2))
    refine ⟨b, ⟨s, hs, h0 k s (by simp) hs, c⟩, fun h => by simp at h, fun q u hq hu => ?_⟩
    cases ks with
    | nil =>
      have : q = k := by simpa using hq.symm
      subst this
      rw [hs] at hu
      cases hu
      exact (e rfl).symm
    | cons k2 ks => exact l q u (by rw [List.getLast?_cons_cons] at hq; exact hq) hu
theorem RingC.ring {st : Steps} {ks : List Nat} (r : RingC st ks) : Ring st ks := by
  refine ⟨r.ne, ?_, r.neg⟩
  cases ks with
  | nil => exact absurd rfl r.ne
  | cons k ks =>
    have hk := r.bd k (List.mem_cons_self ..)
    obtain ⟨s, hs⟩ : ∃ s, st[k]? = some s := ⟨st[k], List.getElem?_eq_getElem hk⟩
    obtain ⟨b, c, _, l⟩ := chain_of_go (k :: ks) s.1 r.bd (fun q u hq hu => by
      have : q = k := by simpa using hq.symm
      subst this
      rw [hs] at hu
      cases hu
      rfl) (fun i q j s' u' h1 h2 h3 h4 => r.go (i + 1) q j s' u' h1 (by rw [if_neg (by omega)]; exact h2) h3 h4)
    obtain ⟨j, hj⟩ : ∃ j, (k :: ks).getLast? = some j := ⟨(k :: ks).getLast (by simp), List.getLast?_eq_some_getLast (by simp)⟩
    have hjb := r.bd j (List.mem_of_getLast? hj)
    obtain ⟨u, hu⟩ : ∃ u, st[j]? = some u := ⟨st[j], List.getElem?_eq_getElem hjb⟩
    have e1 := l j u hj hu
    have e2 := r.go 0 k j s u (by simp) (by simpa using hj) hs hu
    have e3 : b = s.1 := e1.symm.trans e2
    subst e3
    exact ⟨_, c⟩

/-! ### rounds over all steps -/
structure WS (n : Nat) (st : Steps) : Prop where
  ok : ∀ s ∈ st, s.1 < n ∧ s.2.1 < n ∧ s.1 ≠ s.2.1
theorem WS.at {n : Nat} {st : Steps} (w : WS n st) {k : Nat} {s : Step} (h : st[k]? = some s) : s.1 < n ∧ s.2.1 < n ∧ s.1 ≠ s.2.1 := w.ok s (List.mem_of_getElem? h)
def pt {α : Type} (f : Nat → α) (a : Nat) (v : α) : Nat → α := fun b => if b = a then v else f b
theorem pt_same {α : Type} {f : Nat → α} {a : Nat} {v : α} : pt f a v a = v := if_pos rfl
theorem pt_ne {α : Type} {f : Nat → α} {a b : Nat} {v : α} (h : b ≠ a) : pt f a v b = f b := if_neg h
structure BF where
  d : Nat → Int
  p : Nat → Option Nat
  last : Option Nat
def relax (k : Nat) (s : Step) (S : BF) : BF := if S.d s.1 + s.2.2 < S.d s.2.1 then ⟨pt S.d s.2.1 (S.d s.1 + s.2.2), pt S.p s.2.1 (some k), some s.2.1⟩ else S

/-- the ghosts: when (T) and in which round (U) each event turned last -/
structure Gh (n : Nat) (st : Steps) (r j : Nat) (S : BF) (T U : Nat → Nat) (clk : Nat) : Prop where
  none_ : ∀ v, S.p v = none → U v = 0
  some_ : ∀ v k, S.p v = some k → ∃ s, st[k]? = some s ∧ s.2.1 = v ∧ S.d s.1 + s.2.2 ≤ S.d v ∧ U v ≤ U s.1 + 1 ∧ (S.d v = S.d s.1 + s.2.2 → T s.1 < T v)
  edge : ∀ i s, st[i]? = some s → U s.1 < (if i < j then r else r - 1) → S.d s.2.1 ≤ S.d s.1 + s.2.2
  ub : ∀ v, U v ≤ r
  tb : ∀ v, T v ≤ clk
  l0 : S.last = none → ∀ v, U v < r
  l1 : ∀ v, S.last = some v → v < n ∧ U v = r
theorem Gh.init (n : Nat) (st : Steps) : Gh n st 1 0 ⟨fun _ => 0, fun _ => none, none⟩ (fun _ => 0) (fun _ => 0) 0 where
  none_ := fun _ _ => rfl
  some_ := fun v k h => by cases h
  edge := fun i s _ h => by
    rw [if_neg (Nat.not_lt_zero _)] at h
    exact absurd h (by simp)
  ub := fun _ => Nat.zero_le _
  tb := fun _ => Nat.le_refl _
  l0 := fun _ _ => Nat.zero_lt_one
  l1 := fun v h => by cases h
theorem Gh.step {n : Nat} {st : Steps} {r j : Nat} {S : BF} {T U : Nat → Nat} {clk : Nat} {s : Step} (w : WS n st) (g : Gh n st r j S T U clk) (hs : st[j]? = some s) (r1 : 1 ≤ r) :
    ∃ T' U' clk', Gh n st r (j + 1) (relax j s S) T' U' clk' := by
  obtain ⟨hx, hy, hxy⟩ := w.at hs
  unfold relax
  by_cases c : S.d s.1 + s.2.2 < S.d s.2.1
  · rw [if_pos c]
    have ux : r - 1 ≤ U s.1 := by
      refine Nat.not_lt.mp fun q => ?_
      have := g.edge j s hs (by rw [if_neg (Nat.lt_irrefl _)]; exact q)
      omega
    refine ⟨pt T s.2.1 (clk + 1), pt U s.2.1 r, clk + 1, ?_⟩
    refine ⟨fun v h => ?_, fun v k h => ?_, fun i u hu h => ?_, fun v => ?_, fun v => ?_, fun h => ?_, fun v h => ?_⟩
    · by_cases e : v = s.2.1
      · subst e
        have h : pt S.p s.2.1 (some j) s.2.1 = none := h
        rw [pt_same] at h
        cases h
      · have h : pt S.p s.2.1 (some j) v = none := h
        rw [pt_ne e] at h
        rw [pt_ne e]
        exact g.none_ v h
    · have h : pt S.p s.2.1 (some j) v = some k := h
      show ∃ u, st[k]? = some u ∧ u.2.1 = v ∧ pt S.d s.2.1 (S.d s.1 + s.2.2) u.1 + u.2.2 ≤ pt S.d s.2.1 (S.d s.1 + s.2.2) v ∧ pt U s.2.1 r v ≤ pt U s.2.1 r u.1 + 1 ∧ (pt S.d s.2.1 (S.d s.1 + s.2.2) v = pt S.d s.2.1 (S.d s.1 + s.2.2) u.1 + u.2.2 → pt T s.2.1 (clk + 1) u.1 < pt T s.2.1 (clk + 1) v)
      by_cases e : v = s.2.1
      · subst e
        rw [pt_same] at h
        cases h
        refine ⟨s, hs, rfl, ?_⟩
        rw [pt_same, pt_ne hxy, pt_same, pt_ne hxy, pt_same, pt_ne hxy]
        have := g.tb s.1
        refine ⟨Int.le_refl _, by omega, fun _ => by omega⟩
      · rw [pt_ne e] at h
        obtain ⟨u, hu, eu, h1, h2, h3⟩ := g.some_ v k h
        refine ⟨u, hu, eu, ?_⟩
        rw [pt_ne e, pt_ne e, pt_ne e]
        by_cases e2 : u.1 = s.2.1
        · rw [e2, pt_same, pt_same, pt_same]
          rw [e2] at h1 h2 h3
          have := g.ub v
          refine ⟨by omega, by omega, fun q => by omega⟩
        · rw [pt_ne e2, pt_ne e2, pt_ne e2]
          exact ⟨h1, h2, h3⟩
    · show pt S.d s.2.1 (S.d s.1 + s.2.2) u.2.1 ≤ pt S.d s.2.1 (S.d s.1 + s.2.2) u.1 + u.2.2
      by_cases e : u.1 = s.2.1
      · rw [e, pt_same] at h
        split at h <;> omega
      · rw [pt_ne e] at h
        rw [pt_ne e]
        have low : pt S.d s.2.1 (S.d s.1 + s.2.2) u.2.1 ≤ S.d u.2.1 := by
          by_cases e2 : u.2.1 = s.2.1
          · rw [e2, pt_same]
            omega
          · rw [pt_ne e2]
            exact Int.le_refl _
        by_cases e3 : i = j
        · subst e3
          rw [hs] at hu
          cases hu
          rw [pt_same]
          exact Int.le_refl _
        · have : S.d u.2.1 ≤ S.d u.1 + u.2.2 := by
            refine g.edge i u hu ?_
            by_cases c2 : i < j
            · rw [if_pos c2]
              rw [if_pos (by omega)] at h
              exact h
            · rw [if_neg c2]
              rw [if_neg (by omega)] at h
              exact h
          omega
    · by_cases e : v = s.2.1
      · rw [e, pt_same]
        exact Nat.le_refl _
      · rw [pt_ne e]
        exact g.ub v
    · by_cases e : v = s.2.1
      · rw [e, pt_same]
        exact Nat.le_refl _
      · rw [pt_ne e]
        have := g.tb v
        omega
    · cases h
    · have e : s.2.1 = v := Option.some.inj h
      subst e
      exact ⟨hy, pt_same⟩
  · rw [if_neg c]
    refine ⟨T, U, clk, g.none_, g.some_, fun i u hu h => ?_, g.ub, g.tb, g.l0, g.l1⟩
    by_cases e3 : i = j
    · subst e3
      rw [hs] at hu
      cases hu
      omega
    · refine g.edge i u hu ?_
      by_cases c2 : i < j
      · rw [if_pos c2]
        rw [if_pos (by omega)] at h
        exact h
      · rw [if_neg c2]
        rw [if_neg (by omega)] at h
        exact h
theorem Gh.next {n : Nat} {st : Steps} {r : Nat} {S : BF} {T U : Nat → Nat} {clk : Nat} (g : Gh n st r st.length S T U clk) : Gh n st (r + 1) 0 { S with last := none } T U clk where
  none_ := g.none_
  some_ := g.some_
  edge := fun i s hs h => by
    rw [if_neg (Nat.not_lt_zero _)] at h
    refine g.edge i s hs ?_
    rw [if_pos (List.getElem?_eq_some_iff.mp hs).1]
    exact h
  ub := fun v => Nat.le_succ_of_le (g.ub v)
  tb := g.tb
  l0 := fun _ v => Nat.lt_succ_of_le (g.ub v)
  l1 := fun v h => by cases h
theorem Gh.quiet {n : Nat} {st : Steps} {r : Nat} {S : BF} {T U : Nat → Nat} {clk : Nat} (g : Gh n st r st.length S T U clk) (h : S.last = none) : Fits st S.d := fun s hs => by
  obtain ⟨i, hi, e⟩ := List.getElem_of_mem hs
  refine g.edge i s (by rw [List.getElem?_eq_getElem hi, e]) ?_
  rw [if_pos hi]
  exact g.l0 h s.1

/-! ### walking back -/
def pre (st : Steps) (S : BF) (v : Nat) : Nat := match S.p v with
  | some k => (match st[k]? with
    | some s => s.1
    | none => v)
  | none => v
def back (st : Steps) (S : BF) : Nat → Nat → Nat
  | 0, v => v
  | m + 1, v => pre st S (back st S m v)
theorem back_add (st : Steps) (S : BF) (a : Nat) : ∀ (b v : Nat), back st S (a + b) v = back st S b (back st S a v)
  | 0, _ => rfl
  | b + 1, v => by
    show pre st S (back st S (a + b) v) = pre st S (back st S b (back st S a v))
    rw [back_add st S a b v]
/-- n + 1 numbers below n: two alike -/
theorem pigeon : ∀ (n : Nat) (f : Nat → Nat), (∀ i, i ≤ n → f i < n) → ∃ i j, i < j ∧ j ≤ n ∧ f i = f j
  | 0, f, h => absurd (h 0 (Nat.le_refl _)) (Nat.not_lt_zero _)
  | n + 1, f, h => by
    by_cases c : ∃ i, i ≤ n ∧ f i = f (n + 1)
    · obtain ⟨i, hi, e⟩ := c
      exact ⟨i, n + 1, by omega, Nat.le_refl _, e⟩
    · have ne : ∀ i, i ≤ n → f i ≠ f (n + 1) := fun i hi e => c ⟨i, hi, e⟩
      have hl := h (n + 1) (Nat.le_refl _)
      obtain ⟨i, j, hij, hj, e⟩ := pigeon n (fun i => if f i < f (n + 1) then f i else f i - 1) fun i hi => by
        have h1 := h i (by omega)
        have h2 := ne i hi
        show (if f i < f (n + 1) then f i else f i - 1) < n
        split <;> omega
      have e : (if f i < f (n + 1) then f i else f i - 1) = (if f j < f (n + 1) then f j else f j - 1) := e
      have h1 := ne i (by omega)
      have h2 := ne j hj
      refine ⟨i, j, hij, by omega, ?_⟩
      split at e <;> split at e <;> omega
/-- what ring_back needs: from v on, walking back is possible for ever, among the events, and behind `many` walks a circle closes -/
structure Circ (n : Nat) (st : Steps) (S : BF) (v : Nat) : Prop where
  some_ : ∀ m, ∃ k s, S.p (back st S m v) = some k ∧ st[k]? = some s ∧ s.2.1 = back st S m v ∧ s.1 = back st S (m + 1) v
  lt : ∀ m, back st S m v < n
  per : ∃ c, 0 < c ∧ c ≤ n ∧ back st S (n + 1 + c) v = back st S (n + 1) v
theorem Gh.pre_ {n : Nat} {st : Steps} {r j : Nat} {S : BF} {T U : Nat → Nat} {clk v : Nat} (g : Gh n st r j S T U clk) (h : 1 ≤ U v) : ∃ k s, S.p v = some k ∧ st[k]? = some s ∧ s.2.1 = v ∧ s.1 = pre st S v ∧ U v ≤ U (pre st S v) + 1 := by
  cases e : S.p v with
  | none =>
    have := g.none_ v e
    omega
  | some k =>
    obtain ⟨s, hs, e1, _, h2, _⟩ := g.some_ v k e
    have ep : pre st S v = s.1 := by
      unfold pre
      rw [e]
      show (match st[k]? with
        | some s => s.1
        | none => v) = s.1
      rw [hs]
    refine ⟨k, s, rfl, hs, e1, ep.symm, ?_⟩
    rw [ep]
    exact h2
theorem Gh.circ {n : Nat} {st : Steps} {j : Nat} {S : BF} {T U : Nat → Nat} {clk v : Nat} (w : WS n st) (g : Gh n st (n + 1) j S T U clk) (h : S.last = some v) : Circ n st S v := by
  obtain ⟨hv, hU⟩ := g.l1 v h
  have up : ∀ m, m ≤ n → n + 1 - m ≤ U (back st S m v) := by
    intro m
    induction m with
    | zero =>
      intro _
      show n + 1 - 0 ≤ U v
      omega
    | succ m ih =>
      intro hm
      have h1 := ih (by omega)
      obtain ⟨k, s, _, _, _, _, h2⟩ := g.pre_ (v := back st S m v) (by omega)
      show n + 1 - (m + 1) ≤ U (pre st S (back st S m v))
      omega
  have one : ∀ m, m ≤ n → ∃ k s, S.p (back st S m v) = some k ∧ st[k]? = some s ∧ s.2.1 = back st S m v ∧ s.1 = back st S (m + 1) v := fun m hm => by
    have := up m hm
    obtain ⟨k, s, h1, h2, h3, h4, _⟩ := g.pre_ (v := back st S m v) (by omega)
    exact ⟨k, s, h1, h2, h3, h4⟩
  have lt0 : ∀ m, m ≤ n → back st S m v < n := fun m hm => by
    obtain ⟨k, s, _, hs, e, _⟩ := one m hm
    rw [← e]
    exact (w.at hs).2.1
  obtain ⟨a, b, hab, hb, e⟩ := pigeon n (fun m => back st S m v) lt0
  have e : back st S a v = back st S b v := e
  -- from a on, with the period b - a
  have per : ∀ m, a ≤ m → back st S (m + (b - a)) v = back st S m v := fun m hm => by
    have e1 : m + (b - a) = b + (m - a) := by omega
    have e2 : m = a + (m - a) := by omega
    rw [e1, back_add, ← e, ← back_add, ← e2]
  have all : ∀ m, ∃ m', m' ≤ n ∧ back st S m v = back st S m' v ∧ back st S (m + 1) v = back st S (m' + 1) v := by
    intro m
    induction m using Nat.strongRecOn with
    | ind m ih =>
      by_cases c : m ≤ n
      · exact ⟨m, c, rfl, rfl⟩
      · obtain ⟨m', h1, h2, h3⟩ := ih (m - (b - a)) (by omega)
        have p1 := per (m - (b - a)) (by omega)
        have p2 := per (m - (b - a) + 1) (by omega)
        rw [show m - (b - a) + (b - a) = m by omega] at p1
        rw [show m - (b - a) + 1 + (b - a) = m + 1 by omega] at p2
        exact ⟨m', h1, p1.trans h2, p2.trans h3⟩
  refine ⟨fun m => ?_, fun m => ?_, b - a, by omega, by omega, per (n + 1) (by omega)⟩
  · obtain ⟨m', h1, h2, h3⟩ := all m
    rw [h2, h3]
    exact one m' h1
  · obtain ⟨m', h1, h2, _⟩ := all m
    rw [h2]
    exact lt0 m' h1
/-- the numbers of the steps met while walking back from u, c of them, the last one first -/
def trail (st : Steps) (S : BF) (u : Nat) : Nat → List Nat
  | 0 => []
  | c + 1 => ((S.p (back st S c u)).getD 0) :: trail st S u c
theorem Gh.trail_ {n : Nat} {st : Steps} {r j : Nat} {S : BF} {T U : Nat → Nat} {clk u : Nat} (g : Gh n st r j S T U clk) (h : ∀ m, ∃ k s, S.p (back st S m u) = some k ∧ st[k]? = some s ∧ s.2.1 = back st S m u ∧ s.1 = back st S (m + 1) u) :
    ∀ c, Chain st (back st S c u) (trail st S u c) u ∧ total st (trail st S u c) ≤ S.d u - S.d (back st S c u) ∧ (total st (trail st S u c) = S.d u - S.d (back st S c u) → 0 < c → T (back st S c u) < T u)
  | 0 => ⟨rfl, by
      show (0 : Int) ≤ S.d u - S.d u
      omega, fun _ z => absurd z (Nat.lt_irrefl _)⟩
  | c + 1 => by
    obtain ⟨h1, h2, h3⟩ := g.trail_ h c
    obtain ⟨k, s, hk, hs, e1, e2⟩ := h c
    obtain ⟨s', hs', _, q1, _, q3⟩ := g.some_ _ k hk
    rw [hs] at hs'
    cases hs'
    have et : trail st S u (c + 1) = k :: trail st S u c := by
      show ((S.p (back st S c u)).getD 0) :: trail st S u c = _
      rw [hk]
      rfl
    rw [e2] at q1 q3
    refine ⟨?_, ?_, ?_⟩
    · rw [et]
      exact ⟨s, hs, e2, by rw [e1]; exact h1⟩
    · rw [et, total_cons hs]
      omega
    · rw [et, total_cons hs]
      intro q _
      have t1 := q3 (by omega)
      by_cases c0 : c = 0
      · subst c0
        exact t1
      · have t2 := h3 (by omega) (by omega)
        omega
theorem Gh.ring {n : Nat} {st : Steps} {r j : Nat} {S : BF} {T U : Nat → Nat} {clk u c : Nat} (g : Gh n st r j S T U clk) (h : ∀ m, ∃ k s, S.p (back st S m u) = some k ∧ st[k]? = some s ∧ s.2.1 = back st S m u ∧ s.1 = back st S (m + 1) u)
    (hc : 0 < c) (e : back st S c u = u) : Ring st (trail st S u c) := by
  obtain ⟨h1, h2, h3⟩ := g.trail_ h c
  rw [e] at h1 h2 h3
  refine ⟨?_, ⟨u, h1⟩, ?_⟩
  · cases c with
    | zero => exact absurd hc (Nat.lt_irrefl _)
    | succ c => exact List.cons_ne_nil _ _
  · by_cases q : total st (trail st S u c) = 0
    · have := h3 (by omega) hc
      omega
    · omega

/-! ### a ring, as the checker looks at it -/
theorem Chain.lt {st : Steps} : ∀ (ks : List Nat) (a b : Nat), Chain st a ks b → ∀ k ∈ ks, k < st.length
  | [], _, _, _, k, h => by cases h
  | q :: ks, a, b, ⟨s, hs, _, c⟩, k, h => by
    rcases List.mem_cons.mp h with e | h
    · rw [e]
      exact (List.getElem?_eq_some_iff.mp hs).1
    · exact Chain.lt ks _ _ c k h
/-- the step numbered ks[i] goes on from where ks[i - 1] came -/
theorem Chain.go {st : Steps} : ∀ (ks : List Nat) (a b : Nat), Chain st a ks b → ∀ (i k j : Nat) (s u : Step), ks[i + 1]? = some k → ks[i]? = some j → st[k]? = some s → st[j]? = some u → u.2.1 = s.1
  | [], _, _, _, i, k, j, s, u, h, _, _, _ => by simp at h
  | q :: ks, a, b, ⟨v, hv, _, c⟩, 0, k, j, s, u, h1, h2, h3, h4 => by
    have e : q = j := by simpa using h2
    subst e
    rw [hv] at h4
    cases h4
    cases ks with
    | nil => simp at h1
    | cons q2 ks =>
      have e : q2 = k := by simpa using h1
      subst e
      obtain ⟨v2, hv2, e2, _⟩ := c
      rw [hv2] at h3
      cases h3
      exact e2.symm
  | q :: ks, a, b, ⟨v, hv, _, c⟩, i + 1, k, j, s, u, h1, h2, h3, h4 => Chain.go ks _ _ c i k j s u (by simpa using h1) (by simpa using h2) h3 h4
theorem Chain.first {st : Steps} {ks : List Nat} {a b k : Nat} {s : Step} (c : Chain st a ks b) (h : ks[0]? = some k) (hs : st[k]? = some s) : s.1 = a := by
  cases ks with
  | nil => simp at h
  | cons q ks =>
    have e : q = k := by simpa using h
    subst e
    obtain ⟨v, hv, e, _⟩ := c
    rw [hs] at hv
    cases hv
    exact e
theorem Chain.last {st : Steps} : ∀ (ks : List Nat) (a b : Nat), Chain st a ks b → ∀ (k : Nat) (u : Step), ks.getLast? = some k → st[k]? = some u → u.2.1 = b
  | [], _, _, _, k, u, h, _ => by simp at h
  | [q], a, b, ⟨v, hv, _, c⟩, k, u, h, hu => by
    have e : q = k := by simpa using h
    subst e
    rw [hu] at hv
    cases hv
    exact c
  | q :: q2 :: ks, a, b, ⟨v, hv, _, c⟩, k, u, h, hu => Chain.last (q2 :: ks) _ _ c k u (by rw [List.getLast?_cons_cons] at h; exact h) hu
theorem Ring.c {st : Steps} {ks : List Nat} (r : Ring st ks) : RingC st ks := by
  obtain ⟨a, c⟩ := r.go
  refine ⟨r.ne, c.lt, fun i k j s u h1 h2 h3 h4 => ?_, r.neg⟩
  cases i with
  | zero =>
    rw [if_pos rfl] at h2
    exact (c.last _ _ _ j u h2 h4).trans (c.first h1 h3).symm
  | succ i =>
    rw [if_neg (Nat.succ_ne_zero i)] at h2
    exact c.go _ _ _ i k j s u h1 h2 h3 h4

/-! ### the queue ends -/
def sumTo : Nat → (Nat → Nat) → Nat
  | 0, _ => 0
  | n + 1, f => sumTo n f + f n
theorem sumTo_le {f : Nat → Nat} : ∀ {n v : Nat}, v < n → f v ≤ sumTo n f
  | 0, v, h => absurd h (Nat.not_lt_zero _)
  | n + 1, v, h => by
    show f v ≤ sumTo n f + f n
    by_cases e : v = n
    · subst e
      omega
    · have := sumTo_le (f := f) (n := n) (v := v) (by omega)
      omega
theorem sumTo_eq {f g : Nat → Nat} : ∀ {n : Nat}, (∀ v, v < n → f v = g v) → sumTo n f = sumTo n g
  | 0, _ => rfl
  | n + 1, h => by
    show sumTo n f + f n = sumTo n g + g n
    rw [sumTo_eq (n := n) fun v hv => h v (by omega), h n (by omega)]
theorem sumTo_pt {f g : Nat → Nat} : ∀ {n v : Nat}, v < n → (∀ u, u ≠ v → g u = f u) → sumTo n g + f v = sumTo n f + g v
  | 0, v, h, _ => absurd h (Nat.not_lt_zero _)
  | n + 1, v, h, k => by
    show sumTo n g + g n + f v = sumTo n f + f n + g v
    by_cases e : v = n
    · subst e
      rw [sumTo_eq (f := g) (g := f) (n := v) fun u hu => k u (by omega)]
      omega
    · have h1 := sumTo_pt (f := f) (g := g) (n := n) (v := v) (by omega) k
      have h2 := k n (fun z => e z.symm)
      omega
theorem sumTo_one {f : Nat → Nat} : ∀ {n : Nat}, (∀ v, f v ≤ 1) → sumTo n f ≤ n
  | 0, _ => Nat.le_refl _
  | n + 1, h => by
    have h1 := sumTo_one (f := f) (n := n) h
    have h2 := h n
    show sumTo n f + f n ≤ n + 1
    omega
def wm (st : Steps) : Nat := (st.map fun s => s.2.2.natAbs).sum
theorem wm_ge : ∀ {st : Steps} {s : Step}, s ∈ st → s.2.2 ≤ (wm st : Int)
  | [], s, h => by cases h
  | q :: st, s, h => by
    have e : wm (q :: st) = q.2.2.natAbs + wm st := by
      unfold wm
      rw [List.map_cons, List.sum_cons]
    rw [e]
    rcases List.mem_cons.mp h with z | z
    · rw [z]
      omega
    · have := wm_ge z
      omega
def one (o : Option Int) : Nat := match o with
  | some _ => 1
  | none => 0
def cnt (n : Nat) (d : Nat → Option Int) : Nat := sumTo n fun v => one (d v)
theorem cnt_le (n : Nat) (d : Nat → Option Int) : cnt n d ≤ n := sumTo_one fun v => by
  unfold one
  split <;> omega
def lm (n : Nat) (t : Nat → Int) (x : Nat) : Nat := sumTo n fun v => (t v - t x).natAbs
def top (n : Nat) (st : Steps) (t : Nat → Int) (x : Nat) : Nat := n * wm st + lm n t x + 1
def pot (n : Nat) (st : Steps) (t : Nat → Int) (x : Nat) (d : Nat → Option Int) (v : Nat) : Nat := match d v with
  | none => top n st t x
  | some z => (z - (t v - t x)).toNat
structure SQ (n : Nat) (st : Steps) (t : Nat → Int) (x : Nat) (d : Nat → Option Int) : Prop where
  lo : ∀ v z, d v = some z → v < n ∧ t v - t x ≤ z
  hi : ∀ v z, d v = some z → z ≤ (cnt n d : Int) * wm st
def pots (n : Nat) (st : Steps) (t : Nat → Int) (x : Nat) (d : Nat → Option Int) : Nat := sumTo n (pot n st t x d)
theorem SQ.init {n : Nat} {st : Steps} {t : Nat → Int} {x : Nat} (h : x < n) : SQ n st t x (pt (fun _ => none) x (some 0)) := by
  refine ⟨fun v z q => ?_, fun v z q => ?_⟩
  · by_cases e : v = x
    · subst e
      rw [pt_same] at q
      cases q
      exact ⟨h, by omega⟩
    · rw [pt_ne e] at q
      cases q
  · by_cases e : v = x
    · subst e
      rw [pt_same] at q
      cases q
      exact Int.mul_nonneg (Int.natCast_nonneg _) (Int.natCast_nonneg _)
    · rw [pt_ne e] at q
      cases q
theorem SQ.upd {n : Nat} {st : Steps} {t : Nat → Int} {x : Nat} {d : Nat → Option Int} {s : Step} {a : Int} (w : WS n st) (f : Fits st t) (q : SQ n st t x d) (hs : s ∈ st) (ha : d s.1 = some a) (hl : ∀ z, d s.2.1 = some z → a + s.2.2 < z) :
    SQ n st t x (pt d s.2.1 (some (a + s.2.2))) ∧ pots n st t x (pt d s.2.1 (some (a + s.2.2))) + 1 ≤ pots n st t x d := by
  obtain ⟨hx, hy, _⟩ := w.ok s hs
  have hf := f s hs
  have h1 := (q.lo _ _ ha).2
  have h2 := q.hi _ _ ha
  have h3 := wm_ge hs
  have cs : cnt n (pt d s.2.1 (some (a + s.2.2))) + one (d s.2.1) = cnt n d + 1 := by
    have := sumTo_pt (f := fun v => one (d v)) (g := fun v => one (pt d s.2.1 (some (a + s.2.2)) v)) (n := n) hy fun u hu => by
      show one (pt d s.2.1 (some (a + s.2.2)) u) = one (d u)
      rw [pt_ne hu]
    have e : one (pt d s.2.1 (some (a + s.2.2)) s.2.1) = 1 := by
      rw [pt_same]
      rfl
    rw [e] at this
    exact this
  have q' : SQ n st t x (pt d s.2.1 (some (a + s.2.2))) := by
    refine ⟨fun v z e => ?_, fun v z e => ?_⟩
    · by_cases c : v = s.2.1
      · subst c
        rw [pt_same] at e
        cases e
        exact ⟨hy, by omega⟩
      · rw [pt_ne c] at e
        exact q.lo v z e
    · have mono : (cnt n d : Int) * wm st ≤ (cnt n (pt d s.2.1 (some (a + s.2.2))) : Int) * wm st := by
        refine Int.mul_le_mul_of_nonneg_right ?_ (Int.natCast_nonneg _)
        have : one (d s.2.1) ≤ 1 := by
          unfold one
          split <;> omega
        omega
      by_cases c : v = s.2.1
      · subst c
        rw [pt_same] at e
        cases e
        cases e2 : d s.2.1 with
        | none =>
          rw [e2] at cs
          have cs : cnt n (pt d s.2.1 (some (a + s.2.2))) + 0 = cnt n d + 1 := cs
          have e3 : (cnt n (pt d s.2.1 (some (a + s.2.2))) : Int) = (cnt n d : Int) + 1 := by omega
          rw [e3, Int.add_mul, Int.one_mul]
          omega
        | some z0 =>
          have := hl z0 e2
          have := q.hi _ _ e2
          omega
      · rw [pt_ne c] at e
        have := q.hi v z e
        omega
  refine ⟨q', ?_⟩
  have ps := sumTo_pt (f := pot n st t x d) (g := pot n st t x (pt d s.2.1 (some (a + s.2.2)))) (n := n) hy fun u hu => by
    unfold pot
    rw [pt_ne hu]
  have e1 : pot n st t x (pt d s.2.1 (some (a + s.2.2))) s.2.1 = (a + s.2.2 - (t s.2.1 - t x)).toNat := by
    unfold pot
    rw [pt_same]
  have lt : pot n st t x (pt d s.2.1 (some (a + s.2.2))) s.2.1 + 1 ≤ pot n st t x d s.2.1 := by
    rw [e1]
    cases e2 : d s.2.1 with
    | none =>
      have e3 : pot n st t x d s.2.1 = top n st t x := by
        unfold pot
        rw [e2]
      rw [e3]
      have h4 := q'.hi s.2.1 (a + s.2.2) pt_same
      have h5 : (cnt n (pt d s.2.1 (some (a + s.2.2))) : Int) * wm st ≤ (n : Int) * wm st := Int.mul_le_mul_of_nonneg_right (by have := cnt_le n (pt d s.2.1 (some (a + s.2.2))); omega) (Int.natCast_nonneg _)
      have h6 : (t s.2.1 - t x).natAbs ≤ lm n t x := sumTo_le (f := fun v => (t v - t x).natAbs) hy
      unfold top
      have h7 : ((n * wm st : Nat) : Int) = (n : Int) * wm st := Int.natCast_mul ..
      omega
    | some z0 =>
      have h4 := hl z0 e2
      have e3 : pot n st t x d s.2.1 = (z0 - (t s.2.1 - t x)).toNat := by
        unfold pot
        rw [e2]
      rw [e3]
      have := (q'.lo s.2.1 _ pt_same).2
      omega
  unfold pots
  omega
end KM
namespace KM
/-! Fractions whose denominator divides 120, as whole numbers (120 times as great). -/
def gz (z : Int) : Nat := Nat.gcd z.natAbs 120
def fn (z : Int) : Int := z / (gz z : Int)
def fd (z : Int) : Int := 120 / (gz z : Int)
theorem gz_pos (z : Int) : 0 < gz z := Nat.gcd_pos_of_pos_right _ (by decide)
theorem gz_le (z : Int) : gz z ≤ 120 := Nat.le_of_dvd (by decide) (Nat.gcd_dvd_right ..)
theorem fn_eq (z : Int) : fn z * (gz z : Int) = z := Int.ediv_mul_cancel (Int.ofNat_dvd_left.mpr (Nat.gcd_dvd_left ..))
theorem fd_eq (z : Int) : fd z * (gz z : Int) = 120 := Int.ediv_mul_cancel (by
  have h : gz z ∣ 120 := Nat.gcd_dvd_right ..
  exact Int.natCast_dvd_natCast.mpr h)
theorem fd_pos (z : Int) : 0 < fd z := by
  have h1 := fd_eq z
  have h2 := gz_pos z
  rcases Int.lt_or_le 0 (fd z) with h | h
  · exact h
  · have : fd z * (gz z : Int) ≤ 0 := Int.mul_nonpos_of_nonpos_of_nonneg h (by omega)
    omega
theorem fd_le (z : Int) : fd z ≤ 120 := by
  have h1 := fd_eq z
  have h2 := gz_pos z
  have h3 := fd_pos z
  have : fd z * 1 ≤ fd z * (gz z : Int) := Int.mul_le_mul_of_nonneg_left (by omega) (by omega)
  omega
/-- the one equation by which a fraction is known -/
theorem fr_eq (z : Int) : z * fd z = 120 * fn z := by
  have h1 := fn_eq z
  have h2 := fd_eq z
  calc z * fd z = fn z * (gz z : Int) * fd z := by rw [h1]
    _ = fn z * (fd z * (gz z : Int)) := by rw [Int.mul_assoc, Int.mul_comm (gz z : Int)]
    _ = 120 * fn z := by rw [h2, Int.mul_comm]
theorem fr_abs (z : Int) : (fn z).natAbs * gz z = z.natAbs ∧ (fd z).natAbs * gz z = 120 := by
  have h1 := congrArg Int.natAbs (fn_eq z)
  have h2 := congrArg Int.natAbs (fd_eq z)
  rw [Int.natAbs_mul] at h1 h2
  exact ⟨h1, h2⟩
theorem fr_cop (z : Int) : Nat.gcd (fn z).natAbs (fd z).natAbs = 1 := by
  obtain ⟨h1, h2⟩ := fr_abs z
  have h3 : gz z * Nat.gcd (fn z).natAbs (fd z).natAbs = gz z * 1 := by
    rw [← Nat.gcd_mul_left, Nat.mul_comm _ (fn z).natAbs, Nat.mul_comm _ (fd z).natAbs, h1, h2, Nat.mul_one]
    rfl
  exact Nat.eq_of_mul_eq_mul_left (gz_pos z) h3
/-- a parted by b, written in its one way -/
theorem ratio_eq {a b z : Int} (hb : 0 < b) (h : z * b = 120 * a) : a / (Nat.gcd a.natAbs b.natAbs : Int) = fn z ∧ b / (Nat.gcd a.natAbs b.natAbs : Int) = fd z := by
  have gp : 0 < Nat.gcd a.natAbs b.natAbs := Nat.gcd_pos_of_pos_right _ (by omega)
  obtain ⟨a', ha⟩ : (Nat.gcd a.natAbs b.natAbs : Int) ∣ a := Int.ofNat_dvd_left.mpr (Nat.gcd_dvd_left ..)
  obtain ⟨b', hb'⟩ : (Nat.gcd a.natAbs b.natAbs : Int) ∣ b := Int.ofNat_dvd_left.mpr (Nat.gcd_dvd_right ..)
  have cop : Nat.gcd a'.natAbs b'.natAbs = 1 := by
    have e1 := congrArg Int.natAbs ha
    have e2 := congrArg Int.natAbs hb'
    rw [Int.natAbs_mul, Int.natAbs_natCast] at e1 e2
    have h3 : Nat.gcd a.natAbs b.natAbs * Nat.gcd a'.natAbs b'.natAbs = Nat.gcd a.natAbs b.natAbs * 1 := by
      rw [← Nat.gcd_mul_left, ← e1, ← e2, Nat.mul_one]
    exact Nat.eq_of_mul_eq_mul_left gp h3
  have g0 : (Nat.gcd a.natAbs b.natAbs : Int) ≠ 0 := by omega
  have da : a / (Nat.gcd a.natAbs b.natAbs : Int) = a' := by
    have : a / (Nat.gcd a.natAbs b.natAbs : Int) = ((Nat.gcd a.natAbs b.natAbs : Int) * a') / (Nat.gcd a.natAbs b.natAbs : Int) := congrArg (· / (Nat.gcd a.natAbs b.natAbs : Int)) ha
    rw [this, Int.mul_ediv_cancel_left _ g0]
  have db : b / (Nat.gcd a.natAbs b.natAbs : Int) = b' := by
    have : b / (Nat.gcd a.natAbs b.natAbs : Int) = ((Nat.gcd a.natAbs b.natAbs : Int) * b') / (Nat.gcd a.natAbs b.natAbs : Int) := congrArg (· / (Nat.gcd a.natAbs b.natAbs : Int)) hb'
    rw [this, Int.mul_ediv_cancel_left _ g0]
  have bp : 0 < b' := by
    rcases Int.lt_or_le 0 b' with c | c
    · exact c
    · have : (Nat.gcd a.natAbs b.natAbs : Int) * b' ≤ 0 := Int.mul_nonpos_of_nonneg_of_nonpos (by omega) c
      omega
  -- z b' = 120 a', and so fn z * b' = fd z * a'
  have h1 : z * b' = 120 * a' := by
    have : (Nat.gcd a.natAbs b.natAbs : Int) * (z * b') = (Nat.gcd a.natAbs b.natAbs : Int) * (120 * a') := by
      calc (Nat.gcd a.natAbs b.natAbs : Int) * (z * b') = z * ((Nat.gcd a.natAbs b.natAbs : Int) * b') := Int.mul_left_comm ..
        _ = z * b := by rw [← hb']
        _ = 120 * a := h
        _ = 120 * ((Nat.gcd a.natAbs b.natAbs : Int) * a') := by rw [← ha]
        _ = (Nat.gcd a.natAbs b.natAbs : Int) * (120 * a') := Int.mul_left_comm ..
    exact Int.eq_of_mul_eq_mul_left g0 this
  have gz0 : (gz z : Int) ≠ 0 := by
    have := gz_pos z
    omega
  have h2 : fn z * b' = fd z * a' := by
    have : (gz z : Int) * (fn z * b') = (gz z : Int) * (fd z * a') := by
      calc (gz z : Int) * (fn z * b') = fn z * (gz z : Int) * b' := by rw [← Int.mul_assoc, Int.mul_comm (gz z : Int)]
        _ = z * b' := by rw [fn_eq]
        _ = 120 * a' := h1
        _ = fd z * (gz z : Int) * a' := by rw [fd_eq]
        _ = (gz z : Int) * (fd z * a') := by rw [← Int.mul_assoc, Int.mul_comm (gz z : Int)]
    exact Int.eq_of_mul_eq_mul_left gz0 this
  have h3 : (fn z).natAbs * b'.natAbs = (fd z).natAbs * a'.natAbs := by
    have := congrArg Int.natAbs h2
    rwa [Int.natAbs_mul, Int.natAbs_mul] at this
  have d1 : b'.natAbs ∣ (fd z).natAbs := by
    have : b'.natAbs ∣ (fd z).natAbs * a'.natAbs := ⟨(fn z).natAbs, by rw [← h3, Nat.mul_comm]⟩
    exact Nat.Coprime.dvd_of_dvd_mul_right (by show Nat.gcd b'.natAbs a'.natAbs = 1; rw [Nat.gcd_comm]; exact cop) this
  have d2 : (fd z).natAbs ∣ b'.natAbs := by
    have : (fd z).natAbs ∣ (fn z).natAbs * b'.natAbs := ⟨a'.natAbs, h3⟩
    exact Nat.Coprime.dvd_of_dvd_mul_left (by show Nat.gcd (fd z).natAbs (fn z).natAbs = 1; rw [Nat.gcd_comm]; exact fr_cop z) this
  have e1 : b' = fd z := by
    have := Nat.dvd_antisymm d1 d2
    have := fd_pos z
    omega
  have e2 : a' = fn z := by
    rw [e1] at h2
    have : fd z * fn z = fd z * a' := by rw [Int.mul_comm]; exact h2
    exact (Int.eq_of_mul_eq_mul_left (by have := fd_pos z; omega) this).symm
  exact ⟨da.trans e2, db.trans e1⟩
theorem add_eq (x y : Int) : (x + y) * (fd x * fd y) = 120 * (fn x * fd y + fn y * fd x) := by
  have h1 := fr_eq x
  have h2 := fr_eq y
  calc (x + y) * (fd x * fd y) = x * fd x * fd y + y * fd y * fd x := by
        rw [Int.add_mul, Int.mul_assoc, Int.mul_assoc, Int.mul_comm (fd y) (fd x)]
    _ = 120 * fn x * fd y + 120 * fn y * fd x := by rw [h1, h2]
    _ = 120 * (fn x * fd y + fn y * fd x) := by rw [Int.mul_add, Int.mul_assoc, Int.mul_assoc]
theorem sub_eq (x y : Int) : (x - y) * (fd x * fd y) = 120 * (fn x * fd y - fn y * fd x) := by
  have h1 := fr_eq x
  have h2 := fr_eq y
  calc (x - y) * (fd x * fd y) = x * fd x * fd y - y * fd y * fd x := by
        rw [Int.sub_mul, Int.mul_assoc, Int.mul_assoc, Int.mul_comm (fd y) (fd x)]
    _ = 120 * fn x * fd y - 120 * fn y * fd x := by rw [h1, h2]
    _ = 120 * (fn x * fd y - fn y * fd x) := by rw [Int.mul_sub, Int.mul_assoc, Int.mul_assoc]
theorem part_eq {x y z : Int} (h : z * y = 120 * x) : z * (fd x * fn y) = 120 * (fn x * fd y) := by
  have h1 := fr_eq x
  have h2 := fr_eq y
  have : 120 * (z * (fd x * fn y)) = 120 * (120 * (fn x * fd y)) := by
    calc 120 * (z * (fd x * fn y)) = z * fd x * (120 * fn y) := by
          rw [← Int.mul_assoc z, Int.mul_left_comm]
      _ = z * fd x * (y * fd y) := by rw [h2]
      _ = z * y * (fd x * fd y) := by
          rw [Int.mul_assoc, Int.mul_assoc, Int.mul_left_comm (fd x) y]
      _ = 120 * x * (fd x * fd y) := by rw [h]
      _ = 120 * (x * fd x * fd y) := by rw [Int.mul_assoc, Int.mul_assoc]
      _ = 120 * (120 * (fn x * fd y)) := by rw [h1, Int.mul_assoc]
  exact Int.eq_of_mul_eq_mul_left (by decide) this
theorem below_iff (x y : Int) : fn x * fd y < fn y * fd x ↔ x < y := by
  have h1 := fr_eq x
  have h2 := fr_eq y
  have p : 0 < fd x * fd y := Int.mul_pos (fd_pos x) (fd_pos y)
  have e1 : 120 * (fn x * fd y) = x * (fd x * fd y) := by rw [← Int.mul_assoc, ← h1, Int.mul_assoc]
  have e2 : 120 * (fn y * fd x) = y * (fd x * fd y) := by rw [← Int.mul_assoc, ← h2, Int.mul_assoc, Int.mul_comm (fd y)]
  have e3 : x * (fd x * fd y) < y * (fd x * fd y) ↔ x < y := ⟨fun q => Int.lt_of_mul_lt_mul_right q (Int.le_of_lt p), fun q => Int.mul_lt_mul_of_pos_right q p⟩
  rw [← e3, ← e1, ← e2]
  omega
theorem fn_le {z : Int} (h : 0 ≤ z) : fn z ≤ z := by
  have := gz_pos z
  exact Int.ediv_le_self _ h
theorem fn_pos {z : Int} (h : 0 < z) : 0 < fn z := by
  have h1 := fn_eq z
  have h2 := gz_pos z
  rcases Int.lt_or_le 0 (fn z) with c | c
  · exact c
  · have : fn z * (gz z : Int) ≤ 0 := Int.mul_nonpos_of_nonpos_of_nonneg c (by omega)
    omega
theorem later_eq (x : Int) : (x + 280) * (3 * fd x) = 120 * (fn x * 3 + 7 * fd x) := by
  have h1 := fr_eq x
  have : (x + 280) * (3 * fd x) = 3 * (x * fd x) + 840 * fd x := by
    rw [Int.add_mul, Int.mul_left_comm]
    omega
  rw [this, h1]
  omega
theorem quarter {z q : Int} (h : z = 30 * q) : fn z * 4 / fd z = q := by
  have h1 := fr_eq z
  have h2 := fd_pos z
  have h0 : z * fd z = 30 * (q * fd z) := by rw [h, Int.mul_assoc]
  have h3 : fn z * 4 = q * fd z := by omega
  rw [h3, Int.mul_ediv_cancel _ (by omega)]
theorem open_ge (d z : Int) : fn z ≤ d * fd z ↔ z ≤ 120 * d := by
  have h1 := fr_eq z
  have h2 := fd_pos z
  have e : 120 * (d * fd z) = 120 * d * fd z := (Int.mul_assoc ..).symm
  have e3 : z * fd z ≤ 120 * d * fd z ↔ z ≤ 120 * d := ⟨fun q => Int.le_of_mul_le_mul_right q h2, fun q => Int.mul_le_mul_of_nonneg_right q (Int.le_of_lt h2)⟩
  rw [← e3, h1, ← e]
  omega
theorem open_le (d z : Int) : d * fd z ≤ fn z ↔ 120 * d ≤ z := by
  have h1 := fr_eq z
  have h2 := fd_pos z
  have e : 120 * (d * fd z) = 120 * d * fd z := (Int.mul_assoc ..).symm
  have e3 : 120 * d * fd z ≤ z * fd z ↔ 120 * d ≤ z := ⟨fun q => Int.le_of_mul_le_mul_right q h2, fun q => Int.mul_le_mul_of_nonneg_right q (Int.le_of_lt h2)⟩
  rw [← e3, h1, ← e]
  omega
theorem gcd_turn {a b : Int} (ha : 0 ≤ a) (hb : 0 < b) : Nat.gcd b.toNat (a % b).toNat = Nat.gcd a.toNat b.toNat := by
  obtain ⟨m, rfl⟩ := Int.eq_ofNat_of_zero_le ha
  obtain ⟨n, rfl⟩ := Int.eq_ofNat_of_zero_le (Int.le_of_lt hb)
  have : ((m : Int) % (n : Int)).toNat = m % n := by
    rw [← Int.natCast_emod, Int.toNat_natCast]
  rw [this, Int.toNat_natCast, Int.toNat_natCast, Nat.gcd_comm n, ← Nat.gcd_rec, Nat.gcd_comm]
end KM
namespace KM
/-! Histories, their steps, and times that are drawn. Fractions are whole numbers here: 120 times as great. -/
structure House (N : Type) where
  name : N
  slow : Int
  fast : Int
structure Lnk (N : Type) where
  src : N
  dst : N
  least : Int
  most : Option Int
inductive Deed where
  | mark
  | send (l : Nat)
  | hear (k : Nat)
structure Evt (N : Type) where
  house : N
  stamp : Int
  deed : Deed
structure Fld (N : Type) where
  homes : List (House N)
  links : List (Lnk N)
  source : N
structure Hist (N : Type) where
  f : Fld N
  ev : List (Evt N)
section
variable {N : Type} [DecidableEq N]
/-- the last event of a house below a number -/
def lastA (ev : List (Evt N)) (nm : N) : Nat → Option Nat
  | 0 => none
  | x + 1 => match ev[x]? with
    | some e => if e.house = nm then some x else lastA ev nm x
    | none => lastA ev nm x
def rates (hs : List (House N)) (nm : N) : Option (Int × Int) := match hs with
  | [] => none
  | h :: r => if h.name = nm then some (h.slow, h.fast) else rates r nm
def ownS (h : Hist N) (y : Nat) (e : Evt N) : Steps := match lastA h.ev e.house y with
  | none => []
  | some x => match h.ev[x]? with
    | none => []
    | some u => match rates h.f.homes u.house with
      | none => []
      | some (slow, fast) => [(x, y, 120 * (e.stamp - u.stamp) / slow), (y, x, 0 - 120 * (e.stamp - u.stamp) / fast)]
/-- the send that is heard, and its link -/
def heard (h : Hist N) (e : Evt N) : Option (Nat × Lnk N) := match e.deed with
  | .hear k => (match h.ev[k]? with
    | some u => (match u.deed with
      | .send l => (match h.f.links[l]? with
        | some lk => some (k, lk)
        | none => none)
      | _ => none)
    | none => none)
  | _ => none
def hearS (h : Hist N) (y : Nat) (e : Evt N) : Steps := match heard h e with
  | none => []
  | some (k, lk) => (match lk.most with
    | some m => [(k, y, m)]
    | none => []) ++ [(y, k, 0 - lk.least)]
def stepsTo (h : Hist N) (y : Nat) : Steps := match h.ev[y]? with
  | none => []
  | some e => ownS h y e ++ hearS h y e
def stepsUp (h : Hist N) : Nat → Steps
  | 0 => []
  | y + 1 => stepsUp h y ++ stepsTo h y
def steps (h : Hist N) : Steps := stepsUp h h.ev.length

structure WFH (h : House N) (q r : Int) : Prop where
  sl : h.slow = 30 * q
  fa : h.fast = 30 * r
  q0 : 0 < q
  q4 : q ≤ 4
  r4 : 4 ≤ r
  r8 : r ≤ 8
  dq : q ∣ 120
  dr : r ∣ 120
structure WFF (f : Fld N) : Prop where
  nd : (f.homes.map (·.name)).Nodup
  rate : ∀ h ∈ f.homes, ∃ q r, WFH h q r
  len : f.homes.length ≤ 6
  lln : f.links.length ≤ 20
def WFD (f : Fld N) (ev : List (Evt N)) (k : Nat) : Deed → Prop
  | .mark => True
  | .send l => l < f.links.length
  | .hear j => j < k ∧ ∃ e l, ev[j]? = some e ∧ e.deed = .send l ∧ l < f.links.length
structure WFE (f : Fld N) (ev : List (Evt N)) (k : Nat) (e : Evt N) : Prop where
  house : e.house ∈ f.homes.map (·.name)
  stamp : ∃ q, e.stamp = 30 * q
  deed : WFD f ev k e.deed
structure WF (h : Hist N) : Prop where
  f : WFF h.f
  ev : ∀ k e, h.ev[k]? = some e → WFE h.f h.ev k e
  len : h.ev.length ≤ 20

theorem lastA_some {ev : List (Evt N)} {nm : N} : ∀ {y x : Nat}, lastA ev nm y = some x → x < y ∧ ∃ e, ev[x]? = some e ∧ e.house = nm
  | 0, x, h => by cases h
  | y + 1, x, h => by
    unfold lastA at h
    cases e : ev[y]? with
    | none =>
      rw [e] at h
      obtain ⟨h1, h2⟩ := lastA_some (y := y) (x := x) h
      exact ⟨by omega, h2⟩
    | some u =>
      rw [e] at h
      have h : (if u.house = nm then some y else lastA ev nm y) = some x := h
      by_cases c : u.house = nm
      · rw [if_pos c] at h
        cases h
        exact ⟨Nat.lt_succ_self _, u, e, c⟩
      · rw [if_neg c] at h
        obtain ⟨h1, h2⟩ := lastA_some (y := y) (x := x) h
        exact ⟨by omega, h2⟩
theorem lastA_congr {ev ev' : List (Evt N)} {nm : N} : ∀ {y : Nat}, (∀ x, x < y → (ev[x]?).map (·.house) = (ev'[x]?).map (·.house)) → lastA ev nm y = lastA ev' nm y
  | 0, _ => rfl
  | y + 1, h => by
    have ih := lastA_congr (ev := ev) (ev' := ev') (nm := nm) (y := y) fun x hx => h x (by omega)
    have hy := h y (Nat.lt_succ_self _)
    unfold lastA
    cases e1 : ev[y]? with
    | none =>
      cases e2 : ev'[y]? with
      | none => exact ih
      | some u2 =>
        rw [e1, e2] at hy
        cases hy
    | some u1 =>
      cases e2 : ev'[y]? with
      | none =>
        rw [e1, e2] at hy
        cases hy
      | some u2 =>
        rw [e1, e2] at hy
        have hh : u1.house = u2.house := Option.some.inj hy
        show (if u1.house = nm then some y else lastA ev nm y) = (if u2.house = nm then some y else lastA ev' nm y)
        rw [hh, ih]
theorem rates_mem : ∀ {hs : List (House N)} {nm : N}, nm ∈ hs.map (·.name) → ∃ h ∈ hs, h.name = nm ∧ rates hs nm = some (h.slow, h.fast)
  | [], nm, h => by cases h
  | q :: hs, nm, h => by
    by_cases c : q.name = nm
    · exact ⟨q, List.mem_cons_self .., c, if_pos c⟩
    · rw [List.map_cons] at h
      rcases List.mem_cons.mp h with e | h
      · exact absurd e.symm c
      · obtain ⟨u, hu, e1, e2⟩ := rates_mem h
        exact ⟨u, List.mem_cons_of_mem _ hu, e1, (if_neg c).trans e2⟩
theorem rates_of_mem {hs : List (House N)} (nd : (hs.map (·.name)).Nodup) : ∀ {h : House N}, h ∈ hs → rates hs h.name = some (h.slow, h.fast) := by
  induction hs with
  | nil =>
    intro h hh
    cases hh
  | cons q hs ih =>
    intro h hh
    rw [List.map_cons] at nd
    obtain ⟨n1, n2⟩ := List.nodup_cons.mp nd
    rcases List.mem_cons.mp hh with e | hh
    · subst e
      exact if_pos rfl
    · have c : ¬ q.name = h.name := fun e => n1 (e ▸ List.mem_map_of_mem hh)
      exact (if_neg c).trans (ih n2 hh)
/-- what the own steps are, in a history that is well made -/
theorem own_cases {h : Hist N} (w : WF h) {y : Nat} {e : Evt N} (he : h.ev[y]? = some e) :
    (lastA h.ev e.house y = none ∧ ownS h y e = []) ∨ ∃ x u hs q r su se, lastA h.ev e.house y = some x ∧ x < y ∧ h.ev[x]? = some u ∧ u.house = e.house ∧ hs ∈ h.f.homes ∧ hs.name = u.house ∧ WFH hs q r ∧ rates h.f.homes u.house = some (hs.slow, hs.fast) ∧
      u.stamp = 30 * su ∧ e.stamp = 30 * se ∧ ownS h y e = [(x, y, 120 * (se - su) / q), (y, x, 0 - 120 * (se - su) / r)] ∧
      120 * (e.stamp - u.stamp) / hs.slow = 120 * (se - su) / q ∧ 120 * (e.stamp - u.stamp) / hs.fast = 120 * (se - su) / r ∧ 120 * (se - su) / q * hs.slow = 120 * (e.stamp - u.stamp) ∧ 120 * (se - su) / r * hs.fast = 120 * (e.stamp - u.stamp) := by
  cases c : lastA h.ev e.house y with
  | none =>
    refine .inl ⟨rfl, ?_⟩
    unfold ownS
    rw [c]
  | some x =>
    obtain ⟨hx, u, hu, eh⟩ := lastA_some c
    have wu := w.ev x u hu
    have we := w.ev y e he
    obtain ⟨hs, hm, en, er⟩ := rates_mem wu.house
    obtain ⟨q, r, wh⟩ := w.f.rate hs hm
    obtain ⟨su, hsu⟩ := wu.stamp
    obtain ⟨se, hse⟩ := we.stamp
    have hq := wh.q0
    have hr := wh.r4
    have e0 : 120 * (e.stamp - u.stamp) = 30 * (120 * (se - su)) := by
      rw [hsu, hse]
      omega
    have e1 : 120 * (e.stamp - u.stamp) / hs.slow = 120 * (se - su) / q := by rw [e0, wh.sl, Int.mul_ediv_mul_of_pos _ _ (by decide)]
    have e2 : 120 * (e.stamp - u.stamp) / hs.fast = 120 * (se - su) / r := by rw [e0, wh.fa, Int.mul_ediv_mul_of_pos _ _ (by decide)]
    refine .inr ⟨x, u, hs, q, r, su, se, rfl, hx, hu, eh, hm, en, wh, er, hsu, hse, ?_, e1, e2, ?_, ?_⟩
    · unfold ownS
      rw [c]
      show (match h.ev[x]? with
        | none => []
        | some u => match rates h.f.homes u.house with
          | none => []
          | some (slow, fast) => [(x, y, 120 * (e.stamp - u.stamp) / slow), (y, x, 0 - 120 * (e.stamp - u.stamp) / fast)]) = _
      rw [hu]
      show (match rates h.f.homes u.house with
          | none => []
          | some (slow, fast) => [(x, y, 120 * (e.stamp - u.stamp) / slow), (y, x, 0 - 120 * (e.stamp - u.stamp) / fast)]) = _
      rw [er]
      show [(x, y, 120 * (e.stamp - u.stamp) / hs.slow), (y, x, 0 - 120 * (e.stamp - u.stamp) / hs.fast)] = _
      rw [e1, e2]
    · have d : q ∣ 120 * (se - su) := Int.dvd_mul_of_dvd_left wh.dq
      rw [wh.sl, e0, Int.mul_left_comm, Int.ediv_mul_cancel d]
    · have d : r ∣ 120 * (se - su) := Int.dvd_mul_of_dvd_left wh.dr
      rw [wh.fa, e0, Int.mul_left_comm, Int.ediv_mul_cancel d]
theorem heard_some {h : Hist N} {e : Evt N} {k : Nat} {lk : Lnk N} (c : heard h e = some (k, lk)) : e.deed = .hear k ∧ ∃ u l, h.ev[k]? = some u ∧ u.deed = .send l ∧ h.f.links[l]? = some lk := by
  unfold heard at c
  cases d : e.deed with
  | mark =>
    rw [d] at c
    cases c
  | send l =>
    rw [d] at c
    cases c
  | hear j =>
    rw [d] at c
    have c : (match h.ev[j]? with
      | some u => (match u.deed with
        | .send l => (match h.f.links[l]? with
          | some lk => some (j, lk)
          | none => none)
        | _ => none)
      | none => none) = some (k, lk) := c
    cases e1 : h.ev[j]? with
    | none =>
      rw [e1] at c
      cases c
    | some u =>
      rw [e1] at c
      have c : (match u.deed with
        | .send l => (match h.f.links[l]? with
          | some lk => some (j, lk)
          | none => none)
        | _ => none) = some (k, lk) := c
      cases e2 : u.deed with
      | mark =>
        rw [e2] at c
        cases c
      | hear _ =>
        rw [e2] at c
        cases c
      | send l =>
        rw [e2] at c
        have c : (match h.f.links[l]? with
          | some lk => some (j, lk)
          | none => none) = some (k, lk) := c
        cases e3 : h.f.links[l]? with
        | none =>
          rw [e3] at c
          cases c
        | some lk' =>
          rw [e3] at c
          cases c
          exact ⟨rfl, u, l, e1, e2, e3⟩
theorem heard_of {h : Hist N} {e u : Evt N} {k l : Nat} {lk : Lnk N} (d : e.deed = .hear k) (hu : h.ev[k]? = some u) (du : u.deed = .send l) (hl : h.f.links[l]? = some lk) : heard h e = some (k, lk) := by
  unfold heard
  rw [d]
  show (match h.ev[k]? with
      | some u => (match u.deed with
        | .send l => (match h.f.links[l]? with
          | some lk => some (k, lk)
          | none => none)
        | _ => none)
      | none => none) = some (k, lk)
  rw [hu]
  show (match u.deed with
        | .send l => (match h.f.links[l]? with
          | some lk => some (k, lk)
          | none => none)
        | _ => none) = some (k, lk)
  rw [du]
  show (match h.f.links[l]? with
          | some lk => some (k, lk)
          | none => none) = some (k, lk)
  rw [hl]
theorem heard_not {h : Hist N} {e : Evt N} (d : ∀ k, e.deed ≠ .hear k) : heard h e = none := by
  unfold heard
  cases c : e.deed with
  | mark => rfl
  | send l => rfl
  | hear k => exact absurd c (d k)
theorem mem_hearS {h : Hist N} {y : Nat} {e : Evt N} {s : Step} (hs : s ∈ hearS h y e) : ∃ k lk, heard h e = some (k, lk) ∧ ((∃ m, lk.most = some m ∧ s = (k, y, m)) ∨ s = (y, k, 0 - lk.least)) := by
  unfold hearS at hs
  cases c : heard h e with
  | none =>
    rw [c] at hs
    cases hs
  | some p =>
    obtain ⟨k, lk⟩ := p
    rw [c] at hs
    have hs : s ∈ (match lk.most with
      | some m => [((k, y, m) : Step)]
      | none => []) ++ [(y, k, 0 - lk.least)] := hs
    refine ⟨k, lk, rfl, ?_⟩
    rcases List.mem_append.mp hs with q | q
    · cases c2 : lk.most with
      | none =>
        rw [c2] at q
        cases q
      | some m =>
        rw [c2] at q
        exact .inl ⟨m, rfl, List.mem_singleton.mp q⟩
    · exact .inr (List.mem_singleton.mp q)
theorem mem_up {h : Hist N} : ∀ {n : Nat} {s : Step}, s ∈ stepsUp h n → ∃ y e, y < n ∧ h.ev[y]? = some e ∧ (s ∈ ownS h y e ∨ s ∈ hearS h y e)
  | 0, s, hs => by cases hs
  | n + 1, s, hs => by
    have hs : s ∈ stepsUp h n ++ stepsTo h n := hs
    rcases List.mem_append.mp hs with q | q
    · obtain ⟨y, e, h1, h2⟩ := mem_up q
      exact ⟨y, e, by omega, h2⟩
    · unfold stepsTo at q
      cases c : h.ev[n]? with
      | none =>
        rw [c] at q
        cases q
      | some e =>
        rw [c] at q
        exact ⟨n, e, Nat.lt_succ_self _, c, List.mem_append.mp q⟩
theorem ws {h : Hist N} (w : WF h) : WS h.ev.length (steps h) := by
  refine ⟨fun s hs => ?_⟩
  obtain ⟨y, e, hy, he, q⟩ := mem_up hs
  rcases q with q | q
  · rcases own_cases w he with ⟨_, z⟩ | ⟨x, u, hs, q', r, su, se, _, hx, _, _, _, _, _, _, _, _, z, _⟩
    · rw [z] at q
      cases q
    · rw [z] at q
      rcases List.mem_cons.mp q with q | q
      · subst q
        exact ⟨by show x < _; omega, hy, by show x ≠ y; omega⟩
      · have q := List.mem_singleton.mp q
        subst q
        exact ⟨hy, by show x < _; omega, by show y ≠ x; omega⟩
  · obtain ⟨k, lk, c, q⟩ := mem_hearS q
    obtain ⟨d, _⟩ := heard_some c
    have wd := (w.ev y e he).deed
    rw [d] at wd
    have hk : k < y := wd.1
    rcases q with ⟨m, _, q⟩ | q
    · subst q
      exact ⟨by show k < _; omega, hy, by show k ≠ y; omega⟩
    · subst q
      exact ⟨hy, by show k < _; omega, by show y ≠ k; omega⟩

/-! ### one event more -/
theorem get_snoc_lt {α : Type} {l : List α} {a : α} {i : Nat} (h : i < l.length) : (l ++ [a])[i]? = l[i]? := List.getElem?_append_left h
theorem get_snoc {α : Type} {l : List α} {a : α} : (l ++ [a])[l.length]? = some a := by simp
theorem stepsTo_snoc {f : Fld N} {ev : List (Evt N)} {e : Evt N} {y : Nat} (w : WF ⟨f, ev⟩) (hy : y < ev.length) : stepsTo ⟨f, ev ++ [e]⟩ y = stepsTo ⟨f, ev⟩ y := by
  obtain ⟨u, hu⟩ : ∃ u, ev[y]? = some u := ⟨ev[y], List.getElem?_eq_getElem hy⟩
  have hu' : (ev ++ [e])[y]? = some u := (get_snoc_lt hy).trans hu
  have la : lastA (ev ++ [e]) u.house y = lastA ev u.house y := lastA_congr fun x hx => by rw [get_snoc_lt (by omega)]
  have eo : ownS ⟨f, ev ++ [e]⟩ y u = ownS ⟨f, ev⟩ y u := by
    unfold ownS
    show (match lastA (ev ++ [e]) u.house y with
      | none => []
      | some x => match (ev ++ [e])[x]? with
        | none => []
        | some v => match rates f.homes v.house with
          | none => []
          | some (slow, fast) => [(x, y, 120 * (u.stamp - v.stamp) / slow), (y, x, 0 - 120 * (u.stamp - v.stamp) / fast)]) = (match lastA ev u.house y with
      | none => []
      | some x => match ev[x]? with
        | none => []
        | some v => match rates f.homes v.house with
          | none => []
          | some (slow, fast) => [(x, y, 120 * (u.stamp - v.stamp) / slow), (y, x, 0 - 120 * (u.stamp - v.stamp) / fast)])
    rw [la]
    cases c : lastA ev u.house y with
    | none => rfl
    | some x =>
      obtain ⟨hx, _⟩ := lastA_some c
      show (match (ev ++ [e])[x]? with
        | none => []
        | some v => match rates f.homes v.house with
          | none => []
          | some (slow, fast) => [(x, y, 120 * (u.stamp - v.stamp) / slow), (y, x, 0 - 120 * (u.stamp - v.stamp) / fast)]) = _
      rw [get_snoc_lt (by omega)]
  have hw := (w.ev y u hu).deed
  have eh : heard ⟨f, ev ++ [e]⟩ u = heard ⟨f, ev⟩ u := by
    cases d : u.deed with
    | mark => rw [heard_not fun k z => (by rw [d] at z; cases z), heard_not fun k z => (by rw [d] at z; cases z)]
    | send l => rw [heard_not fun k z => (by rw [d] at z; cases z), heard_not fun k z => (by rw [d] at z; cases z)]
    | hear k =>
      rw [d] at hw
      obtain ⟨hk, v, l, hv, dv, hl⟩ := hw
      obtain ⟨lk, hlk⟩ : ∃ lk, f.links[l]? = some lk := ⟨f.links[l], List.getElem?_eq_getElem hl⟩
      have hv2 : (ev ++ [e])[k]? = some v := (get_snoc_lt (by omega)).trans hv
      rw [heard_of (h := ⟨f, ev ++ [e]⟩) d hv2 dv hlk, heard_of (h := ⟨f, ev⟩) d hv dv hlk]
  have es : hearS ⟨f, ev ++ [e]⟩ y u = hearS ⟨f, ev⟩ y u := by
    unfold hearS
    rw [eh]
  unfold stepsTo
  show (match (ev ++ [e])[y]? with
    | none => []
    | some e' => ownS ⟨f, ev ++ [e]⟩ y e' ++ hearS ⟨f, ev ++ [e]⟩ y e') = (match ev[y]? with
    | none => []
    | some e' => ownS ⟨f, ev⟩ y e' ++ hearS ⟨f, ev⟩ y e')
  rw [hu, hu']
  show ownS ⟨f, ev ++ [e]⟩ y u ++ hearS ⟨f, ev ++ [e]⟩ y u = _
  rw [eo, es]
theorem up_snoc {f : Fld N} {ev : List (Evt N)} {e : Evt N} (w : WF ⟨f, ev⟩) : ∀ {n : Nat}, n ≤ ev.length → stepsUp ⟨f, ev ++ [e]⟩ n = stepsUp ⟨f, ev⟩ n
  | 0, _ => rfl
  | n + 1, h => by
    show stepsUp ⟨f, ev ++ [e]⟩ n ++ stepsTo ⟨f, ev ++ [e]⟩ n = stepsUp ⟨f, ev⟩ n ++ stepsTo ⟨f, ev⟩ n
    rw [up_snoc w (by omega), stepsTo_snoc w (by omega)]
theorem steps_snoc {f : Fld N} {ev : List (Evt N)} {e : Evt N} (w : WF ⟨f, ev⟩) : steps ⟨f, ev ++ [e]⟩ = steps ⟨f, ev⟩ ++ (ownS ⟨f, ev ++ [e]⟩ ev.length e ++ hearS ⟨f, ev ++ [e]⟩ ev.length e) := by
  unfold steps
  show stepsUp ⟨f, ev ++ [e]⟩ (ev ++ [e]).length = _
  rw [List.length_append, List.length_singleton]
  show stepsUp ⟨f, ev ++ [e]⟩ ev.length ++ stepsTo ⟨f, ev ++ [e]⟩ ev.length = _
  rw [up_snoc w (Nat.le_refl _)]
  congr 1
  unfold stepsTo
  show (match (ev ++ [e])[ev.length]? with
    | none => []
    | some e' => ownS ⟨f, ev ++ [e]⟩ ev.length e' ++ hearS ⟨f, ev ++ [e]⟩ ev.length e') = _
  rw [get_snoc]

/-! ### drawn times -/
structure Drawn (f : Fld N) (ev : List (Evt N)) (nows : List Int) (clocks : N → Option (Int × Int)) (sends : List (Nat × Nat × Int)) (now : Int) : Prop where
  wf : WF ⟨f, ev⟩
  len : nows.length = ev.length
  ck0 : ∀ nm, clocks nm = none → lastA ev nm ev.length = none
  ck1 : ∀ nm z s, clocks nm = some (z, s) → z ≤ now ∧ ∃ x e, lastA ev nm ev.length = some x ∧ ev[x]? = some e ∧ e.stamp = 30 * s ∧ nows[x]? = some z
  snd : ∀ k l z, (k, l, z) ∈ sends → ∃ e, ev[k]? = some e ∧ e.deed = .send l ∧ l < f.links.length ∧ nows[k]? = some z
  fits : Fits (steps ⟨f, ev⟩) (fun k => 120 * nows.getD k 0)
theorem Drawn.start {f : Fld N} (w : WFF f) : Drawn f [] [] (fun _ => none) [] 0 where
  wf := ⟨w, fun k e h => by simp at h, Nat.zero_le _⟩
  len := rfl
  ck0 := fun _ _ => rfl
  ck1 := fun _ _ _ h => by cases h
  snd := fun _ _ _ h => by cases h
  fits := fun s hs => by cases hs
theorem Drawn.later {f : Fld N} {ev : List (Evt N)} {nows : List Int} {clocks : N → Option (Int × Int)} {sends : List (Nat × Nat × Int)} {now now' : Int} (D : Drawn f ev nows clocks sends now) (h : now ≤ now') : Drawn f ev nows clocks sends now' :=
  ⟨D.wf, D.len, D.ck0, fun nm z s q => by
    obtain ⟨h1, h2⟩ := D.ck1 nm z s q
    exact ⟨Int.le_trans h1 h, h2⟩, D.snd, D.fits⟩
/-- what may be put on at `now` -/
def OkDeed (f : Fld N) (sends : List (Nat × Nat × Int)) (now : Int) : Deed → Prop
  | .mark => True
  | .send l => l < f.links.length
  | .hear k => ∃ l z lk, (k, l, z) ∈ sends ∧ f.links[l]? = some lk ∧ lk.least ≤ 120 * (now - z) ∧ ∀ m, lk.most = some m → 120 * (now - z) ≤ m
def ptN {A : Type} (g : N → A) (a : N) (v : A) : N → A := fun b => if b = a then v else g b
theorem lastA_snoc_ne {ev : List (Evt N)} {e : Evt N} {nm : N} (h : e.house ≠ nm) : lastA (ev ++ [e]) nm (ev ++ [e]).length = lastA ev nm ev.length := by
  rw [List.length_append, List.length_singleton]
  show (match (ev ++ [e])[ev.length]? with
    | some u => if u.house = nm then some ev.length else lastA (ev ++ [e]) nm ev.length
    | none => lastA (ev ++ [e]) nm ev.length) = _
  rw [get_snoc]
  show (if e.house = nm then some ev.length else lastA (ev ++ [e]) nm ev.length) = _
  rw [if_neg h]
  exact lastA_congr fun x hx => by rw [get_snoc_lt hx]
theorem lastA_snoc_eq {ev : List (Evt N)} {e : Evt N} {nm : N} (h : e.house = nm) : lastA (ev ++ [e]) nm (ev ++ [e]).length = some ev.length := by
  rw [List.length_append, List.length_singleton]
  show (match (ev ++ [e])[ev.length]? with
    | some u => if u.house = nm then some ev.length else lastA (ev ++ [e]) nm ev.length
    | none => lastA (ev ++ [e]) nm ev.length) = _
  rw [get_snoc]
  exact if_pos h
theorem Drawn.put {f : Fld N} {ev : List (Evt N)} {nows : List Int} {clocks : N → Option (Int × Int)} {sends sends' : List (Nat × Nat × Int)} {now st : Int} {nm : N} {deed : Deed} (D : Drawn f ev nows clocks sends now) (hn : nm ∈ f.homes.map (·.name)) (hl : ev.length < 20)
    (hs : ∀ z s, clocks nm = some (z, s) → ∃ hs q r g, hs ∈ f.homes ∧ hs.name = nm ∧ WFH hs q r ∧ q ≤ g ∧ g ≤ r ∧ st = s + (now - z) * g) (hd : OkDeed f sends now deed)
    (hss : ∀ k l z, (k, l, z) ∈ sends' → (k, l, z) ∈ sends ∨ (k = ev.length ∧ z = now ∧ deed = .send l)) :
    Drawn f (ev ++ [⟨nm, 30 * st, deed⟩]) (nows ++ [now]) (ptN clocks nm (some (now, st))) sends' now := by
  have wd : WFD f (ev ++ [⟨nm, 30 * st, deed⟩]) ev.length deed := by
    cases deed with
    | mark => exact trivial
    | send l => exact hd
    | hear k =>
      obtain ⟨l, z, lk, hm, _⟩ := hd
      obtain ⟨e, he, de, hl, _⟩ := D.snd k l z hm
      have hk := (List.getElem?_eq_some_iff.mp he).1
      exact ⟨hk, e, l, (get_snoc_lt hk).trans he, de, hl⟩
  have wf : WF ⟨f, ev ++ [⟨nm, 30 * st, deed⟩]⟩ := by
    refine ⟨D.wf.f, fun k e he => ?_, by show (ev ++ [_]).length ≤ 20; rw [List.length_append, List.length_singleton]; omega⟩
    have he : (ev ++ [⟨nm, 30 * st, deed⟩])[k]? = some e := he
    by_cases c : k < ev.length
    · rw [get_snoc_lt c] at he
      have q := D.wf.ev k e he
      refine ⟨q.house, q.stamp, ?_⟩
      have qd := q.deed
      cases d : e.deed with
      | mark => exact trivial
      | send l =>
        rw [d] at qd
        exact qd
      | hear j =>
        rw [d] at qd
        obtain ⟨h1, u, l, hu, h3⟩ := qd
        exact ⟨h1, u, l, (get_snoc_lt (by omega)).trans hu, h3⟩
    · have hk : k = ev.length := by
        have := (List.getElem?_eq_some_iff.mp he).1
        rw [List.length_append, List.length_singleton] at this
        omega
      subst hk
      rw [get_snoc] at he
      cases he
      exact ⟨hn, ⟨st, rfl⟩, wd⟩
  have tlt : ∀ k, k < ev.length → (nows ++ [now]).getD k 0 = nows.getD k 0 := fun k hk => by
    rw [List.getD_eq_getElem?_getD, List.getD_eq_getElem?_getD, get_snoc_lt (by rw [D.len]; exact hk)]
  have tnew : (nows ++ [now]).getD ev.length 0 = now := by
    rw [List.getD_eq_getElem?_getD, ← D.len, get_snoc]
    rfl
  refine ⟨wf, by rw [List.length_append, List.length_append, D.len]; rfl, fun n hc => ?_, fun n z s hc => ?_, fun k l z hm => ?_, ?_⟩
  · by_cases c : n = nm
    · subst c
      have hc : (if n = n then some (now, st) else clocks n) = none := hc
      rw [if_pos rfl] at hc
      cases hc
    · have hc : (if n = nm then some (now, st) else clocks n) = none := hc
      rw [if_neg c] at hc
      rw [lastA_snoc_ne fun z => c z.symm]
      exact D.ck0 n hc
  · by_cases c : n = nm
    · subst c
      have hc : (if n = n then some (now, st) else clocks n) = some (z, s) := hc
      rw [if_pos rfl] at hc
      cases hc
      exact ⟨Int.le_refl _, ev.length, _, lastA_snoc_eq rfl, get_snoc, rfl, by rw [← D.len, get_snoc]⟩
    · have hc : (if n = nm then some (now, st) else clocks n) = some (z, s) := hc
      rw [if_neg c] at hc
      rw [lastA_snoc_ne fun z => c z.symm]
      obtain ⟨h0, x, e, h1, h2, h3, h4⟩ := D.ck1 n z s hc
      have hx := (List.getElem?_eq_some_iff.mp h2).1
      exact ⟨h0, x, e, h1, (get_snoc_lt hx).trans h2, h3, (get_snoc_lt (by rw [D.len]; exact hx)).trans h4⟩
  · rcases hss k l z hm with q | ⟨e1, e2, e3⟩
    · obtain ⟨e, h1, h2, h3, h4⟩ := D.snd k l z q
      have hx := (List.getElem?_eq_some_iff.mp h1).1
      exact ⟨e, (get_snoc_lt hx).trans h1, h2, h3, (get_snoc_lt (by rw [D.len]; exact hx)).trans h4⟩
    · subst e1 e2 e3
      exact ⟨_, get_snoc, rfl, hd, by rw [← D.len, get_snoc]⟩
  · rw [steps_snoc D.wf]
    intro s hs2
    show 120 * (nows ++ [now]).getD s.2.1 0 ≤ 120 * (nows ++ [now]).getD s.1 0 + s.2.2
    rcases List.mem_append.mp hs2 with hm0 | hm0
    · obtain ⟨h1, h2, _⟩ := (ws D.wf).ok s hm0
      rw [tlt _ h1, tlt _ h2]
      exact D.fits s hm0
    · rcases List.mem_append.mp hm0 with hm1 | hm1
      · rcases own_cases wf (y := ev.length) get_snoc with ⟨_, z⟩ | ⟨x, u, hs', q', r', su, se, hlast, hx, hu, eh, hm', en', wh', er', hsu, hse, z, e1, e2, _⟩
        · rw [z] at hm1
          cases hm1
        · -- the clock of the house
          have hlast0 : lastA ev nm ev.length = some x := by
            have : lastA (ev ++ [⟨nm, 30 * st, deed⟩]) nm ev.length = some x := hlast
            rw [← this]
            exact (lastA_congr fun x hx => by rw [get_snoc_lt hx]).symm
          cases hc : clocks nm with
          | none =>
            rw [D.ck0 nm hc] at hlast0
            cases hlast0
          | some p =>
            obtain ⟨t0, s0⟩ := p
            obtain ⟨h0, x', e', h1, h2, h3, h4⟩ := D.ck1 nm t0 s0 hc
            rw [hlast0] at h1
            cases h1
            have hu0 : ev[x]? = some u := by
              have := hu
              rw [show (Hist.ev ⟨f, ev ++ [⟨nm, 30 * st, deed⟩]⟩) = ev ++ [⟨nm, 30 * st, deed⟩] from rfl, get_snoc_lt hx] at this
              exact this
            rw [hu0] at h2
            cases h2
            obtain ⟨hg, q, r, g, gm, gn, gw, g1, g2, gs⟩ := hs t0 s0 hc
            have eq0 : s0 = su := by omega
            have eq1 : st = se := by
              have : (30 : Int) * st = 30 * se := hse
              omega
            subst eq0 eq1
            -- the very rates
            have r1 := rates_of_mem D.wf.f.nd gm
            have eu : u.house = nm := eh
            rw [eu] at er'
            rw [gn] at r1
            have r2 : some (hg.slow, hg.fast) = some (hs'.slow, hs'.fast) := r1.symm.trans er'
            have r3 : hg.slow = hs'.slow ∧ hg.fast = hs'.fast := by
              have := Option.some.inj r2
              exact ⟨congrArg Prod.fst this, congrArg Prod.snd this⟩
            have eqq : q = q' := by
              have := gw.sl
              have := wh'.sl
              omega
            have eqr : r = r' := by
              have := gw.fa
              have := wh'.fa
              omega
            subst eqq eqr
            have tx : (nows ++ [now]).getD x 0 = t0 := by
              rw [tlt x hx, List.getD_eq_getElem?_getD, h4]
              rfl
            have dt : 0 ≤ now - t0 := by omega
            have ds : st - s0 = (now - t0) * g := by omega
            have q0 := gw.q0
            have r4 := gw.r4
            have lo : (now - t0) * q ≤ (now - t0) * g := Int.mul_le_mul_of_nonneg_left g1 dt
            have hi : (now - t0) * g ≤ (now - t0) * r := Int.mul_le_mul_of_nonneg_left g2 dt
            have k1 : 120 * (now - t0) ≤ 120 * (st - s0) / q := by
              refine (Int.le_ediv_iff_mul_le q0).mpr ?_
              rw [Int.mul_assoc, ds]
              omega
            have k2 : 120 * (st - s0) / r ≤ 120 * (now - t0) := by
              refine Int.ediv_le_of_le_mul (by omega) ?_
              rw [Int.mul_assoc, ds]
              omega
            rw [z] at hm1
            rcases List.mem_cons.mp hm1 with hm1 | hm1
            · subst hm1
              show 120 * (nows ++ [now]).getD ev.length 0 ≤ 120 * (nows ++ [now]).getD x 0 + 120 * (st - s0) / q
              rw [tx, tnew]
              omega
            · have hm1 := List.mem_singleton.mp hm1
              subst hm1
              show 120 * (nows ++ [now]).getD x 0 ≤ 120 * (nows ++ [now]).getD ev.length 0 + (0 - 120 * (st - s0) / r)
              rw [tx, tnew]
              omega
      · obtain ⟨k, lk, c, q⟩ := mem_hearS hm1
        obtain ⟨d, u, l, hu, du, hlk⟩ := heard_some c
        have d : deed = .hear k := d
        subst d
        obtain ⟨l', z, lk', hm, hlk', hle, hmo⟩ := hd
        obtain ⟨e, he, de, hl', hz⟩ := D.snd k l' z hm
        have hk := (List.getElem?_eq_some_iff.mp he).1
        have hu : (ev ++ [⟨nm, 30 * st, .hear k⟩])[k]? = some u := hu
        rw [get_snoc_lt hk, he] at hu
        cases hu
        have ll : l' = l := by
          rw [de] at du
          injection du
        subst ll
        have hlk : f.links[l']? = some lk := hlk
        rw [hlk'] at hlk
        cases hlk
        have tk : (nows ++ [now]).getD k 0 = z := by
          rw [tlt k hk, List.getD_eq_getElem?_getD, hz]
          rfl
        rcases q with ⟨m, em, q⟩ | q
        · subst q
          show 120 * (nows ++ [now]).getD ev.length 0 ≤ 120 * (nows ++ [now]).getD k 0 + m
          rw [tk, tnew]
          have := hmo m em
          omega
        · subst q
          show 120 * (nows ++ [now]).getD k 0 ≤ 120 * (nows ++ [now]).getD ev.length 0 + (0 - lk.least)
          rw [tk, tnew]
          omega
/-- a history near: other stamps, other bounds of links -/
theorem WF.near {f f' : Fld N} {ev ev' : List (Evt N)} (w : WF ⟨f, ev⟩) (hh : f'.homes = f.homes) (hl : f'.links.length = f.links.length) (hn : ev'.length = ev.length)
    (he : ∀ (k : Nat) (e' : Evt N), ev'[k]? = some e' → ∃ e, ev[k]? = some e ∧ e'.house = e.house ∧ e'.deed = e.deed ∧ ∃ q, e'.stamp = 30 * q) : WF ⟨f', ev'⟩ := by
  refine ⟨⟨?_, ?_, ?_, ?_⟩, fun k e' h => ?_, by show ev'.length ≤ 20; rw [hn]; exact w.len⟩
  · show (f'.homes.map (·.name)).Nodup
    rw [hh]
    exact w.f.nd
  · intro x hx
    refine w.f.rate x ?_
    show x ∈ f.homes
    rw [← hh]
    exact hx
  · show f'.homes.length ≤ 6
    rw [hh]
    exact w.f.len
  · show f'.links.length ≤ 20
    rw [hl]
    exact w.f.lln
  · obtain ⟨e, e1, e2, e3, e4⟩ := he k e' h
    have q := w.ev k e e1
    refine ⟨?_, e4, ?_⟩
    · rw [e2]
      show e.house ∈ f'.homes.map (·.name)
      rw [hh]
      exact q.house
    · have qd := q.deed
      rw [e3]
      cases d : e.deed with
      | mark => exact trivial
      | send l =>
        rw [d] at qd
        show l < f'.links.length
        rw [hl]
        exact qd
      | hear j =>
        rw [d] at qd
        obtain ⟨h1, u, l, hu, h3, h4⟩ := qd
        have hj : j < ev'.length := by
          have := (List.getElem?_eq_some_iff.mp h).1
          have this : k < ev'.length := this
          omega
        obtain ⟨u', hu'⟩ : ∃ u', ev'[j]? = some u' := ⟨ev'[j], List.getElem?_eq_getElem hj⟩
        obtain ⟨u2, a1, a2, a3, a4⟩ := he j u' hu'
        have hu : ev[j]? = some u := hu
        rw [hu] at a1
        cases a1
        exact ⟨h1, u', l, hu', a3.trans h3, by show l < f'.links.length; rw [hl]; exact h4⟩
end
end KM
/-! Readings over data: what stands in the slots is told as a tree of plain data (tuples through and through). -/
namespace K27
open PySem PySem.Spec PyProof.Rows L2

/-- plain data; r: a value told as it is (a list's address) -/
inductive PyD where
  | i (z : Int) | s (x : Str) | n | b (k : Bool) | t (ds : List PyD) | r (v : V)
mutual
inductive Dt (K : PySem.W.Frag) (H : Hp) : V → PyD → Prop where
  | i (z : Int) : Dt K H (.int z) (.i z)
  | s (x : Str) : Dt K H (.str x) (.s x)
  | n : Dt K H .non .n
  | b (k : Bool) : Dt K H (.bl k) (.b k)
  | t {a : Addr} {vs : List V} {ds : List PyD} : SqT K H a vs → Dts K H vs ds → Dt K H (.ref a) (.t ds)
  | r (v : V) : Dt K H v (.r v)
inductive Dts (K : PySem.W.Frag) (H : Hp) : List V → List PyD → Prop where
  | nil : Dts K H [] []
  | cons {v : V} {d : PyD} {vs : List V} {ds : List PyD} : Dt K H v d → Dts K H vs ds → Dts K H (v :: vs) (d :: ds)
end
/-- tuples stay -/
def Tp (H H' : Hp) : Prop := ∀ a xs, Rd H a (.tup xs) → Rd H' a (.tup xs)
theorem Tp.refl (H : Hp) : Tp H H := fun _ _ h => h
theorem Tp.trans {H H1 H2 : Hp} (a : Tp H H1) (b : Tp H1 H2) : Tp H H2 := fun x o h => b x o (a x o h)
theorem Tp.sq {K : PySem.W.Frag} {H H' : Hp} {a : Addr} {xs : List V} (t : Tp H H') (h : SqT K H a xs) : SqT K H' a xs := by
  rcases h with h | h
  · exact .inl (t _ _ h)
  · exact .inr h
mutual
theorem Dt.mono {K : PySem.W.Frag} {H H' : Hp} (e : Tp H H') : ∀ {v : V} {d : PyD}, Dt K H v d → Dt K H' v d
  | _, _, .i z => .i z
  | _, _, .s x => .s x
  | _, _, .n => .n
  | _, _, .b k => .b k
  | _, _, .t h hs => .t (e.sq h) (Dts.mono e hs)
  | _, _, .r v => .r v
theorem Dts.mono {K : PySem.W.Frag} {H H' : Hp} (e : Tp H H') : ∀ {vs : List V} {ds : List PyD}, Dts K H vs ds → Dts K H' vs ds
  | _, _, .nil => .nil
  | _, _, .cons h hs => .cons (Dt.mono e h) (Dts.mono e hs)
end
section
variable {K : PySem.W.Frag} {H H' : Hp} {v : V} {vs : List V} {ds : List PyD}
theorem Dt.int {z : Int} (h : Dt K H v (.i z)) : v = .int z := by cases h; rfl
theorem Dt.str {z : Str} (h : Dt K H v (.s z)) : v = .str z := by cases h; rfl
theorem Dt.non (h : Dt K H v .n) : v = .non := by cases h; rfl
theorem Dt.bl {z : Bool} (h : Dt K H v (.b z)) : v = .bl z := by cases h; rfl
theorem Dt.raw {u : V} (h : Dt K H v (.r u)) : v = u := by cases h; rfl
theorem Dt.tup (h : Dt K H v (.t ds)) : ∃ a vs, v = .ref a ∧ SqT K H a vs ∧ Dts K H vs ds := by
  cases h with
  | t h hs => exact ⟨_, _, rfl, h, hs⟩
theorem Dts.length (h : Dts K H vs ds) : vs.length = ds.length := by
  induction vs generalizing ds with
  | nil => cases h; rfl
  | cons v vs ih =>
    cases h with
    | cons h hs => simp [ih hs]
theorem Dts.at (h : Dts K H vs ds) : ∀ {i : Nat} {d : PyD}, ds[i]? = some d → ∃ v, vs[i]? = some v ∧ Dt K H v d := by
  induction vs generalizing ds with
  | nil =>
    cases h
    intro i d q
    simp at q
  | cons v vs ih =>
    cases h with
    | cons h hs =>
      intro i d q
      cases i with
      | zero =>
        have q : some _ = some d := q
        cases q
        exact ⟨v, rfl, h⟩
      | succ i =>
        obtain ⟨u, h1, h2⟩ := ih hs (i := i) (d := d) (by simpa using q)
        exact ⟨u, by simpa using h1, h2⟩
theorem Dts.at' (h : Dts K H vs ds) {i : Nat} {v : V} (q : vs[i]? = some v) : ∃ d, ds[i]? = some d ∧ Dt K H v d := by
  have hl := h.length
  have hi := (List.getElem?_eq_some_iff.mp q).1
  obtain ⟨d, hd⟩ : ∃ d, ds[i]? = some d := ⟨ds[i]'(by omega), List.getElem?_eq_getElem (by omega)⟩
  obtain ⟨u, h1, h2⟩ := h.at hd
  rw [q] at h1
  cases h1
  exact ⟨d, hd, h2⟩
theorem Dts.append {us : List V} {es : List PyD} (h : Dts K H vs ds) (g : Dts K H us es) : Dts K H (vs ++ us) (ds ++ es) := by
  induction vs generalizing ds with
  | nil =>
    cases h
    exact g
  | cons v vs ih =>
    cases h with
    | cons h hs => exact .cons h (ih hs)
theorem Dts.one {d : PyD} (h : Dt K H v d) : Dts K H [v] [d] := .cons h .nil
theorem Dts.snoc {d : PyD} (h : Dts K H vs ds) (g : Dt K H v d) : Dts K H (vs ++ [v]) (ds ++ [d]) := h.append (.one g)
theorem Dts.one' {d : PyD} (h : Dts K H vs [d]) : ∃ v, vs = [v] ∧ Dt K H v d := by
  cases h with
  | cons h hs =>
    cases hs
    exact ⟨_, rfl, h⟩
theorem Dts.two' {d e : PyD} (h : Dts K H vs [d, e]) : ∃ v u, vs = [v, u] ∧ Dt K H v d ∧ Dt K H u e := by
  cases h with
  | cons h hs =>
    obtain ⟨u, rfl, h2⟩ := hs.one'
    exact ⟨_, _, rfl, h, h2⟩
theorem Dts.three' {d e f : PyD} (h : Dts K H vs [d, e, f]) : ∃ v u w, vs = [v, u, w] ∧ Dt K H v d ∧ Dt K H u e ∧ Dt K H w f := by
  cases h with
  | cons h hs =>
    obtain ⟨u, w, rfl, h2, h3⟩ := hs.two'
    exact ⟨_, _, _, rfl, h, h2, h3⟩
theorem Dts.four' {d e f g : PyD} (h : Dts K H vs [d, e, f, g]) : ∃ v u w x, vs = [v, u, w, x] ∧ Dt K H v d ∧ Dt K H u e ∧ Dt K H w f ∧ Dt K H x g := by
  cases h with
  | cons h hs =>
    obtain ⟨u, w, x, rfl, h2, h3, h4⟩ := hs.three'
    exact ⟨_, _, _, _, rfl, h, h2, h3, h4⟩
theorem Dts.nil' (h : Dts K H vs []) : vs = [] := by
  cases h
  rfl
end

/-! ### heaps: F: the objects that may change -/
structure Rf (F : Addr → Prop) (H H' : Hp) : Prop where
  keep : ∀ a o, ¬ F a → H a = some o → H' a = some o
  tup : Tp H H'
theorem Rf.refl {F : Addr → Prop} (H : Hp) : Rf F H H := ⟨fun _ _ _ h => h, Tp.refl H⟩
theorem Rf.trans {F : Addr → Prop} {H H1 H2 : Hp} (a : Rf F H H1) (b : Rf F H1 H2) : Rf F H H2 := ⟨fun x o f h => b.keep x o f (a.keep x o f h), a.tup.trans b.tup⟩
theorem Rf.mono {F G : Addr → Prop} {H H' : Hp} (h : Rf F H H') (k : ∀ a, F a → G a) : Rf G H H' := ⟨fun a o f e => h.keep a o (fun z => f (k a z)) e, h.tup⟩
abbrev NoF : Addr → Prop := fun _ => False
/-- all that stood stands -/
def Exh (H H' : Hp) : Prop := ∀ a o, H a = some o → H' a = some o
theorem Exh.refl (H : Hp) : Exh H H := fun _ _ h => h
theorem Exh.trans {H H1 H2 : Hp} (a : Exh H H1) (b : Exh H1 H2) : Exh H H2 := fun x o h => b x o (a x o h)
theorem Exh.tp {H H' : Hp} (e : Exh H H') : Tp H H' := fun a xs h => by
  rcases h with h | ⟨o, h⟩
  · exact .inl (e _ _ h)
  · exact .inr ⟨o, e _ _ h⟩
theorem Exh.rf {F : Addr → Prop} {H H' : Hp} (e : Exh H H') : Rf F H H' := ⟨fun a o _ h => e a o h, e.tp⟩
theorem Rf.ex {H H' : Hp} (h : Rf NoF H H') : Exh H H' := fun a o e => h.keep a o (fun z => z) e
theorem Exh.new {H : Hp} {p : Addr} {o : HO} (h : H p = none) : Exh H (upd H p o) := fun a u e => by
  rw [upd_ne (ne_of_none e h)]
  exact e
theorem Exh.free {H H' : Hp} {p : Addr} (e : Exh H H') (h : H' p = none) : H p = none := by
  cases q : H p with
  | none => rfl
  | some o =>
    rw [e p o q] at h
    cases h
theorem Exh.mut {H H' : Hp} {p : Addr} {o : HO} (e : Exh H H') (h : H p = none) : Exh H (upd H' p o) := fun a u q => by
  rw [upd_ne (ne_of_none q h)]
  exact e a u q
theorem Exh.sql {K : PySem.W.Frag} {H H' : Hp} {a : Addr} {xs : List V} (e : Exh H H') (h : SqL K H a xs) : SqL K H' a xs := by
  rcases h with (h | ⟨o, h⟩) | h
  · exact .inl (.inl (e _ _ h))
  · exact .inl (.inr ⟨o, e _ _ h⟩)
  · exact .inr h
/-- an object that is no tuple is changed -/
theorem Tp.upd {H : Hp} {p : Addr} {o u : HO} (h : H p = some u) (nt : ∀ xs, u ≠ .tup xs) (nf : ∀ ob xs, u ≠ .frz ob (.tup xs)) : Tp H (upd H p o) := fun a xs q => by
  rcases q with q | ⟨ob, q⟩
  · have : a ≠ p := fun z => by
      subst z
      rw [h] at q
      cases q
      exact nt _ rfl
    exact .inl (by rw [upd_ne this]; exact q)
  · have : a ≠ p := fun z => by
      subst z
      rw [h] at q
      cases q
      exact nf _ _ rfl
    exact .inr ⟨ob, by rw [upd_ne this]; exact q⟩
theorem Tp.updL {H : Hp} {p : Addr} {o : HO} {ys : List V} (h : H p = some (.lst ys)) : Tp H (L2.upd H p o) := Tp.upd h (fun _ z => by cases z) (fun _ _ z => by cases z)
theorem Tp.updK {H : Hp} {p : Addr} {o : HO} {ys : List (Key × V)} (h : H p = some (.dK ys)) : Tp H (L2.upd H p o) := Tp.upd h (fun _ z => by cases z) (fun _ _ z => by cases z)
theorem Tp.updI {H : Hp} {p C dx : Addr} {o : HO} {fs : List (Str × V)} (h : H p = some (.ins C dx fs)) : Tp H (L2.upd H p o) := Tp.upd h (fun _ z => by cases z) (fun _ _ z => by cases z)

/-! ### the slots -/
structure EnvD (K : PySem.W.Frag) (σ : L2.St) (H : Hp) (Δ : List (Option PyD)) : Prop where
  len : σ.length = Δ.length
  at_ : ∀ (i : Nat) (d : PyD), Δ[i]? = some (some d) → ∃ v, σ[i]? = some (some v) ∧ Dt K H v d
section
variable {K : PySem.W.Frag} {σ : L2.St} {H H' : Hp} {Δ : List (Option PyD)}
theorem EnvD.tp (e : EnvD K σ H Δ) (t : Tp H H') : EnvD K σ H' Δ := ⟨e.len, fun i d h => by
  obtain ⟨v, h1, h2⟩ := e.at_ i d h
  exact ⟨v, h1, h2.mono t⟩⟩
theorem EnvD.set (e : EnvD K σ H Δ) {i : Nat} {v : V} {d : PyD} (h : Dt K H v d) : EnvD K (σ.set i (some v)) H (Δ.set i (some d)) := by
  refine ⟨by rw [List.length_set, List.length_set, e.len], fun j c q => ?_⟩
  by_cases hj : i = j
  · subst hj
    by_cases hl : i < Δ.length
    · rw [List.getElem?_set_self hl] at q
      cases q
      exact ⟨v, List.getElem?_set_self (by rw [e.len]; exact hl), h⟩
    · rw [List.getElem?_eq_none (by rw [List.length_set]; omega)] at q
      cases q
  · rw [List.getElem?_set_ne hj] at q ⊢
    exact e.at_ j c q
/-- what is told of fewer slots -/
theorem EnvD.weak {Δ' : List (Option PyD)} (e : EnvD K σ H Δ) (hl : Δ'.length = Δ.length) (h : ∀ (i : Nat) (d : PyD), Δ'[i]? = some (some d) → Δ[i]? = some (some d)) : EnvD K σ H Δ' := ⟨e.len.trans hl.symm, fun i d q => e.at_ i d (h i d q)⟩
theorem EnvD.start {N : List Str} {vs : List V} {ds : List PyD} (h : Dts K H vs ds) (hl : vs.length ≤ N.length) : EnvD K (start N vs) H (ds.map some ++ List.replicate (N.length - ds.length) none) := by
  have e := h.length
  refine ⟨by unfold L2.start; simp; omega, fun i d q => ?_⟩
  by_cases c : i < ds.length
  · rw [List.getElem?_append_left (by rw [List.length_map]; exact c), List.getElem?_map] at q
    cases hd : ds[i]? with
    | none =>
      rw [hd] at q
      cases q
    | some d' =>
      rw [hd] at q
      have q : some (some d') = some (some d) := q
      cases q
      obtain ⟨v, hv, h2⟩ := h.at hd
      refine ⟨v, ?_, h2⟩
      unfold L2.start
      rw [List.getElem?_append_left (by rw [List.length_map]; omega), List.getElem?_map, hv]
      rfl
  · rw [List.getElem?_append_right (by rw [List.length_map]; omega), List.getElem?_replicate] at q
    split at q <;> cases q
/-- the block's own slots are forgotten -/
def wipeD (Δ : List (Option PyD)) : List Nat → List (Option PyD)
  | [] => Δ
  | v :: vs => (wipeD Δ vs).set v none
theorem wipeD_length (Δ : List (Option PyD)) : ∀ vs : List Nat, (wipeD Δ vs).length = Δ.length
  | [] => rfl
  | v :: vs => by
    unfold wipeD
    rw [List.length_set, wipeD_length Δ vs]
theorem set_none {α : Type} {l : List (Option α)} {i j : Nat} {a : α} (h : (l.set i none)[j]? = some (some a)) : j ≠ i ∧ l[j]? = some (some a) := by
  by_cases c : i = j
  · subst c
    by_cases hl : i < l.length
    · rw [List.getElem?_set_self hl] at h
      cases h
    · rw [List.getElem?_eq_none (by rw [List.length_set]; omega)] at h
      cases h
  · rw [List.getElem?_set_ne c] at h
    exact ⟨fun z => c z.symm, h⟩
theorem EnvD.drop (e : EnvD K σ H Δ) (i : Nat) : EnvD K σ H (Δ.set i none) := e.weak (by rw [List.length_set]) fun _ _ q => (set_none q).2
theorem EnvD.dropS (e : EnvD K σ H Δ) (i : Nat) : EnvD K (σ.set i none) H (Δ.set i none) := ⟨by rw [List.length_set, List.length_set, e.len], fun j d q => by
  obtain ⟨h1, h2⟩ := set_none q
  obtain ⟨v, hv, hd⟩ := e.at_ j d h2
  exact ⟨v, by rw [List.getElem?_set_ne fun z => h1 z.symm]; exact hv, hd⟩⟩
theorem EnvD.wipe (e : EnvD K σ H Δ) : ∀ vs : List Nat, EnvD K (L2.wipe σ vs) H (wipeD Δ vs)
  | [] => e
  | v :: vs => (EnvD.wipe e vs).dropS v
theorem wipe_set_mem {σ : L2.St} {x : Option V} : ∀ {vs : List Nat} {i : Nat}, i ∈ vs → L2.wipe (σ.set i x) vs = L2.wipe σ vs
  | [], i, h => by cases h
  | v :: vs, i, h => by
    show (L2.wipe (σ.set i x) vs).set v none = (L2.wipe σ vs).set v none
    by_cases c : i ∈ vs
    · rw [wipe_set_mem c]
    · have e : i = v := by
        rcases List.mem_cons.mp h with z | z
        · exact z
        · exact absurd z c
      subst e
      have : ∀ (ws : List Nat), i ∉ ws → L2.wipe (σ.set i x) ws = (L2.wipe σ ws).set i x := by
        intro ws
        induction ws with
        | nil => intro _; rfl
        | cons w ws ih =>
          intro hn
          show (L2.wipe (σ.set i x) ws).set w none = ((L2.wipe σ ws).set w none).set i x
          rw [ih fun z => hn (List.mem_cons_of_mem _ z)]
          exact List.set_comm _ _ fun z => hn (z ▸ List.mem_cons_self ..)
      rw [this vs c, List.set_set]
theorem wipe_none {σ : L2.St} : ∀ {vs : List Nat} {i : Nat}, i ∈ vs → (L2.wipe σ vs).set i none = L2.wipe σ vs
  | [], i, h => by cases h
  | v :: vs, i, h => by
    show ((L2.wipe σ vs).set v none).set i none = (L2.wipe σ vs).set v none
    by_cases e : v = i
    · subst e
      rw [List.set_set]
    · rcases List.mem_cons.mp h with z | z
      · exact absurd z.symm e
      · rw [List.set_comm _ _ e, wipe_none z]
theorem wipe_wipe (σ : L2.St) (vs : List Nat) : L2.wipe (L2.wipe σ vs) vs = L2.wipe σ vs := by
  have : ∀ (ws : List Nat), (∀ w ∈ ws, w ∈ vs) → L2.wipe (L2.wipe σ vs) ws = L2.wipe σ vs := by
    intro ws
    induction ws with
    | nil => intro _; rfl
    | cons w ws ih =>
      intro h
      show (L2.wipe (L2.wipe σ vs) ws).set w none = L2.wipe σ vs
      rw [ih fun z hz => h z (List.mem_cons_of_mem _ hz)]
      exact wipe_none (h w (List.mem_cons_self ..))
  exact this vs fun _ h => h
/-- wiped slots, some of them set: wiped again they are as before -/
def Wp (σ : L2.St) (vs : List Nat) (σ2 : L2.St) : Prop := L2.wipe σ2 vs = L2.wipe σ vs
theorem Wp.start (σ : L2.St) (vs : List Nat) : Wp σ vs (L2.wipe σ vs) := wipe_wipe σ vs
theorem Wp.set {vs : List Nat} {σ2 : L2.St} {i : Nat} {x : V} (h : Wp σ vs σ2) (m : i ∈ vs) : Wp σ vs (σ2.set i (some x)) := (wipe_set_mem m).trans h
end

/-! ### how things go: F: what may change; Rs: a store of draws -/
structure Md where
  F : Addr → Prop
  Rs : Hp → Nat → Prop
  mono : ∀ H H' c, Exh H H' → Rs H c → Rs H' c
  live : ∀ H c a, F a → Rs H c → H a ≠ none
  fresh : ∀ H c H' c' p o, Rs H c → H p = none → Rs H' c' → Rs (upd H' p o) c'
/-- nothing changes, nothing is drawn -/
def M0 : Md := ⟨NoF, fun _ _ => True, fun _ _ _ _ _ => trivial, fun _ _ _ h _ => h.elim, fun _ _ _ _ _ _ _ _ _ => trivial⟩
def CM : Nat := 100000
section
variable (M : Md) (K : PySem.W.Frag)
def Ev (te : TE) (Δ : List (Option PyD)) (H : Hp) (n : Nat) (P : PyD → Prop) : Prop := ∀ (σ : L2.St) (H1 : Hp) (c : Nat), Rf M.F H H1 → EnvD K σ H1 Δ → M.Rs H1 c → c + n ≤ CM → ∀ Q : VK, (∀ v H2 d c', P d → Rf M.F H1 H2 → M.Rs H2 c' → c' ≤ c + n → Dt K H2 v d → Q v H2) → te σ H1 Q
abbrev EvD (te : TE) (Δ : List (Option PyD)) (H : Hp) (d : PyD) : Prop := Ev M K te Δ H 0 (· = d)
def EvA (ta : TA) (Δ : List (Option PyD)) (H : Hp) (n : Nat) (P : List PyD → Prop) : Prop := ∀ (σ : L2.St) (H1 : Hp) (c : Nat), Rf M.F H H1 → EnvD K σ H1 Δ → M.Rs H1 c → c + n ≤ CM → ∀ Q : List V → Hp → Prop, (∀ vs H2 ds c', P ds → Rf M.F H1 H2 → M.Rs H2 c' → c' ≤ c + n → Dts K H2 vs ds → Q vs H2) → ta σ H1 Q
abbrev EaD (ta : TA) (Δ : List (Option PyD)) (H : Hp) (ds : List PyD) : Prop := EvA M K ta Δ H 0 (· = ds)
def EvT (tt : TT) (Δ : List (Option PyD)) (H : Hp) (n : Nat) (P : Bool → Prop) : Prop := ∀ (σ : L2.St) (H1 : Hp) (c : Nat), Rf M.F H H1 → EnvD K σ H1 Δ → M.Rs H1 c → c + n ≤ CM → ∀ Q : Bool → Hp → Prop, (∀ b H2 c', P b → Rf M.F H1 H2 → M.Rs H2 c' → c' ≤ c + n → Q b H2) → tt σ H1 Q
abbrev EtD (tt : TT) (Δ : List (Option PyD)) (H : Hp) (b : Bool) : Prop := EvT M K tt Δ H 0 (· = b)
/-- a new list -/
def EvL (te : TE) (Δ : List (Option PyD)) (H : Hp) (n : Nat) (P : List PyD → Prop) : Prop := ∀ (σ : L2.St) (H1 : Hp) (c : Nat), Rf M.F H H1 → EnvD K σ H1 Δ → M.Rs H1 c → c + n ≤ CM → ∀ Q : VK, (∀ p H2 vs ds c', P ds → H1 p = none → H2 p = some (.lst vs) → Dts K H2 vs ds → Rf M.F H1 H2 → M.Rs H2 c' → c' ≤ c + n → Q (.ref p) H2) → te σ H1 Q
abbrev ElD (te : TE) (Δ : List (Option PyD)) (H : Hp) (ds : List PyD) : Prop := EvL M K te Δ H 0 (· = ds)
/-- an operation on two values, on one, a call of a built-in, by data -/
def RopD (r : R2) (H : Hp) (d e : PyD) (P : PyD → Prop) : Prop := ∀ (x y : V) (H1 : Hp) (Q : VK), Rf M.F H H1 → Dt K H1 x d → Dt K H1 y e → (∀ v H2 u, P u → Exh H1 H2 → Dt K H2 v u → Q v H2) → r x y H1 Q
def RcD (r : List V → Hp → VK → Prop) (H : Hp) (ds : List PyD) (P : PyD → Prop) : Prop := ∀ (xs : List V) (H1 : Hp) (Q : VK), Rf M.F H H1 → Dts K H1 xs ds → (∀ v H2 u, P u → Exh H1 H2 → Dt K H2 v u → Q v H2) → r xs H1 Q
/-- a promise, by data -/
def CallD (sp : Sp) (H : Hp) (ds : List PyD) (n : Nat) (P : PyD → Prop) : Prop := ∀ (xs : List V) (H1 : Hp) (c : Nat) (Q : VK) (E : XK), Rf M.F H H1 → M.Rs H1 c → c + n ≤ CM → Dts K H1 xs ds → (∀ v H2 u c', P u → Rf M.F H1 H2 → M.Rs H2 c' → c' ≤ c + n → Dt K H2 v u → Q v H2) → sp xs H1 Q E
end
/-- what a def hands back: new data, all that stood stands -/
def Ret (K : PySem.W.Frag) (P : PyD → Prop) (H : Hp) (Q : VK) : Prop := ∀ v H' d, P d → Exh H H' → Dt K H' v d → Q v H'
abbrev RetD (K : PySem.W.Frag) (d : PyD) (H : Hp) (Q : VK) : Prop := Ret K (· = d) H Q
section
variable {M : Md} {K : PySem.W.Frag} {H H' : Hp} {Δ : List (Option PyD)} {te ta tb : TE} {d e f : PyD} {n m : Nat} {P P1 P2 : PyD → Prop}
theorem Ev.mono (h : Ev M K te Δ H n P) (r : Rf M.F H H') : Ev M K te Δ H' n P := fun σ H1 c r1 => h σ H1 c (r.trans r1)
theorem Ev.imp (h : Ev M K te Δ H n P) (k : ∀ d, P d → P1 d) (hn : n ≤ m := by omega) : Ev M K te Δ H m P1 := fun σ H1 c r1 e1 s1 hc Q q => h σ H1 c r1 e1 s1 (by omega) Q fun v H2 d c' p r2 s2 hc' hd => q v H2 d c' (k d p) r2 s2 (by omega) hd
theorem Ev.is (h : EvD M K te Δ H d) (e : d = f) : EvD M K te Δ H f := e ▸ h
theorem ed_var {i : Nat} (h : Δ[i]? = some (some d)) : EvD M K (tVar i) Δ H d := fun σ H1 c r e s hc Q q => by
  obtain ⟨v, hv, hd⟩ := e.at_ i d h
  exact ⟨v, hv, q v H1 d c rfl (Rf.refl _) s (by omega) hd⟩
theorem ed_c {v : V} (hd : ∀ H1, Tp H H1 → Dt K H1 v d) : EvD M K (tC v) Δ H d := fun σ H1 c r e s hc Q q => q v H1 d c rfl (Rf.refl _) s (by omega) (hd H1 r.tup)
theorem ed_int {z : Int} : EvD M K (tC (.int z)) Δ H (.i z) := ed_c fun _ _ => .i z
theorem ed_str {z : Str} : EvD M K (tC (.str z)) Δ H (.s z) := ed_c fun _ _ => .s z
theorem ed_non : EvD M K (tC .non) Δ H .n := ed_c fun _ _ => .n
theorem ed_bl {z : Bool} : EvD M K (tC (.bl z)) Δ H (.b z) := ed_c fun _ _ => .b z
theorem ev_op {r : R2} (ha : Ev M K ta Δ H n P1) (hb : Ev M K tb Δ H m P2) (hr : ∀ d e, P1 d → P2 e → RopD M K r H d e P) : Ev M K (tOp r ta tb) Δ H (n + m) P := fun σ H1 c r1 e1 s1 hc Q q => by
  refine ha σ H1 c r1 e1 s1 (by omega) _ fun x H2 d c2 p2 r2 s2 hc2 hx => ?_
  refine hb σ H2 c2 (r1.trans r2) (e1.tp r2.tup) s2 (by omega) _ fun y H3 e c3 p3 r3 s3 hc3 hy => ?_
  refine hr d e p2 p3 x y H3 Q ((r1.trans r2).trans r3) (hx.mono r3.tup) hy fun v H4 u pu x4 hv => ?_
  exact q v H4 u c3 pu ((r2.trans r3).trans x4.rf) (M.mono _ _ _ x4 s3) (by omega) hv
theorem ed_op {r : R2} (ha : EvD M K ta Δ H d) (hb : EvD M K tb Δ H e) (hr : RopD M K r H d e (· = f)) : EvD M K (tOp r ta tb) Δ H f := ev_op ha hb fun _ _ p q => by rw [p, q]; exact hr
theorem ev_un {r : V → Hp → VK → Prop} (ha : Ev M K ta Δ H n P1) (hr : ∀ d x H1 Q, P1 d → Rf M.F H H1 → Dt K H1 x d → (∀ v H2 u, P u → Exh H1 H2 → Dt K H2 v u → Q v H2) → r x H1 Q) : Ev M K (tUn r ta) Δ H n P := fun σ H1 c r1 e1 s1 hc Q q => by
  refine ha σ H1 c r1 e1 s1 (by omega) _ fun x H2 d c2 p2 r2 s2 hc2 hx => ?_
  exact hr d x H2 Q p2 (r1.trans r2) hx fun v H4 u pu x4 hv => q v H4 u c2 pu (r2.trans x4.rf) (M.mono _ _ _ x4 s2) hc2 hv
theorem rop_I0 {g : Int → Int → V} {a b : Int} (hg : ∀ H1, Tp H H1 → Dt K H1 (g a b) f) : RopD M K (rI0 g) H (.i a) (.i b) (· = f) := fun x y H1 Q r hx hy q => by
  cases hx.int
  cases hy.int
  exact ⟨a, b, rfl, rfl, q _ H1 _ rfl (Exh.refl _) (hg H1 r.tup)⟩
theorem rop_I {C : Int → Int → Prop} {g : Int → Int → V} {a b : Int} (hc : C a b) (hg : ∀ H1, Tp H H1 → Dt K H1 (g a b) f) : RopD M K (rI C g) H (.i a) (.i b) (· = f) := fun x y H1 Q r hx hy q => by
  cases hx.int
  cases hy.int
  exact ⟨a, b, rfl, rfl, hc, q _ H1 _ rfl (Exh.refl _) (hg H1 r.tup)⟩
theorem rop_ixT {ds : List PyD} {i : Int} (h : atI ds i = some d) : RopD M K (rIxT K) H (.t ds) (.i i) (· = d) := fun x y H1 Q r hx hy q => by
  obtain ⟨a, vs, rfl, hs, hd⟩ := hx.tup
  cases hy.int
  unfold atI at h
  rw [← hd.length] at h
  cases c : ixN vs.length i with
  | none =>
    rw [c] at h
    cases h
  | some j =>
    rw [c] at h
    obtain ⟨v, hv, hvd⟩ := hd.at (show ds[j]? = some d from h)
    exact ⟨a, vs, i, v, rfl, rfl, hs, by unfold atI; rw [c]; exact hv, q v H1 d rfl (Exh.refl _) hvd⟩
/-- an index into a list that stands at an address -/
theorem rop_ixL {a : Addr} {vs : List V} {ds : List PyD} {i : Int} (hl : H a = some (.lst vs)) (hf : ¬ M.F a) (hd : Dts K H vs ds) (h : atI ds i = some d) : RopD M K (rIxL K) H (.r (.ref a)) (.i i) (· = d) := fun x y H1 Q r hx hy q => by
  cases hx.raw
  cases hy.int
  unfold atI at h
  rw [← hd.length] at h
  cases c : ixN vs.length i with
  | none =>
    rw [c] at h
    cases h
  | some j =>
    rw [c] at h
    obtain ⟨v, hv, hvd⟩ := hd.at (show ds[j]? = some d from h)
    exact ⟨a, vs, i, v, rfl, rfl, SqL.of (r.keep _ _ hf hl), by unfold atI; rw [c]; exact hv, q v H1 d rfl (Exh.refl _) (hvd.mono r.tup)⟩
theorem rop_eq {d e : PyD} {x y : V} (hx : ∀ H u, Dt K H u d → u = x) (hy : ∀ H u, Dt K H u e → u = y) (hs : scal x y = true) {k : Bool} (hk : decide (x = y) = k) : RopD M K rEq H d e (· = .b k) := fun u w H1 Q r h1 h2 q => by
  cases hx H1 u h1
  cases hy H1 w h2
  exact ⟨hs, q _ H1 _ rfl (Exh.refl _) (by rw [hk]; exact .b k)⟩
theorem rop_ne {d e : PyD} {x y : V} (hx : ∀ H u, Dt K H u d → u = x) (hy : ∀ H u, Dt K H u e → u = y) (hs : scal x y = true) {k : Bool} (hk : (!decide (x = y)) = k) : RopD M K rNe H d e (· = .b k) := fun u w H1 Q r h1 h2 q => by
  cases hx H1 u h1
  cases hy H1 w h2
  exact ⟨hs, q _ H1 _ rfl (Exh.refl _) (by rw [hk]; exact .b k)⟩
theorem ea_nil : EaD M K tNil Δ H [] := fun σ H1 c r e s hc Q q => q [] H1 [] c rfl (Rf.refl _) s (by omega) .nil
theorem ev_cons {tr : TA} {PA : List PyD → Prop} (ha : Ev M K ta Δ H n P1) (hr : EvA M K tr Δ H m PA) : EvA M K (tCons ta tr) Δ H (n + m) (fun ds => ∃ d r, ds = d :: r ∧ P1 d ∧ PA r) := fun σ H1 c r1 e1 s1 hc Q q => by
  refine ha σ H1 c r1 e1 s1 (by omega) _ fun x H2 d c2 p2 r2 s2 hc2 hx => ?_
  refine hr σ H2 c2 (r1.trans r2) (e1.tp r2.tup) s2 (by omega) _ fun vs H3 ds c3 p3 r3 s3 hc3 hy => ?_
  exact q (x :: vs) H3 (d :: ds) c3 ⟨d, ds, rfl, p2, p3⟩ (r2.trans r3) s3 (by omega) (.cons (hx.mono r3.tup) hy)
theorem EvA.imp {ta : TA} {PA PB : List PyD → Prop} (h : EvA M K ta Δ H n PA) (k : ∀ d, PA d → PB d) (hn : n ≤ m := by omega) : EvA M K ta Δ H m PB := fun σ H1 c r1 e1 s1 hc Q q => h σ H1 c r1 e1 s1 (by omega) Q fun v H2 d c' p r2 s2 hc' hd => q v H2 d c' (k d p) r2 s2 (by omega) hd
theorem ea_cons {tr : TA} {ds : List PyD} (ha : EvD M K ta Δ H d) (hr : EaD M K tr Δ H ds) : EaD M K (tCons ta tr) Δ H (d :: ds) := (ev_cons ha hr).imp fun _ ⟨_, _, e, p, q⟩ => by rw [e, p, q]
theorem ev_tup {ta : TA} {PA : List PyD → Prop} (h : EvA M K ta Δ H n PA) (hl : ∀ ds, PA ds → ds.length ≤ 1000) : Ev M K (tTup ta) Δ H n (fun d => ∃ ds, d = .t ds ∧ PA ds) := fun σ H1 c r1 e1 s1 hc Q q => by
  refine h σ H1 c r1 e1 s1 hc _ fun vs H2 ds c2 p2 r2 s2 hc2 hx => ?_
  refine ⟨by rw [hx.length]; exact Nat.le_trans (hl ds p2) (by decide), fun p hp => ?_⟩
  have x3 := Exh.new (o := .tup vs) hp
  exact q _ _ (.t ds) c2 ⟨ds, rfl, p2⟩ (r2.trans x3.rf) (M.mono _ _ _ x3 s2) hc2 (.t (SqT.of upd_same) (hx.mono x3.tp))
theorem ed_tup {ta : TA} {ds : List PyD} (h : EaD M K ta Δ H ds) (hl : ds.length ≤ 1000 := by exact Nat.le_of_ble_eq_true rfl) : EvD M K (tTup ta) Δ H (.t ds) := (ev_tup h (fun _ e => by rw [e]; exact hl)).imp fun _ ⟨_, e, p⟩ => by rw [e, p]
theorem ev_lst {ta : TA} {PA : List PyD → Prop} (h : EvA M K ta Δ H n PA) (hl : ∀ ds, PA ds → ds.length ≤ 1000) : EvL M K (tLst ta) Δ H n PA := fun σ H1 c r1 e1 s1 hc Q q => by
  refine h σ H1 c r1 e1 s1 hc _ fun vs H2 ds c2 p2 r2 s2 hc2 hx => ?_
  refine ⟨by rw [hx.length]; exact Nat.le_trans (hl ds p2) (by decide), fun p hp => ?_⟩
  have x3 := Exh.new (o := .lst vs) hp
  have s3 := M.mono _ _ _ x3 s2
  refine q p _ vs ds c2 p2 ?_ upd_same (hx.mono x3.tp) (r2.trans x3.rf) s3 hc2
  cases z : H1 p with
  | none => rfl
  | some o =>
    by_cases f : M.F p
    · exact absurd hp (M.live _ _ _ f s2)
    · rw [r2.keep _ _ f z] at hp
      cases hp
theorem el_lst {ta : TA} {ds : List PyD} (h : EaD M K ta Δ H ds) (hl : ds.length ≤ 1000 := by exact Nat.le_of_ble_eq_true rfl) : ElD M K (tLst ta) Δ H ds := ev_lst h fun _ e => by rw [e]; exact hl
/-- [a, b, ..][e] -/
theorem ev_lstIx {tl : TE} {PA : List PyD → Prop} (h : EvL M K tl Δ H n PA) (hb : Ev M K tb Δ H m P2) (hx : ∀ ds e, PA ds → P2 e → ∃ i d, e = .i i ∧ atI ds i = some d ∧ P d) : Ev M K (tOp (rIxL K) tl tb) Δ H (n + m) P := fun σ H1 c r1 e1 s1 hc Q q => by
  refine h σ H1 c r1 e1 s1 (by omega) _ fun p H2 vs ds c2 p2 hp h2 hd r2 s2 hc2 => ?_
  refine hb σ H2 c2 (r1.trans r2) (e1.tp r2.tup) s2 (by omega) _ fun y H3 e c3 p3 r3 s3 hc3 hy => ?_
  obtain ⟨i, d, rfl, ha, pd⟩ := hx ds e p2 p3
  have nf : ¬ M.F p := fun f => absurd hp (M.live _ _ _ f s1)
  refine rop_ixL (M := M) (d := d) (H := H2) h2 nf hd ha _ _ H3 Q r3 (.r _) hy fun v H4 u pu x4 hv => ?_
  exact q v H4 u c3 (by rw [pu]; exact pd) ((r2.trans r3).trans x4.rf) (M.mono _ _ _ x4 s3) (by omega) hv
theorem ev_cb {r : List V → Hp → VK → Prop} {ta : TA} {PA : List PyD → Prop} (h : EvA M K ta Δ H n PA) (hr : ∀ ds, PA ds → RcD M K r H ds P) : Ev M K (tCB r ta) Δ H n P := fun σ H1 c r1 e1 s1 hc Q q => by
  refine h σ H1 c r1 e1 s1 hc _ fun vs H2 ds c2 p2 r2 s2 hc2 hx => ?_
  exact hr ds p2 vs H2 Q (r1.trans r2) hx fun v H4 u pu x4 hv => q v H4 u c2 pu (r2.trans x4.rf) (M.mono _ _ _ x4 s2) hc2 hv
theorem ed_cb {r : List V → Hp → VK → Prop} {ta : TA} {ds : List PyD} (h : EaD M K ta Δ H ds) (hr : RcD M K r H ds (· = d)) : EvD M K (tCB r ta) Δ H d := ev_cb h fun _ e => by rw [e]; exact hr
theorem ev_call {sp : Sp} {E : XK} {ta : TA} {PA : List PyD → Prop} (h : EvA M K ta Δ H n PA) (hs : ∀ ds, PA ds → CallD M K sp H ds m P) : Ev M K (tCall sp [] E ta) Δ H (n + m) P := fun σ H1 c r1 e1 s1 hc Q q => by
  refine h σ H1 c r1 e1 s1 (by omega) _ fun vs H2 ds c2 p2 r2 s2 hc2 hx => ?_
  rw [List.append_nil]
  exact hs ds p2 vs H2 c2 Q E (r1.trans r2) s2 (by omega) hx fun v H4 u c' pu r4 s4 hc4 hv => q v H4 u c' pu (r2.trans r4) s4 (by omega) hv
theorem ed_call {sp : Sp} {E : XK} {ta : TA} {ds : List PyD} (h : EaD M K ta Δ H ds) (hs : CallD M K sp H ds 0 (· = d)) : EvD M K (tCall sp [] E ta) Δ H d := ev_call h fun _ e => by rw [e]; exact hs
/-- a promise that hands back data -/
theorem CallD.of {sp : Sp} {ds : List PyD} (h : ∀ xs H1 Q E, Rf M.F H H1 → Dts K H1 xs ds → Ret K P H1 Q → sp xs H1 Q E) : CallD M K sp H ds 0 P := fun xs H1 c Q E r1 s1 hc hx q => h xs H1 Q E r1 hx fun v H' d pd x hd => q v H' d c pd x.rf (M.mono _ _ _ x s1) (by omega) hd
/-! tests -/
theorem et_test {k : Bool} (h : EvD M K te Δ H (.b k)) : EtD M K (tTest te) Δ H k := fun σ H1 c r1 e1 s1 hc Q q => h σ H1 c r1 e1 s1 hc _ fun v H2 d c' p r2 s2 hc2 hd => by
  rw [p] at hd
  exact ⟨k, hd.bl, q k H2 c' rfl r2 s2 hc2⟩
theorem et_B {k : Bool} (h : EvD M K te Δ H (.b k)) : EtD M K (tB te) Δ H k := fun σ H1 c r1 e1 s1 hc Q q => h σ H1 c r1 e1 s1 hc _ fun v H2 d c' p r2 s2 hc2 hd => by
  rw [p] at hd
  exact ⟨k, hd.bl, q k H2 c' rfl r2 s2 hc2⟩
theorem et_and {t u : TT} {a b : Bool} (h1 : EtD M K t Δ H a) (h2 : a = true → EtD M K u Δ H b) : EtD M K (tAnd t u) Δ H (a && b) := fun σ H1 c r1 e1 s1 hc Q q => h1 σ H1 c r1 e1 s1 hc _ fun k H2 c' p r2 s2 hc2 => by
  subst p
  cases k with
  | true => exact iteT (h2 rfl σ H2 c' (r1.trans r2) (e1.tp r2.tup) s2 (by omega) Q fun k' H3 c3 p3 r3 s3 hc3 => q _ H3 c3 (by rw [p3]; rfl) (r2.trans r3) s3 (by omega))
  | false => exact iteF (q false H2 c' rfl r2 s2 hc2)
theorem et_or {t u : TT} {a b : Bool} (h1 : EtD M K t Δ H a) (h2 : a = false → EtD M K u Δ H b) : EtD M K (tOr t u) Δ H (a || b) := fun σ H1 c r1 e1 s1 hc Q q => h1 σ H1 c r1 e1 s1 hc _ fun k H2 c' p r2 s2 hc2 => by
  subst p
  cases k with
  | true => exact iteT (q true H2 c' rfl r2 s2 hc2)
  | false => exact iteF (h2 rfl σ H2 c' (r1.trans r2) (e1.tp r2.tup) s2 (by omega) Q fun k' H3 c3 p3 r3 s3 hc3 => q _ H3 c3 (by rw [p3]; rfl) (r2.trans r3) s3 (by omega))
theorem et_not {t : TT} {a : Bool} (h1 : EtD M K t Δ H a) : EtD M K (tNot t) Δ H (!a) := fun σ H1 c r1 e1 s1 hc Q q => h1 σ H1 c r1 e1 s1 hc _ fun k H2 c' p r2 s2 hc2 => by
  subst p
  exact q _ H2 c' rfl r2 s2 hc2
theorem EtD.is {t : TT} {a b : Bool} (h : EtD M K t Δ H a) (e : a = b) : EtD M K t Δ H b := e ▸ h
theorem ed_andV {a b : Bool} (h1 : EvD M K ta Δ H (.b a)) (h2 : a = true → EvD M K tb Δ H (.b b)) : EvD M K (tAndV ta tb) Δ H (.b (a && b)) := fun σ H1 c r1 e1 s1 hc Q q => h1 σ H1 c r1 e1 s1 hc _ fun v H2 d c' p r2 s2 hc2 hd => by
  rw [p] at hd
  refine ⟨a, hd.bl, ?_⟩
  cases a with
  | true => exact iteT (h2 rfl σ H2 c' (r1.trans r2) (e1.tp r2.tup) s2 (by omega) Q fun v' H3 d3 c3 p3 r3 s3 hc3 => q _ H3 d3 c3 (by rw [p3]; rfl) (r2.trans r3) s3 (by omega))
  | false => exact iteF (q _ H2 _ c' rfl r2 s2 hc2 (.b false))
theorem ed_notV {a : Bool} (h1 : EvD M K ta Δ H (.b a)) : EvD M K (tNotV ta) Δ H (.b (!a)) := fun σ H1 c r1 e1 s1 hc Q q => h1 σ H1 c r1 e1 s1 hc _ fun v H2 d c' p r2 s2 hc2 hd => by
  rw [p] at hd
  exact ⟨a, hd.bl, q _ H2 _ c' rfl r2 s2 hc2 (.b _)⟩
theorem ev_if {t : TT} {b : Bool} (h : EtD M K t Δ H b) (h1 : b = true → Ev M K ta Δ H n P) (h2 : b = false → Ev M K tb Δ H n P) : Ev M K (tIf t ta tb) Δ H n P := fun σ H1 c r1 e1 s1 hc Q q => h σ H1 c r1 e1 s1 (by omega) _ fun k H2 c' p r2 s2 hc2 => by
  subst p
  cases k with
  | true => exact iteT (h1 rfl σ H2 c' (r1.trans r2) (e1.tp r2.tup) s2 (by omega) Q fun v' H3 d3 c3 p3 r3 s3 hc3 => q _ H3 d3 c3 p3 (r2.trans r3) s3 (by omega))
  | false => exact iteF (h2 rfl σ H2 c' (r1.trans r2) (e1.tp r2.tup) s2 (by omega) Q fun v' H3 d3 c3 p3 r3 s3 hc3 => q _ H3 d3 c3 p3 (r2.trans r3) s3 (by omega))

/-! ### statements -/
variable {σ : L2.St} {c : Nat} {D : Ends} {tz tu tw : TS}
theorem q {t u : TS} (h : t { D with nx := u D } σ H) : tSeq t u D σ H := h
theorem s_asg {i : Nat} (h : Ev M K te Δ H n P) (e : EnvD K σ H Δ) (s : M.Rs H c) (hc : c + n ≤ CM) (k : ∀ σ' H' d c', P d → Rf M.F H H' → EnvD K σ' H' (Δ.set i (some d)) → M.Rs H' c' → c' ≤ c + n → D.nx σ' H') : tAsg te (gName i) D σ H :=
  h σ H c (Rf.refl _) e s hc _ fun v H2 d c' p r2 s2 hc2 hd => k _ H2 d c' p r2 ((e.tp r2.tup).set hd) s2 hc2
theorem s_asgL {i : Nat} {PA : List PyD → Prop} (h : EvL M K te Δ H n PA) (e : EnvD K σ H Δ) (s : M.Rs H c) (hc : c + n ≤ CM) (k : ∀ σ' H' p vs ds c', PA ds → H p = none → H' p = some (.lst vs) → Dts K H' vs ds → Rf M.F H H' → EnvD K σ' H' (Δ.set i (some (.r (.ref p)))) → M.Rs H' c' → c' ≤ c + n → D.nx σ' H') : tAsg te (gName i) D σ H :=
  h σ H c (Rf.refl _) e s hc _ fun p H2 vs ds c' pa hp h2 hd r2 s2 hc2 => k _ H2 p vs ds c' pa hp h2 hd r2 ((e.tp r2.tup).set (.r _)) s2 hc2
theorem s_ret (h : Ev M K te Δ H n P) (e : EnvD K σ H Δ) (s : M.Rs H c) (hc : c + n ≤ CM) (k : ∀ v H' d c', P d → Rf M.F H H' → Dt K H' v d → M.Rs H' c' → c' ≤ c + n → D.rt v H') : tRet te D σ H :=
  h σ H c (Rf.refl _) e s hc _ fun v H2 d c' p r2 s2 hc2 hd => k v H2 d c' p r2 hd s2 hc2
theorem s_drop (h : Ev M K te Δ H n P) (e : EnvD K σ H Δ) (s : M.Rs H c) (hc : c + n ≤ CM) (k : ∀ H' d c', P d → Rf M.F H H' → EnvD K σ H' Δ → M.Rs H' c' → c' ≤ c + n → D.nx σ H') : tDrop te D σ H :=
  h σ H c (Rf.refl _) e s hc _ fun v H2 d c' p r2 s2 hc2 hd => k H2 d c' p r2 (e.tp r2.tup) s2 hc2
theorem s_if {t : TT} {PB : Bool → Prop} (h : EvT M K t Δ H n PB) (e : EnvD K σ H Δ) (s : M.Rs H c) (hc : c + n ≤ CM) (h1 : PB true → ∀ H' c', Rf M.F H H' → EnvD K σ H' Δ → M.Rs H' c' → c' ≤ c + n → tu D σ H') (h2 : PB false → ∀ H' c', Rf M.F H H' → EnvD K σ H' Δ → M.Rs H' c' → c' ≤ c + n → tw D σ H') : tIfS t tu tw D σ H :=
  h σ H c (Rf.refl _) e s hc _ fun b H2 c' p r2 s2 hc2 => by
    cases b with
    | true => exact iteT (h1 p H2 c' r2 (e.tp r2.tup) s2 hc2)
    | false => exact iteF (h2 p H2 c' r2 (e.tp r2.tup) s2 hc2)
/-- targets that are names, one after another -/
def gNames : List Nat → TGs
  | [] => gNil
  | i :: is => gCons (gName i) (gNames is)
def setN (Δ : List (Option PyD)) : List Nat → List PyD → List (Option PyD)
  | i :: is, d :: ds => setN (Δ.set i (some d)) is ds
  | _, _ => Δ
theorem gNames_ok : ∀ {is : List Nat} {vs : List V} {ds : List PyD} {Δ : List (Option PyD)} {σ : L2.St} {Q : L2.St → Hp → Prop}, is.length = ds.length → Dts K H vs ds → EnvD K σ H Δ → (∀ σ', EnvD K σ' H (setN Δ is ds) → Q σ' H) → gNames is vs σ H Q
  | [], vs, ds, Δ, σ, Q, hl, h, e, k => by
    cases ds with
    | nil => exact ⟨h.nil', k σ e⟩
    | cons _ _ => cases hl
  | i :: is, vs, ds, Δ, σ, Q, hl, h, e, k => by
    cases ds with
    | nil => cases hl
    | cons d ds =>
      cases h with
      | cons h hs => exact ⟨_, _, rfl, gNames_ok (is := is) (by simpa using hl) hs (e.set h) k⟩
theorem gTup_ok {is : List Nat} {v : V} {ds : List PyD} {Q : L2.St → Hp → Prop} (hv : Dt K H v (.t ds)) (hl : is.length = ds.length) (e : EnvD K σ H Δ) (k : ∀ σ', EnvD K σ' H (setN Δ is ds) → Q σ' H) : gTup K is.length (gNames is) v σ H Q := by
  obtain ⟨a, vs, rfl, hs, hd⟩ := hv.tup
  exact ⟨a, vs, rfl, hs, by rw [hd.length, hl], gNames_ok hl hd e k⟩
theorem s_asgT {is : List Nat} {PA : List PyD → Prop} (h : Ev M K te Δ H n (fun d => ∃ ds, d = .t ds ∧ PA ds)) (hl : ∀ ds, PA ds → is.length = ds.length) (e : EnvD K σ H Δ) (s : M.Rs H c) (hc : c + n ≤ CM) (k : ∀ σ' H' ds c', PA ds → Rf M.F H H' → EnvD K σ' H' (setN Δ is ds) → M.Rs H' c' → c' ≤ c + n → D.nx σ' H') : tAsg te (gTup K is.length (gNames is)) D σ H :=
  h σ H c (Rf.refl _) e s hc _ fun v H2 d c' p r2 s2 hc2 hd => by
    obtain ⟨ds, rfl, pa⟩ := p
    exact gTup_ok hd (hl ds pa) (e.tp r2.tup) fun σ' e' => k σ' H2 ds c' pa r2 e' s2 hc2
/-- xs.append(e): e told at the heap as it stands -/
theorem s_app {l : Addr} {vs : List V} {ds : List PyD} (hl : H l = some (.lst vs)) (nf : ¬ M.F l) (ho : EvD M K ta Δ H (.r (.ref l))) (h : Ev M K te Δ H n P) (hz : vs.length < 100000) (e : EnvD K σ H Δ) (s : M.Rs H c) (hc : c + n ≤ CM)
    (k : ∀ H' v d c', P d → Rf M.F H H' → EnvD K σ H' Δ → M.Rs H' c' → c' ≤ c + n → Dt K H' v d → H' l = some (.lst vs) → D.nx σ (upd H' l (.lst (vs ++ [v])))) : tDrop (tBM K "list" rAppend ta (tCons te tNil)) D σ H := by
  refine ho σ H c (Rf.refl _) e s (by omega) _ fun x H2 d c' p r2 s2 hc2 hd => ?_
  rw [p] at hd
  cases hd.raw
  have h2 := r2.keep _ _ nf hl
  refine ⟨.inl ⟨rfl, _, SqL.of h2⟩, ?_⟩
  refine h σ H2 c' r2 (e.tp r2.tup) s2 (by omega) _ fun v H3 d c3 p3 r3 s3 hc3 hv => ?_
  have h3 := r3.keep _ _ nf h2
  exact ⟨l, vs, v, rfl, rfl, h3, Nat.lt_of_lt_of_le hz (by decide), k H3 v d c3 p3 (r2.trans r3) ((e.tp r2.tup).tp r3.tup) s3 (by omega) hv h3⟩
end
end K27
/-! Rules that the hand layer lacks: a, *b = a list; enumerate of a tuple. -/
namespace K27
open PySem PySem.Spec PyProof.Rows L2
/-! ### first, *rest = a list -/
theorem star_items {P : Program} {w : World} {A : Around} {E : Value → Shared → Prop} {s : Shared} {l : Addr} {u : Value} {us : List Value} {Q : List Value → Shared → Prop} (hh : A.handled = none) (hl : s.heap.IsList l (u :: us).toArray) (hz : us.length < 16000)
    (h : ∀ g tk, (∀ b o, s.heap.get? b = some o → g.get? b = some o) → wpAny (model P w) A (newList us) (fun d => Q [u, d]) E { s with heap := g, toks := tk }) :
    wpAny (model P w) A (unpackItems (.ref l) 2 (some 1)) Q E s := by
  have lb : l < s.heap.objs.size := hl.elim fun _ z => Heap.lt_size z.1
  have ne := Nat.ne_of_lt lb
  unfold unpackItems notIterableAtAll
  refine wpAny_bind (wpAny_bind (wpAny_specialOf hl.typeIs slot_list_iter.lookup (wpAny_pure ?_)))
  simp only [Bool.false_eq_true, if_false]
  refine wpAny_bind (wpAny_holding (wpAny_pyIter_list hl (wpAny_bind (wpAny_holding (PySem.W.kun_draw ne 1 0 _ _ ⟨_, Heap.get?_push_size _ rfl, rfl, rfl⟩ (hl.push _) (by simp) fun g it1 sb1 => ?_)))))
  have gl : g.IsList l (u :: us).toArray := (hl.push _).extBut sb1.extBut ne
  have e1 : (((u :: us).toArray.toList.drop 0).take 1) = [u] := rfl
  rw [e1, if_neg (by simp)]
  have i1 : s.heap.objs.size < g.objs.size := it1.elim fun _ z => Heap.lt_size z.1
  have i2 : l < g.objs.size := gl.elim fun _ z => Heap.lt_size z.1
  refine wpAny_bind (wpAny_holding (PySem.W.kun_collect (s := { s with heap := g }) (T := "list_iterator") (k := 1) (.inr (.inr (.inl rfl))) (Walks.list (A := A.in1) hh s.heap.objs.size l ne (u :: us).toArray) (fun j z st => st.1.typeIs) (by simp) ⟨it1, gl⟩ i1 i2 (fun g2 tk kp => ?_) (by rw [sizeLine_eq]; simp; omega)))
  show wpAny _ _ (if us.length < 0 then _ else _) _ _ _
  rw [if_neg (Nat.not_lt_zero _)]
  show wpAny _ _ (newList (us.take (us.length - 0)) >>= fun d => pure ([u] ++ [d] ++ us.drop (us.length - 0))) _ _ _
  rw [Nat.sub_zero, List.take_length, List.drop_length]
  have old : ∀ b o, s.heap.get? b = some o → g2.get? b = some o := fun b o z => kp b o (Nat.ne_of_lt (Heap.lt_size z)) (sb1.extBut b o (Nat.ne_of_lt (Heap.lt_size z)) (Heap.get?_push_of_some _ z))
  exact wpAny_bind (wpAny_mono (h g2 tk old) (fun d s2 z => wpAny_pure z) fun _ _ z => z)
/-- a, *b = v: the head in slot i, a new list of the rest in slot j -/
def gStar (K : PySem.W.Frag) (i j : Nat) : TG := fun v σ H Q => ∃ a x xs, v = .ref a ∧ SqL K H a (x :: xs) ∧ xs.length < 16000 ∧ ∀ p, H p = none → Q ((σ.set i (some x)).set j (some (.ref p))) (L2.upd H p (.lst xs))
theorem pg_star {X : Cx} {i j : Nat} {x y : Str} {p1 p2 p3 pos : Pos} {k : Nat} (hc : X.calm = true) (hN : X.N.Nodup) (hi : X.N[i]? = some x) (hj : X.N[j]? = some y) (hx : X.env.scope.names.lookup x = some .local) (hy : X.env.scope.names.lookup y = some .local) :
    PG X (.Tuple [.Name x p1, .Starred (.Name y p2) p3] k pos) (gStar X.K i j) := by
  refine ⟨fun pins s σ H v u Q I r hw => ?_⟩
  obtain ⟨a, x0, xs, rfl, hq, hz, hw⟩ := hw
  cases r
  obtain ⟨its, rv, pl, _⟩ := I.list hq
  cases rv with
  | @cons _ u0 _ us r0 rr =>
    have hl : s.heap.IsList a (u0 :: us).toArray := by
      obtain ⟨o, m, e, c, _, q⟩ := pl
      exact ⟨o, e, c, m, q⟩
    rw [PyProof.Rows.assign_Tuple]
    refine wpAny_bind (wpAny_standAt ?_)
    show wpAny _ _ ((holding [Value.ref a] (unpackItems (Value.ref a) 2 (some 1))) >>= fun l => assignInOrder [assign (.Name x p1) X.env, assign (.Name y p2) X.env] l) _ _ _
    refine wpAny_bind (wpAny_holding (star_items (I.ok.hd hc) hl (by have := rr.length; omega) fun g tk kp => ?_))
    have I1 : Inv X pins σ H { s with heap := g, toks := tk } := I.kept kp
    refine wpAny_newList ?_ (by have := rr.length; rw [sizeLine_eq]; omega)
    have fr : H g.objs.size = none := I1.hok.fresh (Nat.le_refl _)
    have I2 := I1.laid (a := g.objs.size) (o := .lst xs) (t' := tk) (h' := g.push { cls := .type "list", data := .seq us.toArray }) (fun b o e => Heap.get?_push_of_some _ e) (Nat.le_refl _) ⟨by rw [sizeLine_eq]; omega, us, 0, rr, Heap.get?_push_size _ rfl⟩
    refine assignInOrder_cons (wpAny_assign_Name (store_ok I2 hN hi (.inl hx) r0 (fun s3 I3 => ?_) (.inr hx)))
    refine assignInOrder_cons (wpAny_assign_Name (store_ok (v := .ref g.objs.size) I3 hN hj (.inl hy) rfl (fun s4 I4 => ?_) (.inr hy)))
    exact assignInOrder_nil ⟨_, _, I4, hw _ fr⟩

/-! ### enumerate(t), t a tuple -/
theorem enum_new {v : Value} {o : Obj} {Hb : Heap → Prop} (B : Begins v o Hb) :
    Meets (Builtin.«enumerate.__new__» ⟨[.type "enumerate", v], []⟩) (fun _ R s => Hb s.heap ∧
      R (.ok (.ret (.ref (s.heap.push o).objs.size))) { s with heap := (s.heap.push o).push { cls := .type "enumerate", data := .fields #[.none, .bool false, .ref s.heap.objs.size, rawInt 0, .none, .none] } }) :=
  .of_wp fun prog w A R ⟨hp, ge, dr, tk, os⟩ ⟨h1, h2⟩ => by
    have hs0 := sub_enumerate
    have qi : ∀ {A' : Around} {E : Value → Shared → Prop} {Q : Value → Shared → Prop}, Q (.ref hp.objs.size) ⟨hp.push o, ge, dr, tk, os⟩ → wpAny (model prog w) A' (pyIter v) Q E ⟨hp, ge, dr, tk, os⟩ :=
      fun z => B.iter prog w _ _ ⟨hp, ge, dr, tk, os⟩ _ h1 z
    wp_walk using qi
    refine wpAny_stack_any fun _ => wpAny_pure ?_
    split
    · rename_i k _ _ _ _ _
      cases (k == Value.type "enumerate") <;> (wp_walk using qi; exact ⟨_, rfl, h2⟩)
    · wp_walk using qi; exact ⟨_, rfl, h2⟩
theorem enum_tup {P : Program} {w : World} {A : Around} {E : Value → Shared → Prop} {s : Shared} {t : Addr} {items : Array Value} {Q : Value → Shared → Prop} (ht : s.heap.IsTuple t items)
    (h : ∀ h', IsEnum h' (s.heap.objs.size + 1) s.heap.objs.size 0 .none → h'.IsTupleIter s.heap.objs.size t 0 →
      (∀ b o, s.heap.get? b = some o → h'.get? b = some o) → Q (.ref (s.heap.objs.size + 1)) { s with heap := h' }) :
    wpAny (model P w) A (call (.type "enumerate") [.ref t]) Q E s := by
  refine callType_new F.called_enumerate (by decide) (F.typeCall_enumerate_1 _) (F.newCall_enumerate_1 _) (fun ob => F.args_object_init_2 ob _) F.entry_enumerate_new (enum_new (begins_tuple t items)) ⟨ht, ?_⟩
  have z1 := Heap.size_push s.heap { cls := .type "tuple_iterator", data := .fields #[.ref t, .int 0 0] }
  show _ ∧ _
  rw [z1]
  have z2 := Heap.get?_push_size (s.heap.push { cls := .type "tuple_iterator", data := .fields #[.ref t, .int 0 0] }) (o := { cls := .type "enumerate", data := .fields #[.none, .bool false, .ref s.heap.objs.size, rawInt 0, .none, .none] }) rfl
  rw [z1] at z2
  exact ⟨⟨_, z2, rfl⟩, h _ z2 ⟨_, Heap.get?_push_of_some _ (Heap.get?_push_size _ rfl), rfl, rfl⟩ fun b o x => Heap.get?_push_of_some _ (Heap.get?_push_of_some _ x)⟩
/-- the tuple at a, each item in a new pair -/
def IteT (K : PySem.W.Frag) (a : Addr) : It :=
  ⟨fun i H => ∃ (xs : List V) (x : V), SqT K H a xs ∧ xs[i]? = some x, fun i H v H' => ∃ T x, v = .ref T ∧ H T = none ∧ H' = L2.upd H T (.tup [.int (i : Nat), x]) ∧ ∀ xs, SqT K H a xs → xs[i]? = some x, fun i H => ∃ xs : List V, SqT K H a xs ∧ xs.length ≤ i⟩
theorem turn_enumT {P : Program} {w : World} {K : PySem.W.Frag} {elts : List Expr} {kk : Nat} {tpos : Pos} (a e it : Addr) (hai : a ≠ it) (hae : a ≠ e) (hei : e ≠ it) :
    Turn P w K (.Tuple elts kk tpos) (IteT K a) [e, it] e (fun i h => (∃ old, IsEnum h e it ((i : Nat) : Int) old) ∧ h.IsTupleIter it a i) where
  mem := by simp
  obj := fun i h ⟨⟨old, he⟩, ⟨o, ho, hc, hd⟩⟩ b hb => by
    rcases (show b = e ∨ b = it by simpa using hb) with z | z
    · exact ⟨_, z ▸ he, fun v q => by cases q⟩
    · exact ⟨o, z ▸ ho, fun v q => by rw [hd] at q; cases q⟩
  keep := fun i h h' ⟨⟨old, he⟩, hi⟩ k => ⟨⟨old, k e (by simp) _ he⟩, hi.at fun o q => k it (by simp) o q⟩
  item := by
    rintro X rfl rfl rfl hc i pins s σ H E I hf ⟨⟨old, he⟩, hit⟩ ⟨xs, x, hq, hx⟩
    obtain ⟨its, rv, p, hz⟩ := I.tuple hq
    obtain ⟨u, hu, ru⟩ := rv.get hx
    have le := Heap.lt_size he
    have li : it < s.heap.objs.size := hit.elim fun _ q => Heap.lt_size q.1
    have hi := (List.getElem?_eq_some_iff.mp hu).1
    have D := Draws.tuple (prog := X.prog) (w := X.w) (A := X.A.in1) (I.ok.hd hc) it a hai its.toArray
    refine wpAny_pyNext_enum_itemD D he ⟨hit, p⟩ (by simpa using hi) hei (by simp [hei, Ne.symm hae]) fun x2 h' tk hp ho hst hT _ hk => ?_
    have ex : x2 = u := by
      have z : its.toArray[i]? = some x2 := hp
      rw [List.getElem?_toArray, hu] at z
      exact (Option.some.inj z).symm
    subst ex
    refine ⟨_, rfl, wpAny_letOwnedTupleGo_enum (s := { s with heap := h', toks := tk + 1 }) ho fun g he' sb => ?_⟩
    have T2 := (sb.2 _ (Nat.ne_of_gt le)).trans hT
    have ob : ObjOk X.prog X.w (L2.upd H s.heap.objs.size (.tup [.int (i : Nat), x])) g s.heap.objs.size (.tup [.int (i : Nat), x]) :=
      ⟨by show 2 ≤ sizeLine; decide, [.int i tk, x2], .cons ⟨_, rfl⟩ (.cons ru .nil), ⟨_, T2, rfl, _, rfl⟩⟩
    have I1 := I.turnedNew (t' := tk + 1) (h' := g) (ch := [e, it]) (fun b ob hb q => (sb.2 b (fun z => hb (by simp [z]))).trans (hk b ob (fun z => hb (by simp [z])) (fun z => hb (by simp [z])) q)) hf (Nat.le_refl _) ob
    have i1 : ((i + 1 : Nat) : Int) = (i : Int) + 1 := by omega
    refine ⟨.ref s.heap.objs.size, _, I1, rfl, ⟨_, x, rfl, I.hok.fresh (Nat.le_refl _), rfl, fun ys hy => by rw [I.tuple_inj hy hq]; exact hx⟩, ⟨⟨x2, i1 ▸ he'⟩, hst.1.at fun o q => (sb.2 it (Ne.symm hei)).trans q⟩, fun b hb => ?_⟩
    · have lb : b < s.heap.objs.size := by
        rcases (show b = e ∨ b = it by simpa using hb) with z | z <;> rw [z] <;> assumption
      rw [upd_ne (Nat.ne_of_lt lb)]
      exact (hf b hb).1
  done := by
    rintro X rfl rfl rfl hc i pins s σ H E I hf ⟨⟨old, he⟩, hit⟩ ⟨xs, hq, hx⟩
    obtain ⟨its, rv, p, hz⟩ := I.tuple hq
    obtain ⟨f0, f1, f2, f3, f4, f5⟩ := hf it (by simp)
    have hl := rv.length
    have D : Draws X.prog X.w X.A.in1 it [it, a] i (fun _ _ => True) (fun j h => j = i ∧ h.IsTupleIter it a i ∧ h.IsTuple a its.toArray) := {
      live := fun _ _ st => st.2.1.elim fun o z => ⟨o, z.1⟩
      frame := fun _ _ _ st hk => ⟨st.1, st.2.1.at fun o e => hk it (by simp) o e, st.2.2.at fun o e => hk a (by simp) o e⟩
      item := fun j s Q E hj st => absurd st.1 (Nat.ne_of_lt hj)
      done := fun s Q E st hE => wpAny_nextOf_tuple_end (I.ok.hd hc) st.2.1 st.2.2 (by simp; omega) hE }
    exact wpAny_pyNext_enum_endD D he ⟨rfl, hit, p⟩ fun h' eb => ⟨rfl, I.turned (t' := s.toks) (fun b o hb q => eb b o hb q) f0 f1 f3 f4 f5⟩
  self := fun A i s Q E ⟨⟨_, he⟩, _⟩ h => wpAny_pyIter_enum he h
def iEnT (K : PySem.W.Frag) (ta : TA) : TI := fun σ H R => ta σ H fun vs H1 => ∃ a xs, vs = [.ref a] ∧ SqT K H1 a xs ∧ R (IteT K a) H1
theorem pi_enT {X : Cx} {e : Expr} {ta : TA} {p pos tpos : Pos} {elts : List Expr} {kk : Nat} (hg : Gl X "enumerate") (hm : X.mg "enumerate" = none) (ha : PA X [e] ta) (hs : starEach [e] X.env = [(false, eval e X.env)] := by rfl) :
    PI X (.Tuple elts kk tpos) (.Call (.Name "enumerate" p) [e] [] pos) (iEnT X.K ta) := by
  refine ⟨fun pins s σ H R I h => Call_ (ld_blt I hg hm boot_enumerate (PyProof.Rows.callWith_type1 (thn (ha.run pos pins s σ H _ I h) ?_) hs rfl))⟩
  rintro us s1 ⟨vs, H1, I1, r1, a, xs, rfl, hq, q⟩
  obtain ⟨u, rfl, r⟩ := r1.one
  cases r
  obtain ⟨its, rv, pt, _⟩ := I1.tuple hq
  have la : a < s1.heap.objs.size := pt.lt
  refine enum_tup pt fun h' he hit hk => wpAny_pyIter_enum he ?_
  refine ⟨_, [s1.heap.objs.size + 1, s1.heap.objs.size], _, _, H1, rfl, I1.kept (t' := s1.toks) hk, turn_enumT a (s1.heap.objs.size + 1) s1.heap.objs.size (Nat.ne_of_lt la) (Nat.ne_of_lt (Nat.lt_succ_of_lt la)) (Nat.succ_ne_self _), ⟨⟨.none, he⟩, hit⟩, fun b hb => ?_, q⟩
  have hb2 : s1.heap.objs.size ≤ b := by
    rcases (show b = s1.heap.objs.size + 1 ∨ b = s1.heap.objs.size by simpa using hb) with z | z <;> rw [z] <;> simp
  exact I1.fpOk hb2 (I1.hok.fresh hb2)
end K27
/-! Rules that the hand layer lacks: Base.__init__(self) of an own error class; a local def called within a try. -/
namespace K27
open PySem PySem.Spec PyProof.Rows L2
section
variable {X : Cx}
/-- C0.__init__(self), C0 an own class that has its __init__ of ValueError -/
structure OwnInit (K : PySem.W.Frag) (C0 : Addr) : Prop where
  ga : PySem.W.specialIn K (.ref C0) "__getattribute__" = some (some (.builtin "type.__getattribute__"))
  rd : PySem.W.readsIn K C0 (.type "type") = true
  fi : PySem.W.findCls K (.ref C0) (.type "type") "__init__" = some (.val (.builtin "ValueError.__init__"))
theorem pe_ceinit {x : Str} {C0 : Addr} {e : Expr} {es : List Expr} {ta : TA} {p1 p2 pos : Pos} {pl : Sem Bool} (O : OwnInit X.K C0) (hg : Gl X x) (hm : X.mg x = some (.ref C0)) (ha : PA X (e :: es) ta)
    (hc : eval (.Call (.Attribute (.Name x p1) "__init__" p2) (e :: es) [] pos) X.env = (do
      let ov ← eval (.Name x p1) X.env
      standAt p2.atName
      let fx ← holding [ov] (getMethod ov "__init__" pl)
      callWith pos fx.1 fx.2 (backTo pos (starEach (e :: es) X.env)) (backToKw pos (keywordEach [] X.env))) := by rfl)
    (he : starEach (e :: es) X.env = (false, eval e X.env) :: starEach es X.env := by rfl) (hpl : (backTo pos (starEach es X.env)).any (·.1) = false := by rfl) (hdb : (x == ("__debug__" : Str)) = false := by decide) :
    PE X (.Call (.Attribute (.Name x p1) "__init__" p2) (e :: es) [] pos) (tVeI X.K ta) := by
  refine ⟨fun pins s σ H Q I h => ?_⟩
  refine PySem.W.methodCall_KW (ld_glob I hg hm ?_ hdb) hc
  refine PySem.W.method_cls I.kIn O.ga (PySem.W.cls_value I.kIn O.rd O.fi (by decide +kernel) ?_)
  show wpAny _ _ (callWith pos (Value.builtin "ValueError.__init__") [] (backTo pos (starEach (e :: es) X.env)) []) _ _ _
  refine PyProof.Rows.callWith_method1 (thn (ha.run pos pins _ σ H _ (I.tok _) h) ?_) he hpl
  rintro us s1 ⟨vs, H1, I1, r1, a, C, ws, rfl, hl, T, ea, q⟩
  cases r1 with
  | cons ra rr =>
    cases ra
    exact oinit_ok T I1 ea (by have := rr.length; rw [sizeLine_eq]; omega) fun s' J => ⟨.non, H1, J, rfl, q⟩
/-- the i-th slot holds the def at f; what is raised is wished at the slots -/
def tCallLS (i : Nat) (f : Addr) (sp : Sp) (E : L2.St → XK) (t : TA) : TE := fun σ H Q => σ[i]? = some (some (.ref f)) ∧ t σ H fun vs H1 => sp vs H1 Q (E σ)
theorem pe_callLS {CX : CXT} {k i : Nat} {f : Addr} {fd : FuncData} {ps : List Str} {sp : Sp} {E : L2.St → XK} {x : Str} {p pos : Pos} {e : Expr} {es : List Expr} {t : TA} (F : FnOk X.prog X.w X.K X.mg X.base CX k f fd ps sp) (hr : Room k X.A) (hN : X.N[i]? = some x) (hv : Vis X.env.scope x)
    (hk : PySem.W.keepIn X.K (.ref f) = true) (hb : Binds X.K fd ps []) (hx : ∀ σ, PassesAt CX X σ (E σ)) (ha : PA X (e :: es) t) (hdb : (x == ("__debug__" : Str)) = false := by decide) (hcd : (x == ("__classdict__" : Str)) = false := by decide)
    (he : starEach (e :: es) X.env = (false, eval e X.env) :: starEach es X.env := by rfl) (hpl : (backTo pos (starEach es X.env)).any (·.1) = false := by rfl) : PE X (.Call (.Name x p) (e :: es) [] pos) (tCallLS i f sp E t) := by
  refine ⟨fun pins s σ H Q I ⟨hs, ht⟩ => ?_⟩
  refine wpAny_Call_Name_kw (thn ((pe_var (pos := p) hN hv hdb hcd).run pins s σ H (fun v H1 => v = .ref f ∧ H1 = H) I ⟨.ref f, hs, rfl, rfl⟩) ?_)
  rintro u s1 ⟨v, H1, I1, r1, rfl, rfl⟩
  cases r1
  refine PySem.W.callWith_K (h₀ := X.base) I.ok.mod.kin hk (thn (ha.run pos pins s1 σ _ _ I1 ht) fun us s2 ⟨vs, H2, I2, r, q⟩ => ⟨I2.kIn, ?_⟩) he hpl
  have hl : us.length = ps.length := by rw [← r.length]; exact F.len _ _ _ _ q
  have hl0 : (us ++ []).length = ps.length := by rw [List.append_nil]; exact hl
  have hb0 := hb s2 us I2.kIn hl0
  rw [List.append_nil] at hb0
  refine wpAny_call (codeAny_mono (F.run X.A X.stack s2 H2 ⟨us, []⟩ us vs Q (E σ) hr I2.env0 hb0 r q) fun rr s' hq => ?_)
  cases rr with
  | error ex => exact hx σ pins H2 s2 ex s' I2 hq
  | ok fl =>
    cases fl with
    | ret u => exact I2.after hq
    | next => exact hq.elim
    | brk => exact hq.elim
    | cont => exact hq.elim
end
end K27
/-! What each def promises, by data. -/
namespace K27
open PySem PySem.Spec PyProof.Rows L2 KM
abbrev HistS := Hist PySem.Str
abbrev FldS := Fld PySem.Str
abbrev EvtS := Evt PySem.Str
/-- a fraction, 120 times as great -/
def fr (z : Int) : PyD := .t [.i (fn z), .i (fd z)]
def dInt (k : Nat) : PyD := .i (k : Int)
def dStr (x : PySem.Str) : PyD := .s x
def dHouse (h : House PySem.Str) : PyD := .t [.s h.name, fr h.slow, fr h.fast]
def dOpt (o : Option Int) : PyD := match o with
  | none => .n
  | some m => fr m
def dLnk (l : Lnk PySem.Str) : PyD := .t [.s l.src, .s l.dst, fr l.least, dOpt l.most]
def dDeed : Deed → PyD
  | .mark => .t [.s "mark"]
  | .send l => .t [.s "send", .i (l : Int)]
  | .hear k => .t [.s "hear", .i (k : Int)]
def dEvt (e : EvtS) : PyD := .t [.s e.house, fr e.stamp, dDeed e.deed]
def dFld (f : FldS) : PyD := .t [.t (f.homes.map dHouse), .t (f.links.map dLnk), .s f.source]
def dHist (h : HistS) : PyD := .t [dFld h.f, .t (h.ev.map dEvt)]
def dStep (s : KM.Step) : PyD := .t [.i (s.1 : Int), .i (s.2.1 : Int), fr s.2.2]
def dRing (ks : List Nat) : PyD := .t (ks.map dInt)
def dWorld (n : Nat) (t : Nat → Int) : PyD := .t ((List.range n).map fun k => fr (t k))
/-- a dict whose keys are numbers below n -/
structure DicI (K : PySem.W.Frag) (H : Hp) (a : Addr) (n : Nat) (f : Nat → Option PyD) (kvs : List (Key × V)) : Prop where
  at_ : H a = some (.dK kvs)
  nd : (kvs.map (·.1)).Nodup
  lt : ∀ p ∈ kvs, ∃ i, i < n ∧ p.1 = .inl (i : Int)
  no : ∀ k : Nat, f k = none → valV kvs (.inl (k : Int)) = none
  yes : ∀ (k : Nat) d, f k = some d → ∃ v, valV kvs (.inl (k : Int)) = some v ∧ Dt K H v d
/-- the sums, the steps by which they came -/
def sumsF (n : Nat) (d : Nat → Int) : Nat → Option PyD := fun v => if v < n then some (fr (d v)) else none
def cameF (p : Nat → Option Nat) : Nat → Option PyD := fun v => (p v).map dInt
def lastV (o : Option Nat) : V := match o with
  | none => .non
  | some v => .int (v : Int)
/-- a Relaxing at p, made behind H0 -/
structure RelAt (K : PySem.W.Frag) (H0 H : Hp) (p ts a1 a2 : Addr) (n : Nat) (st : Steps) (S : BF) : Prop where
  ex : Exh H0 H
  p0 : H0 p = none
  a10 : H0 a1 = none
  a20 : H0 a2 = none
  ins : ∃ dx fs, H p = some (.ins (He.ga K "Relaxing") dx fs) ∧ fs.length ≤ 10 ∧ fs.lookup ("all_steps" : PySem.Str) = some (.ref ts) ∧ fs.lookup ("sums" : PySem.Str) = some (.ref a1) ∧ fs.lookup ("came_by" : PySem.Str) = some (.ref a2) ∧ fs.lookup ("last" : PySem.Str) = some (lastV S.last) ∧
    fs.lookup ("go_round" : PySem.Str) = none ∧ fs.lookup ("ring_back" : PySem.Str) = none
  st : Dt K H (.ref ts) (.t (st.map dStep))
  sums : ∃ kvs, DicI K H a1 n (sumsF n S.d) kvs
  came : ∃ kvs, DicI K H a2 n (cameF S.p) kvs
  ne : a1 ≠ a2
def GhE (n : Nat) (st : Steps) (r j : Nat) (S : BF) : Prop := ∃ T U clk, Gh n st r j S T U clk
/-- a ring that is not long -/
def RingS (st : Steps) (ks : List Nat) : Prop := Ring st ks ∧ ks.length ≤ 1000
/-- a refusal by NoPaper; by NoWorld with a ring -/
def EP0 (K : PySem.W.Frag) (H : Hp) (E : XK) : Prop := ∀ d H', Exh H H' → E (.ref (He.ga K "NoPaper")) (some d) H'
def EW (K : PySem.W.Frag) (st : Steps) (H : Hp) (E : XK) : Prop := ∀ ks d H' fs v, RingS st ks → Exh H H' → H' d = some (.xd fs) → fs.lookup ("ring" : PySem.Str) = some v → Dt K H' v (dRing ks) → E (.ref (He.ga K "NoWorld")) (some d) H'
def RetL (K : PySem.W.Frag) (P : List PyD → Prop) (H : Hp) (Q : VK) : Prop := ∀ p H' vs ds, P ds → H p = none → Exh H H' → H' p = some (.lst vs) → Dts K H' vs ds → Q (.ref p) H'
section
variable (K : PySem.W.Frag)
def sp_is_number : Sp := fun vs H Q _ => ∃ z, Dts K H vs [.i z] ∧ RetD K (.b true) H Q
def sp_common_divisor : Sp := fun vs H Q _ => ∃ a b : Int, 0 ≤ a ∧ 0 ≤ b ∧ Dts K H vs [.i a, .i b] ∧ RetD K (.i (Nat.gcd a.toNat b.toNat : Nat)) H Q
def sp_is_fraction : Sp := fun vs H Q _ => ∃ z, Dts K H vs [fr z] ∧ RetD K (.b true) H Q
def sp_ratio : Sp := fun vs H Q _ => ∃ a b z : Int, 0 < b ∧ b < 1073741824 ∧ z * b = 120 * a ∧ Dts K H vs [.i a, .i b] ∧ RetD K (fr z) H Q
def sp_added : Sp := fun vs H Q _ => ∃ x y, Dts K H vs [fr x, fr y] ∧ RetD K (fr (x + y)) H Q
def sp_less : Sp := fun vs H Q _ => ∃ x y, Dts K H vs [fr x, fr y] ∧ RetD K (fr (x - y)) H Q
def sp_parted : Sp := fun vs H Q _ => ∃ x y z, 0 < y ∧ y ≤ 1000 ∧ z * y = 120 * x ∧ Dts K H vs [fr x, fr y] ∧ RetD K (fr z) H Q
def sp_is_below : Sp := fun vs H Q _ => ∃ x y, Dts K H vs [fr x, fr y] ∧ RetD K (.b (decide (x < y))) H Q
def RatesAt (H : Hp) (f : FldS) (kvs : List (Key × V)) : Prop := ∀ h ∈ f.homes, ∃ v, valV kvs (.inr h.name) = some v ∧ Dt K H v (.t [fr h.slow, fr h.fast])
def sp_rates_of : Sp := fun vs H Q _ => ∃ f, WFF f ∧ Dts K H vs [dFld f] ∧ ∀ p H' kvs, H p = none → Exh H H' → H' p = some (.dK kvs) → RatesAt K H' f kvs → Q (.ref p) H'
def optI (o : Option Nat) : PyD := match o with
  | none => .n
  | some x => .i (x : Int)
def sp_last_ahead : Sp := fun vs H Q _ => ∃ (ev : List EvtS) (y : Nat) (e : EvtS), ev[y]? = some e ∧ ev.length ≤ 1000 ∧ Dts K H vs [.t (ev.map dEvt), dInt y] ∧ RetD K (optI (lastA ev e.house y)) H Q
def dHeard (o : Option (Nat × Lnk PySem.Str)) : PyD := match o with
  | none => .n
  | some (_, lk) => dLnk lk
def sp_link_heard : Sp := fun vs H Q _ => ∃ (h : HistS) (y : Nat) (e : EvtS), WF h ∧ h.ev[y]? = some e ∧ Dts K H vs [dHist h, dInt y] ∧ RetD K (dHeard (heard h e)) H Q
def sp_while_between : Sp := fun vs H Q _ => ∃ (h : HistS) (x y : Nat) (u e : EvtS) (hs : House PySem.Str) (z1 z2 q r : Int), WF h ∧ h.ev[x]? = some u ∧ h.ev[y]? = some e ∧ hs ∈ h.f.homes ∧ hs.name = u.house ∧ WFH hs q r ∧ z1 * hs.fast = 120 * (e.stamp - u.stamp) ∧
  z2 * hs.slow = 120 * (e.stamp - u.stamp) ∧ Dts K H vs [dHist h, dInt x, dInt y] ∧ RetD K (.t [fr z1, fr z2]) H Q
def sp_steps_to : Sp := fun vs H Q _ => ∃ (h : HistS) (y : Nat), WF h ∧ y < h.ev.length ∧ Dts K H vs [dHist h, dInt y] ∧ RetL K (· = (stepsTo h y).map dStep) H Q
def sp_steps_list : Sp := fun vs H Q _ => ∃ h : HistS, WF h ∧ Dts K H vs [dHist h] ∧ RetL K (· = (steps h).map dStep) H Q
def sp_history_steps : Sp := fun vs H Q _ => ∃ h : HistS, WF h ∧ Dts K H vs [dHist h] ∧ RetD K (.t ((steps h).map dStep)) H Q
def sp_need_event : Sp := fun vs H Q _ => ∃ (h : HistS) (x : Nat), x < h.ev.length ∧ Dts K H vs [dHist h, dInt x] ∧ RetD K .n H Q
def S0 : BF := ⟨fun _ => 0, fun _ => none, none⟩
def sp_Relaxing_init : Sp := fun vs H Q _ => ∃ (H0 : Hp) (h : HistS) (p dx l : Addr) (d : V), WF h ∧ vs = [.ref p, d, .ref l] ∧ Dt K H d (dHist h) ∧ H l = some (.lst ((List.range h.ev.length).map fun i : Nat => V.int (i : Int))) ∧ Exh H0 H ∧ H0 p = none ∧ H p = some (.ins (He.ga K "Relaxing") dx []) ∧
  ∀ H' ts a1 a2, RelAt K H0 H' p ts a1 a2 h.ev.length (steps h) S0 → Q .non H'
def sp_Relaxing_go_round : Sp := fun vs H Q _ => ∃ (H0 : Hp) (p ts a1 a2 : Addr) (n : Nat) (st : Steps) (S : BF) (r : Nat), vs = [.ref p] ∧ n ≤ 1000 ∧ WS n st ∧ RelAt K H0 H p ts a1 a2 n st S ∧ 1 ≤ r ∧ GhE n st r 0 { S with last := none } ∧
  ∀ H' S', RelAt K H0 H' p ts a1 a2 n st S' → GhE n st r st.length S' → Q (.bl S'.last.isSome) H'
def sp_Relaxing_ring_back : Sp := fun vs H Q _ => ∃ (H0 : Hp) (p ts a1 a2 : Addr) (n : Nat) (st : Steps) (S : BF) (v : Nat), vs = [.ref p, .int ((n : Int) + 1)] ∧ n ≤ 1000 ∧ RelAt K H0 H p ts a1 a2 n st S ∧ S.last = some v ∧ GhE n st (n + 1) st.length S ∧ WS n st ∧
  Ret K (fun d => ∃ ks, d = dRing ks ∧ RingS st ks) H Q
def sp_relaxed : Sp := fun vs H Q _ => ∃ h : HistS, WF h ∧ Dts K H vs [dHist h] ∧
  (∀ v H' a1 t kvs, Fits (steps h) t → Exh H H' → Dt K H' v (.t [.r (.ref a1), .n]) → DicI K H' a1 h.ev.length (sumsF h.ev.length t) kvs → Q v H') ∧
  (∀ v H' a1 ks, RingS (steps h) ks → Exh H H' → Dt K H' v (.t [.r (.ref a1), dRing ks]) → Q v H')
def sp_ring_of : Sp := fun vs H Q _ => ∃ h : HistS, WF h ∧ Dts K H vs [dHist h] ∧ Ret K (fun d => (d = .n ∧ ∃ t, Fits (steps h) t) ∨ ∃ ks, d = dRing ks ∧ RingS (steps h) ks) H Q
def PWR (h : HistS) (d : PyD) : Prop := (∃ t, d = .t [.s "world", dWorld h.ev.length t] ∧ Fits (steps h) t) ∨ ∃ ks, d = .t [.s "ring", dRing ks] ∧ RingS (steps h) ks
def sp_world_or_ring : Sp := fun vs H Q _ => ∃ h : HistS, WF h ∧ Dts K H vs [dHist h] ∧ Ret K (PWR h) H Q
def sp_need_world : Sp := fun vs H Q E => ∃ h : HistS, WF h ∧ Dts K H vs [dHist h] ∧ Ret K (fun _ => ∃ t, Fits (steps h) t) H Q ∧ EW K (steps h) H E
def sp_as_row : Sp := fun vs H Q _ => ∃ (h : HistS) (a : Addr) (f : Nat → Option Int) (kvs : List (Key × V)), h.ev.length ≤ 1000 ∧ Dts K H vs [dHist h, .r (.ref a)] ∧ DicI K H a h.ev.length (fun k => (f k).map fr) kvs ∧ RetD K (.t ((List.range h.ev.length).map fun k => dOpt (f k))) H Q
def ByE (H : Hp) (a : Addr) (st : Steps) (kvs : List (Key × V)) : Prop := H a = some (.dK kvs) ∧ ∀ (x : Nat) v, valV kvs (.inl (x : Int)) = some v → ∃ (l : Addr) (ns : List Nat), v = .ref l ∧ H l = some (.lst (ns.map fun k : Nat => V.int (k : Int))) ∧ ∀ k ∈ ns, ∃ s, st[k]? = some s ∧ s.1 = x
def sp_steps_from : Sp := fun vs H Q _ => ∃ h : HistS, WF h ∧ Dts K H vs [dHist h] ∧ ∀ p H' kvs, H p = none → Exh H H' → ByE H' p (steps h) kvs → Q (.ref p) H'
def sp_going_on : Sp := fun vs H Q _ => ∃ (h : HistS) (x : Nat) (t : Nat → Int), WF h ∧ x < h.ev.length ∧ Fits (steps h) t ∧ Dts K H vs [dHist h, dInt x] ∧
  ∀ v H' a1 a2 (f : Nat → Option Int) kvs, Exh H H' → Dt K H' v (.t [.r (.ref a1), .r (.ref a2)]) → DicI K H' a1 h.ev.length (fun k => (f k).map fr) kvs → Q v H'
def sp_reach_clever : Sp := fun vs H Q E => ∃ (h : HistS) (x : Nat), WF h ∧ x < h.ev.length ∧ Dts K H vs [dHist h, dInt x] ∧ Ret K (fun d => (∃ t, Fits (steps h) t) ∧ ∃ ds, d = .t ds ∧ ds.length = h.ev.length) H Q ∧ EW K (steps h) H E
def sp_reach : Sp := fun vs H Q E => ∃ (h : HistS) (x y : Nat), WF h ∧ x < h.ev.length ∧ y < h.ev.length ∧ Dts K H vs [dHist h, dInt x, dInt y] ∧ Ret K (fun _ => ∃ t, Fits (steps h) t) H Q ∧ EW K (steps h) H E
def sp_need : Sp := fun vs H Q E => ∃ (b : Bool) (d e : PyD), Dts K H vs [.b b, d, e] ∧ (b = true → RetD K .n H Q) ∧ (b = false → EP0 K H E)
abbrev sp_needA : Sp := sp_need K
abbrev sp_needB : Sp := sp_need K
def sp_are_numbers : Sp := fun vs H Q _ => ∃ ks : List Nat, ks.length ≤ 1000 ∧ Dts K H vs [dRing ks] ∧ RetD K (.b true) H Q
def sp_steps_total : Sp := fun vs H Q _ => ∃ (st : Steps) (ks : List Nat), (∀ k ∈ ks, k < st.length) ∧ Dts K H vs [.t (st.map dStep), dRing ks] ∧ RetD K (fr (total st ks)) H Q
def sp_lets_ring : Sp := fun vs H Q E => ∃ (h : HistS) (ks : List Nat), WF h ∧ ks.length ≤ 1000 ∧ Dts K H vs [dHist h, dRing ks] ∧ Ret K (fun d => d = fr (total (steps h) ks) ∧ RingC (steps h) ks) H Q ∧ (¬ RingC (steps h) ks → EP0 K H E)
def sp_are_times : Sp := fun vs H Q _ => ∃ (n : Nat) (t : Nat → Int), n ≤ 1000 ∧ Dts K H vs [dWorld n t] ∧ RetD K (.b true) H Q
def sp_world_bars : Sp := fun vs H Q _ => ∃ (h : HistS) (t : Nat → Int), WF h ∧ Dts K H vs [dHist h, dWorld h.ev.length t] ∧ Ret K (fun d => (d = .n ∧ Fits (steps h) t) ∨ ∃ k : Nat, d = dInt k ∧ ¬ Fits (steps h) t) H Q
def sp_lets_world : Sp := fun vs H Q E => ∃ (h : HistS) (t : Nat → Int), WF h ∧ Dts K H vs [dHist h, dWorld h.ev.length t] ∧ (Fits (steps h) t → RetD K (dInt h.ev.length) H Q) ∧ (¬ Fits (steps h) t → EP0 K H E)
/-- the store of draws: a list at f of a list of ints at q and three numbers, the first the count of draws -/
def FeedAt (f q : Addr) (ns : List Int) (H : Hp) (c : Nat) : Prop := ∃ d k : Int, H f = some (.lst [.ref q, .int (c : Int), .int d, .int k]) ∧ H q = some (.lst (ns.map V.int)) ∧ 0 ≤ d ∧ 0 ≤ k ∧ ns.length ≤ 63
def MF (f q : Addr) (ns : List Int) : Md := ⟨(· = f), FeedAt f q ns, fun H H' c e ⟨d, k, h1, h2, h3⟩ => ⟨d, k, e _ _ h1, e _ _ h2, h3⟩, fun H c a e ⟨d, k, h1, _⟩ z => (by rw [e, h1] at z; cases z), fun H c H' c' p o ⟨_, _, a1, a2, _⟩ z ⟨d, k, h1, h2, h3⟩ => ⟨d, k, (by rw [upd_ne (ne_of_none a1 z)]; exact h1), (by rw [upd_ne (ne_of_none a2 z)]; exact h2), h3⟩⟩
def sp_law_feed : Sp := fun vs H Q _ => ∃ (a : Addr) (ns : List Int), vs = [.ref a] ∧ SqL K H a (ns.map V.int) ∧ ns.length ≤ 63 ∧ ∀ f q H', H f = none → H q = none → Exh H H' → FeedAt f q ns H' 0 → Q (.ref f) H'
/-- a def that draws: n draws at most -/
def spFeed (n : Nat) (args : PyD → List PyD → Prop) (P : List PyD → PyD → Prop) : Sp := fun vs H Q _ => ∃ (f q : Addr) (ns : List Int) (c : Nat) (ds : List PyD), args (.r (.ref f)) ds ∧ Dts K H vs ds ∧ FeedAt f q ns H c ∧ c + n ≤ CM ∧
  ∀ v d H' c', P ds d → Rf (· = f) H H' → FeedAt f q ns H' c' → c' ≤ c + n → Dt K H' v d → Q v H'
def sp_law_draw : Sp := spFeed K 1 (fun f ds => ∃ m : Int, 0 < m ∧ m ≤ 1000 ∧ ds = [f, .i m]) (fun ds d => ∃ f m k, ds = [f, .i m] ∧ d = .i k ∧ 0 ≤ k ∧ k < m)
def sp_law_frac : Sp := fun vs H Q _ => ∃ a b z : Int, 0 < b ∧ b < 1073741824 ∧ z * b = 120 * a ∧ Dts K H vs [.i a, .i b] ∧ RetD K (fr z) H Q
def okName (f : FldS) : Prop := ∀ h ∈ f.homes, PyData.strOk h.name = true
def sp_law_field : Sp := spFeed K 200 (fun f ds => ds = [f, .i 4]) (fun _ d => ∃ fl : FldS, d = dFld fl ∧ WFF fl ∧ fl.homes ≠ [] ∧ okName fl)
def sp_law_rates : Sp := fun vs H Q _ => ∃ (f : FldS) (hs : House PySem.Str) (q r : Int), WFF f ∧ hs ∈ f.homes ∧ WFH hs q r ∧ Dts K H vs [dFld f, .s hs.name] ∧ RetD K (.t [.i q, .i r]) H Q
def dSend (s : Nat × Nat × Int) : PyD := .t [.i (s.1 : Int), .i (s.2.1 : Int), .i s.2.2]
def sp_law_open : Sp := fun vs H Q _ => ∃ (f : FldS) (sends : List (Nat × Nat × Int)) (l : Addr) (us : List V) (nm : PySem.Str) (now : Int), (∀ s ∈ sends, s.2.1 < f.links.length) ∧ sends.length ≤ 100 ∧ H l = some (.lst us) ∧ Dts K H us (sends.map dSend) ∧ Dts K H vs [dFld f, .r (.ref l), .s nm, .i now] ∧
  RetL K (fun ds => ∃ ks : List Nat, ds = ks.map dInt ∧ ks.length ≤ sends.length ∧ ∀ k ∈ ks, OkDeed f sends now (.hear k)) H Q
def okHist (h : HistS) (n : Nat) : Prop := WF h ∧ h.ev.length = n ∧ okName h.f
def sp_law_drawn : Sp := spFeed K 400 (fun f ds => ∃ n : Nat, 2 ≤ n ∧ n ≤ 14 ∧ ds = [f, .i 4, dInt n]) (fun ds d => ∃ (f : PyD) (n : Nat) (h : HistS) (t : Nat → Int), ds = [f, .i 4, dInt n] ∧ d = .t [dHist h, dWorld n t] ∧ okHist h n ∧ Fits (steps h) t)
def sp_law_barred : Sp := spFeed K 10 (fun f ds => ∃ h n, okHist h n ∧ ds = [f, dHist h]) (fun ds d => ∀ f h n, okHist h n → ds = [f, dHist h] → ∃ h', d = dHist h' ∧ okHist h' n)
def sp_law_letR : Sp := fun vs H Q _ => ∃ (h : HistS) (ks : List Nat), WF h ∧ ks.length ≤ 1000 ∧ Dts K H vs [.r (.ref (He.ga K "lets_ring")), dHist h, dRing ks] ∧ Ret K (fun d => (RingC (steps h) ks ∧ d = fr (total (steps h) ks)) ∨ (¬ RingC (steps h) ks ∧ d = .n)) H Q
def sp_law_letW : Sp := fun vs H Q _ => ∃ (h : HistS) (t : Nat → Int), WF h ∧ Dts K H vs [.r (.ref (He.ga K "lets_world")), dHist h, dWorld h.ev.length t] ∧ Ret K (fun d => (Fits (steps h) t ∧ d = dInt h.ev.length) ∨ (¬ Fits (steps h) t ∧ d = .n)) H Q
def sp_law_barring : Sp := fun vs H Q _ => ∃ h : HistS, WF h ∧ 2 ≤ h.ev.length ∧ Dts K H vs [dHist h] ∧ Ret K (fun d => (d = .n ∧ ∃ t, Fits (steps h) t) ∨ ∃ ks, d = dRing ks ∧ RingS (steps h) ks) H Q
def sp_law_right : Sp := fun vs H Q _ => ∃ (h : HistS) (t : Nat → Int), WF h ∧ 2 ≤ h.ev.length ∧ Dts K H vs [dHist h, dWorld h.ev.length t] ∧ RetD K (.b true) H Q
def sp_law : Sp := fun vs H Q _ => ∃ (a : Addr) (ns : List Int), vs = [.ref a] ∧ SqL K H a (ns.map V.int) ∧ ns.length ≤ 63 ∧ ∀ H', Q (.bl true) H'
end
/-- the errors' own __init__ -/
def sp_NoPaper_init (K : PySem.W.Frag) : Sp := fun vs H Q _ => ∃ (a : Addr) (x y : V), vs = [.ref a, x, y] ∧ H a = some (exo a (He.ga K "NoPaper") none) ∧
  ∀ d, H d = none → d ≠ a → Q .non (L2.upd (L2.upd (L2.upd H d (exd d [(("word" : PySem.Str), x)])) a (exo a (He.ga K "NoPaper") (some d))) d (exd d [(("at" : PySem.Str), y), (("word" : PySem.Str), x)]))
def sp_NoWorld_init (K : PySem.W.Frag) : Sp := fun vs H Q _ => ∃ (a : Addr) (x : V), vs = [.ref a, x] ∧ H a = some (exo a (He.ga K "NoWorld") none) ∧
  ∀ d, H d = none → d ≠ a → Q .non (L2.upd (L2.upd H d (exd d [(("ring" : PySem.Str), x)])) a (exo a (He.ga K "NoWorld") (some d)))
/-- what the written part holds -/
structure Kx (K : PySem.W.Frag) : Prop where
  nought : ∀ H, SqT K H (He.ga K "NOUGHT") [.int 0, .int 1]
  cl : Cls K (He.ga K "Relaxing")
  nA : NoAttr K (He.ga K "Relaxing") "all_steps"
  nS : NoAttr K (He.ga K "Relaxing") "sums"
  nC : NoAttr K (He.ga K "Relaxing") "came_by"
  nL : NoAttr K (He.ga K "Relaxing") "last"
  oP : OexC K (He.ga K "NoPaper")
  oW : OexC K (He.ga K "NoWorld")
  fW : XfC K (He.ga K "NoWorld")
  pW : PySem.W.findIn K (.ref (He.ga K "NoPaper")) "word" = some none
  pA : PySem.W.findIn K (.ref (He.ga K "NoPaper")) "at" = some none
  wR : PySem.W.findIn K (.ref (He.ga K "NoWorld")) "ring" = some none
  eP : PySem.W.exmOne K (.ref (He.ga K "NoPaper")) (.ref (He.ga K "NoPaper")) = some true
  eW : PySem.W.exmOne K (.ref (He.ga K "NoWorld")) (.ref (He.ga K "NoWorld")) = some true
/-! ### words of readings -/
abbrev oAdd : R2 := rI0 fun i j => .int (i + j)
abbrev oSub : R2 := rI0 fun i j => .int (i - j)
abbrev oMul : R2 := rI CMul fun i j => .int (i * j)
abbrev oDiv : R2 := rI CDiv fun i j => .int (i / j)
abbrev oMod : R2 := rI (fun _ j => 0 < j) fun i j => .int (i % j)
abbrev oPow : R2 := rI CPow fun i j => .int (i ^ j.toNat)
abbrev oLt : R2 := rI0 fun i j => .bl (decide (i < j))
abbrev oLe : R2 := rI0 fun i j => .bl (decide (i ≤ j))
abbrev oGt : R2 := rI0 fun i j => .bl (decide (j < i))
abbrev oGe : R2 := rI0 fun i j => .bl (decide (j ≤ i))
abbrev oIsN : R2 := fun x y H Q => y = .non ∧ Q (.bl (decide (x = .non))) H
abbrev oNotN : R2 := fun x y H Q => y = .non ∧ Q (.bl (!decide (x = .non))) H
abbrev bAbs : List V → Hp → VK → Prop := fun xs H Q => ∃ i, xs = [.int i] ∧ Q (.int (if i < 0 then -i else i)) H
abbrev bMax : List V → Hp → VK → Prop := fun xs H Q => ∃ i j, xs = [.int i, .int j] ∧ Q (.int (if j > i then j else i)) H
abbrev bLen (K : PySem.W.Frag) : List V → Hp → VK → Prop := fun xs H Q => ∃ p ys, xs = [.ref p] ∧ (SqL K H p ys ∨ SqT K H p ys) ∧ Q (.int ys.length) H
abbrev bInt : List V → Hp → VK → Prop := fun xs H Q => (∃ i, xs = [.int i] ∧ Q (.int i) H) ∨ ∃ k, xs = [.bl k] ∧ Q (.int (if k then 1 else 0)) H
abbrev bList (K : PySem.W.Frag) : List V → Hp → VK → Prop := fun xs H Q => ∃ p ys, xs = [.ref p] ∧ (SqL K H p ys ∨ SqT K H p ys) ∧ ∀ l, H l = none → Q (.ref l) (L2.upd H l (.lst ys))
abbrev bTuple (K : PySem.W.Frag) : List V → Hp → VK → Prop := fun xs H Q => ∃ p ys, xs = [.ref p] ∧ ((SqL K H p ys ∧ ∀ l, H l = none → Q (.ref l) (L2.upd H l (.tup ys))) ∨ (SqT K H p ys ∧ Q (.ref p) H))
end K27
/-! The readings of the defs' bodies (printed by gen.py). -/
namespace K27
open PySem PySem.Spec PyProof.Rows L2 KM
def N_NoPaper_init : List PySem.Str := ["self", "word", "at"]
def t_NoPaper_init (K : PySem.W.Frag) : TS := (tSeq (tDrop (tVeI K (tCons (tVar 0) tNil))) (tSeq (tOst K "word" (tVar 0) (tVar 1)) (tOst K "at" (tVar 0) (tVar 2))))
def N_NoWorld_init : List PySem.Str := ["self", "ring"]
def t_NoWorld_init (K : PySem.W.Frag) : TS := (tSeq (tDrop (tVeI K (tCons (tVar 0) tNil))) (tOst K "ring" (tVar 0) (tVar 1)))
def N_is_number : List PySem.Str := ["thing"]
def t_is_number (K : PySem.W.Frag) : TS := (tRet (tAndV (tCB (rIsi K) (tCons (tVar 0) (tCons (tC (.ty "int")) tNil))) (tNotV (tCB (rIsi K) (tCons (tVar 0) (tCons (tC (.ty "bool")) tNil))))))
def N_common_divisor : List PySem.Str := ["one", "other"]
def t_common_divisor (K : PySem.W.Frag) : TS := (tSeq (tWhile (tTest (tOp rNe (tVar 1) (tC (.int 0)))) (tPar 0 1 (tCons (tVar 1) (tCons (tOp oMod (tVar 0) (tVar 1)) tNil)))) (tRet (tVar 0)))
def N_is_fraction : List PySem.Str := ["thing", "one"]
def t_is_fraction (K : PySem.W.Frag) : TS := (tSeq (tIfS (tOr (tNot (tB (tCB (rIsi K) (tCons (tVar 0) (tCons (tC (.ty "tuple")) tNil))))) (tOr (tTest (tOp rNe (tCB (bLen K) (tCons (tVar 0) tNil)) (tC (.int 2)))) (tNot (tB (tCB (rAll K) (tCons (tLc (iTup K (tVar 0)) (gName 1) tYes (tCall (sp_is_number K) [] E0 (tCons (tVar 1) tNil)) [1]) tNil)))))) (tRet (tC (.bl false))) tNext) (tRet (tAndV (tOp oGt (tOp (rIxT K) (tVar 0) (tC (.int 1))) (tC (.int 0))) (tOp rEq (tCall (sp_common_divisor K) [] E0 (tCons (tCB bAbs (tCons (tOp (rIxT K) (tVar 0) (tC (.int 0))) tNil)) (tCons (tOp (rIxT K) (tVar 0) (tC (.int 1))) tNil))) (tC (.int 1))))))
def N_ratio : List PySem.Str := ["a", "b", "divisor"]
def t_ratio (K : PySem.W.Frag) : TS := (tSeq (tAsg (tCall (sp_common_divisor K) [] E0 (tCons (tCB bAbs (tCons (tVar 0) tNil)) (tCons (tCB bAbs (tCons (tVar 1) tNil)) tNil))) (gName 2)) (tSeq (tIfS (tTest (tOp oLt (tVar 1) (tC (.int 0)))) (tAsg (tOp oSub (tC (.int 0)) (tVar 2)) (gName 2)) tNext) (tRet (tTup (tCons (tOp oDiv (tVar 0) (tVar 2)) (tCons (tOp oDiv (tVar 1) (tVar 2)) tNil))))))
def N_added : List PySem.Str := ["one", "other"]
def t_added (K : PySem.W.Frag) : TS := (tRet (tCall (sp_ratio K) [] E0 (tCons (tOp oAdd (tOp oMul (tOp (rIxT K) (tVar 0) (tC (.int 0))) (tOp (rIxT K) (tVar 1) (tC (.int 1)))) (tOp oMul (tOp (rIxT K) (tVar 1) (tC (.int 0))) (tOp (rIxT K) (tVar 0) (tC (.int 1))))) (tCons (tOp oMul (tOp (rIxT K) (tVar 0) (tC (.int 1))) (tOp (rIxT K) (tVar 1) (tC (.int 1)))) tNil))))
def N_less : List PySem.Str := ["one", "other"]
def t_less (K : PySem.W.Frag) : TS := (tRet (tCall (sp_ratio K) [] E0 (tCons (tOp oSub (tOp oMul (tOp (rIxT K) (tVar 0) (tC (.int 0))) (tOp (rIxT K) (tVar 1) (tC (.int 1)))) (tOp oMul (tOp (rIxT K) (tVar 1) (tC (.int 0))) (tOp (rIxT K) (tVar 0) (tC (.int 1))))) (tCons (tOp oMul (tOp (rIxT K) (tVar 0) (tC (.int 1))) (tOp (rIxT K) (tVar 1) (tC (.int 1)))) tNil))))
def N_parted : List PySem.Str := ["one", "other"]
def t_parted (K : PySem.W.Frag) : TS := (tRet (tCall (sp_ratio K) [] E0 (tCons (tOp oMul (tOp (rIxT K) (tVar 0) (tC (.int 0))) (tOp (rIxT K) (tVar 1) (tC (.int 1)))) (tCons (tOp oMul (tOp (rIxT K) (tVar 0) (tC (.int 1))) (tOp (rIxT K) (tVar 1) (tC (.int 0)))) tNil))))
def N_is_below : List PySem.Str := ["one", "other"]
def t_is_below (K : PySem.W.Frag) : TS := (tRet (tOp oLt (tOp oMul (tOp (rIxT K) (tVar 0) (tC (.int 0))) (tOp (rIxT K) (tVar 1) (tC (.int 1)))) (tOp oMul (tOp (rIxT K) (tVar 1) (tC (.int 0))) (tOp (rIxT K) (tVar 0) (tC (.int 1))))))
def N_rates_of : List PySem.Str := ["field", "name", "slow", "fast"]
def t_rates_of (K : PySem.W.Frag) : TS := (tRet (tDc (iTup K (tOp (rIxT K) (tVar 0) (tC (.int 0)))) (gTup K 3 (gNames [1, 2, 3])) tYes (tVar 1) (tTup (tCons (tVar 2) (tCons (tVar 3) tNil))) [1, 2, 3]))
def N_last_ahead : List PySem.Str := ["events", "number", "elder"]
def t_last_ahead (K : PySem.W.Frag) : TS := (tSeq (tFor (iRng3 (tCons (tOp oSub (tVar 1) (tC (.int 1))) (tCons (tUn (rU fun i => .int (-i)) (tC (.int 1))) (tCons (tUn (rU fun i => .int (-i)) (tC (.int 1))) tNil)))) (gName 2) (tIfS (tTest (tOp rEq (tOp (rIxT K) (tOp (rIxT K) (tVar 0) (tVar 2)) (tC (.int 0))) (tOp (rIxT K) (tOp (rIxT K) (tVar 0) (tVar 1)) (tC (.int 0))))) (tRet (tVar 2)) tNext)) (tRet (tC .non)))
def N_link_heard : List PySem.Str := ["history", "number", "field", "events", "deed"]
def t_link_heard (K : PySem.W.Frag) : TS := (tSeq (tAsg (tVar 0) (gTup K 2 (gNames [2, 3]))) (tSeq (tAsg (tOp (rIxT K) (tOp (rIxT K) (tVar 3) (tVar 1)) (tC (.int 2))) (gName 4)) (tRet (tIf (tTest (tOp rEq (tOp (rIxT K) (tVar 4) (tC (.int 0))) (tC (.str "hear")))) (tOp (rIxT K) (tOp (rIxT K) (tVar 2) (tC (.int 1))) (tOp (rIxT K) (tOp (rIxT K) (tOp (rIxT K) (tVar 3) (tOp (rIxT K) (tVar 4) (tC (.int 1)))) (tC (.int 2))) (tC (.int 1)))) (tC .non)))))
def N_while_between : List PySem.Str := ["history", "x", "y", "field", "events", "slow", "fast", "stamps"]
def t_while_between (K : PySem.W.Frag) : TS := (tSeq (tAsg (tVar 0) (gTup K 2 (gNames [3, 4]))) (tSeq (tAsg (tDGet (tCall (sp_rates_of K) [] E0 (tCons (tVar 3) tNil)) (tOp (rIxT K) (tOp (rIxT K) (tVar 4) (tVar 1)) (tC (.int 0)))) (gTup K 2 (gNames [5, 6]))) (tSeq (tAsg (tCall (sp_less K) [] E0 (tCons (tOp (rIxT K) (tOp (rIxT K) (tVar 4) (tVar 2)) (tC (.int 1))) (tCons (tOp (rIxT K) (tOp (rIxT K) (tVar 4) (tVar 1)) (tC (.int 1))) tNil))) (gName 7)) (tRet (tTup (tCons (tCall (sp_parted K) [] E0 (tCons (tVar 7) (tCons (tVar 6) tNil))) (tCons (tCall (sp_parted K) [] E0 (tCons (tVar 7) (tCons (tVar 5) tNil))) tNil)))))))
def N_steps_to : List PySem.Str := ["history", "y", "x", "found", "low", "high", "link", "sender", "hearer", "least", "most", "send"]
def t_steps_to (K : PySem.W.Frag) : TS := (tSeq (tAsg (tCall (sp_last_ahead K) [] E0 (tCons (tOp (rIxT K) (tVar 0) (tC (.int 1))) (tCons (tVar 1) tNil))) (gName 2)) (tSeq (tAsg (tLst tNil) (gName 3)) (tSeq (tIfS (tTest (tOp oNotN (tVar 2) (tC .non))) (tSeq (tAsg (tCall (sp_while_between K) [] E0 (tCons (tVar 0) (tCons (tVar 2) (tCons (tVar 1) tNil)))) (gTup K 2 (gNames [4, 5]))) (tDrop (tBM K "list" rExtend (tVar 3) (tCons (tLst (tCons (tTup (tCons (tVar 2) (tCons (tVar 1) (tCons (tVar 5) tNil)))) (tCons (tTup (tCons (tVar 1) (tCons (tVar 2) (tCons (tCall (sp_less K) [] E0 (tCons (tC (.ref (He.ga K "NOUGHT"))) (tCons (tVar 4) tNil))) tNil)))) tNil))) tNil)))) tNext) (tSeq (tAsg (tCall (sp_link_heard K) [] E0 (tCons (tVar 0) (tCons (tVar 1) tNil))) (gName 6)) (tSeq (tIfS (tTest (tOp oNotN (tVar 6) (tC .non))) (tSeq (tAsg (tVar 6) (gTup K 4 (gNames [7, 8, 9, 10]))) (tSeq (tAsg (tOp (rIxT K) (tOp (rIxT K) (tOp (rIxT K) (tOp (rIxT K) (tVar 0) (tC (.int 1))) (tVar 1)) (tC (.int 2))) (tC (.int 1))) (gName 11)) (tSeq (tIfS (tTest (tOp oNotN (tVar 10) (tC .non))) (tDrop (tBM K "list" rAppend (tVar 3) (tCons (tTup (tCons (tVar 11) (tCons (tVar 1) (tCons (tVar 10) tNil)))) tNil))) tNext) (tDrop (tBM K "list" rAppend (tVar 3) (tCons (tTup (tCons (tVar 1) (tCons (tVar 11) (tCons (tCall (sp_less K) [] E0 (tCons (tC (.ref (He.ga K "NOUGHT"))) (tCons (tVar 9) tNil))) tNil)))) tNil)))))) tNext) (tRet (tVar 3)))))))
def N_steps_list : List PySem.Str := ["history", "y", "step"]
def t_steps_list (K : PySem.W.Frag) : TS := (tRet (tLc2 (iRng1 (tCons (tCB (bLen K) (tCons (tOp (rIxT K) (tVar 0) (tC (.int 1))) tNil)) tNil)) (gName 1) tYes (iList K (tCall (sp_steps_to K) [] E0 (tCons (tVar 0) (tCons (tVar 1) tNil)))) (gName 2) tYes (tVar 2) [1, 2] [2]))
def N_history_steps : List PySem.Str := ["history"]
def t_history_steps (K : PySem.W.Frag) : TS := (tRet (tCB (bTuple K) (tCons (tCall (sp_steps_list K) [] E0 (tCons (tVar 0) tNil)) tNil)))
def N_need_event : List PySem.Str := ["history", "number"]
def t_need_event (K : PySem.W.Frag) : TS := (tIfS (tNot (tTest (tChain oLe oLt (tC (.int 0)) (tVar 1) (tCB (bLen K) (tCons (tOp (rIxT K) (tVar 0) (tC (.int 1))) tNil))))) tNever tNext)
def N_Relaxing_init : List PySem.Str := ["self", "history", "starts", "event"]
def t_Relaxing_init (K : PySem.W.Frag) : TS := (tSeq (sFld K (tVar 0) (tCall (sp_history_steps K) [] E0 (tCons (tVar 1) tNil)) "all_steps") (tSeq (sFld K (tVar 0) (tDc (iList K (tVar 2)) (gName 3) tYes (tVar 3) (tC (.ref (He.ga K "NOUGHT"))) [3]) "sums") (tSeq (sFld K (tVar 0) tDNewK "came_by") (sFld K (tVar 0) (tC .non) "last"))))
def N_Relaxing_go_round : List PySem.Str := ["self", "k", "x", "y", "w", "found"]
def t_Relaxing_go_round (K : PySem.W.Frag) : TS := (tSeq (sFld K (tVar 0) (tC .non) "last") (tSeq (tFor (iEnT K (tCons (tFld K (tVar 0) "all_steps") tNil)) (gTup K 2 (gCons (gName 1) (gCons (gTup K 3 (gNames [2, 3, 4])) gNil))) (tIfS (tB (tDIn (tVar 2) (tFld K (tVar 0) "sums"))) (tSeq (tAsg (tCall (sp_added K) [] E0 (tCons (tDGet (tFld K (tVar 0) "sums") (tVar 2)) (tCons (tVar 4) tNil))) (gName 5)) (tIfS (tOr (tB (tDNotIn (tVar 3) (tFld K (tVar 0) "sums"))) (tB (tCall (sp_is_below K) [] E0 (tCons (tVar 5) (tCons (tDGet (tFld K (tVar 0) "sums") (tVar 3)) tNil))))) (tSeq (sDPut (tFld K (tVar 0) "sums") (tVar 3) (tVar 5)) (tSeq (sDPut (tFld K (tVar 0) "came_by") (tVar 3) (tVar 1)) (sFld K (tVar 0) (tVar 3) "last"))) tNext)) tNext)) (tRet (tOp oNotN (tFld K (tVar 0) "last") (tC .non)))))
def N_Relaxing_ring_back : List PySem.Str := ["self", "many", "here", "turn", "found"]
def t_Relaxing_ring_back (K : PySem.W.Frag) : TS := (tSeq (tAsg (tFld K (tVar 0) "last") (gName 2)) (tSeq (tFor (iRng1 (tCons (tVar 1) tNil)) (gName 3) (tAsg (tOp (rIxT K) (tOp (rIxT K) (tFld K (tVar 0) "all_steps") (tDGet (tFld K (tVar 0) "came_by") (tVar 2))) (tC (.int 0))) (gName 2))) (tSeq (tAsg (tLst (tCons (tDGet (tFld K (tVar 0) "came_by") (tVar 2)) tNil)) (gName 4)) (tSeq (tWhile (tTest (tOp rNe (tOp (rIxT K) (tOp (rIxT K) (tFld K (tVar 0) "all_steps") (tOp (rIxL K) (tVar 4) (tUn (rU fun i => .int (-i)) (tC (.int 1))))) (tC (.int 0))) (tVar 2))) (tDrop (tBM K "list" rAppend (tVar 4) (tCons (tDGet (tFld K (tVar 0) "came_by") (tOp (rIxT K) (tOp (rIxT K) (tFld K (tVar 0) "all_steps") (tOp (rIxL K) (tVar 4) (tUn (rU fun i => .int (-i)) (tC (.int 1))))) (tC (.int 0)))) tNil)))) (tRet (tCB (bTuple K) (tCons (tRevL K (tVar 4)) tNil)))))))
def N_relaxed : List PySem.Str := ["history", "many", "rounds", "turn"]
def t_relaxed (K : PySem.W.Frag) : TS := (tSeq (tAsg (tCB (bLen K) (tCons (tOp (rIxT K) (tVar 0) (tC (.int 1))) tNil)) (gName 1)) (tSeq (tAsg (tMake (He.ga K "Relaxing") (sp_Relaxing_init K) [] E0 (tCons (tVar 0) (tCons (tLstRg (tRg1 (tVar 1))) tNil))) (gName 2)) (tSeq (tFor (iRng1 (tCons (tOp oAdd (tVar 1) (tC (.int 1))) tNil)) (gName 3) (tIfS (tNot (tB (tMeth (He.ga K "Relaxing") "go_round" (sp_Relaxing_go_round K) [] E0 (tVar 2) tNil))) (tRet (tTup (tCons (tFld K (tVar 2) "sums") (tCons (tC .non) tNil)))) tNext)) (tRet (tTup (tCons (tFld K (tVar 2) "sums") (tCons (tMeth (He.ga K "Relaxing") "ring_back" (sp_Relaxing_ring_back K) [] E0 (tVar 2) (tCons (tOp oAdd (tVar 1) (tC (.int 1))) tNil)) tNil)))))))
def N_ring_of : List PySem.Str := ["history"]
def t_ring_of (K : PySem.W.Frag) : TS := (tRet (tOp (rIxT K) (tCall (sp_relaxed K) [] E0 (tCons (tVar 0) tNil)) (tC (.int 1))))
def N_world_or_ring : List PySem.Str := ["history", "sums", "ring", "event"]
def t_world_or_ring (K : PySem.W.Frag) : TS := (tSeq (tAsg (tCall (sp_relaxed K) [] E0 (tCons (tVar 0) tNil)) (gTup K 2 (gNames [1, 2]))) (tSeq (tIfS (tTest (tOp oNotN (tVar 2) (tC .non))) (tRet (tTup (tCons (tC (.str "ring")) (tCons (tVar 2) tNil)))) tNext) (tRet (tTup (tCons (tC (.str "world")) (tCons (tCB (bTuple K) (tCons (tLc (iRng1 (tCons (tCB (bLen K) (tCons (tOp (rIxT K) (tVar 0) (tC (.int 1))) tNil)) tNil)) (gName 3) tYes (tDGet (tVar 1) (tVar 3)) [3]) tNil)) tNil))))))
def N_need_world : List PySem.Str := ["history", "word", "thing"]
def t_need_world (K : PySem.W.Frag) (E : XK) : TS := (tSeq (tAsg (tCall (sp_world_or_ring K) [] E0 (tCons (tVar 0) tNil)) (gTup K 2 (gNames [1, 2]))) (tSeq (tIfS (tTest (tOp rEq (tVar 1) (tC (.str "ring")))) (fun _ σ H => tMkO (He.ga K "NoWorld") (sp_NoWorld_init K) [] (tCons (tVar 2) tNil) σ H fun cls d H' => E cls d H') tNext) (tRet (tVar 2))))
def N_as_row : List PySem.Str := ["history", "sums", "event"]
def t_as_row (K : PySem.W.Frag) : TS := (tRet (tCB (bTuple K) (tCons (tLc (iRng1 (tCons (tCB (bLen K) (tCons (tOp (rIxT K) (tVar 0) (tC (.int 1))) tNil)) tNil)) (gName 2) tYes (tDGet2 (tVar 1) (tVar 2) (tC .non)) [2]) tNil)))
def N_steps_from : List PySem.Str := ["history", "found", "k", "x", "y", "w"]
def t_steps_from (K : PySem.W.Frag) : TS := (tSeq (tAsg tDNewK (gName 1)) (tSeq (tFor (iEnT K (tCons (tCall (sp_history_steps K) [] E0 (tCons (tVar 0) tNil)) tNil)) (gTup K 2 (gCons (gName 2) (gCons (gTup K 3 (gNames [3, 4, 5])) gNil))) (tDrop (tBM K "list" rAppend (tDSetd (tVar 1) (tVar 3) (tLst tNil)) (tCons (tVar 2) tNil)))) (tRet (tVar 1))))
def N_going_on : List PySem.Str := ["history", "x", "rows", "by_event", "sums", "came_by", "waiting", "here", "k", "y", "found"]
def t_going_on (K : PySem.W.Frag) : TS := (tSeq (tPar 2 3 (tCons (tCall (sp_history_steps K) [] E0 (tCons (tVar 0) tNil)) (tCons (tCall (sp_steps_from K) [] E0 (tCons (tVar 0) tNil)) tNil))) (tSeq (tPar 4 5 (tCons (tDisp [((tVar 1), (tC (.ref (He.ga K "NOUGHT"))))]) (tCons tDNewK tNil))) (tSeq (tAsg (tLst (tCons (tVar 1) tNil)) (gName 6)) (tSeq (tWhile (tTest (tOp (rNeD K) (tVar 6) (tLst tNil))) (tSeq (tAsg (tVar 6) (gStar K 7 6)) (tFor (iList K (tDGet2 (tVar 3) (tVar 7) (tLst tNil))) (gName 8) (tSeq (tAsg (tOp (rIxT K) (tOp (rIxT K) (tVar 2) (tVar 8)) (tC (.int 1))) (gName 9)) (tSeq (tAsg (tCall (sp_added K) [] E0 (tCons (tDGet (tVar 4) (tVar 7)) (tCons (tOp (rIxT K) (tOp (rIxT K) (tVar 2) (tVar 8)) (tC (.int 2))) tNil))) (gName 10)) (tIfS (tOr (tB (tDNotIn (tVar 9) (tVar 4))) (tB (tCall (sp_is_below K) [] E0 (tCons (tVar 10) (tCons (tDGet (tVar 4) (tVar 9)) tNil))))) (tSeq (sDPut (tVar 4) (tVar 9) (tVar 10)) (tSeq (sDPut (tVar 5) (tVar 9) (tVar 8)) (tIfS (tTest (tOp (rIn K true) (tVar 9) (tVar 6))) (tDrop (tBM K "list" rAppend (tVar 6) (tCons (tVar 9) tNil))) tNext))) tNext)))))) (tRet (tTup (tCons (tVar 4) (tCons (tVar 5) tNil))))))))
def N_reach_clever : List PySem.Str := ["history", "x"]
def t_reach_clever (K : PySem.W.Frag) (E : XK) : TS := (tSeq (tDrop (tCall (sp_need_event K) [] E0 (tCons (tVar 0) (tCons (tVar 1) tNil)))) (tSeq (tDrop (tCall (sp_need_world K) [] E (tCons (tVar 0) tNil))) (tRet (tCall (sp_as_row K) [] E0 (tCons (tVar 0) (tCons (tOp (rIxT K) (tCall (sp_going_on K) [] E0 (tCons (tVar 0) (tCons (tVar 1) tNil))) (tC (.int 0))) tNil))))))
def N_reach : List PySem.Str := ["history", "x", "y"]
def t_reach (K : PySem.W.Frag) (E : XK) : TS := (tSeq (tDrop (tCall (sp_need_event K) [] E0 (tCons (tVar 0) (tCons (tVar 1) tNil)))) (tSeq (tDrop (tCall (sp_need_event K) [] E0 (tCons (tVar 0) (tCons (tVar 2) tNil)))) (tRet (tOp (rIxT K) (tCall (sp_reach_clever K) [] E (tCons (tVar 0) (tCons (tVar 1) tNil))) (tVar 2)))))
def N_needA : List PySem.Str := ["truth", "word", "at"]
def t_needA (K : PySem.W.Frag) (E : XK) : TS := (tIfS (tNot (tB (tVar 0))) (fun _ σ H => tMkO (He.ga K "NoPaper") (sp_NoPaper_init K) [] (tCons (tVar 1) (tCons (tVar 2) tNil)) σ H fun cls d H' => E cls d H') tNext)
def N_are_numbers : List PySem.Str := ["thing", "one"]
def t_are_numbers (K : PySem.W.Frag) : TS := (tRet (tAndV (tCB (rIsi K) (tCons (tVar 0) (tCons (tC (.ty "tuple")) tNil))) (tCB (rAll K) (tCons (tLc (iTup K (tVar 0)) (gName 1) tYes (tCall (sp_is_number K) [] E0 (tCons (tVar 1) tNil)) [1]) tNil))))
def N_steps_total : List PySem.Str := ["rows", "numbers", "found", "number"]
def t_steps_total (K : PySem.W.Frag) : TS := (tSeq (tAsg (tC (.ref (He.ga K "NOUGHT"))) (gName 2)) (tSeq (tFor (iTup K (tVar 1)) (gName 3) (tAsg (tCall (sp_added K) [] E0 (tCons (tVar 2) (tCons (tOp (rIxT K) (tOp (rIxT K) (tVar 0) (tVar 3)) (tC (.int 2))) tNil))) (gName 2))) (tRet (tVar 2))))
def N_lets_ring : List PySem.Str := ["history", "thing", "rows", "k", "number", "found"]
def t_lets_ring (K : PySem.W.Frag) (E : XK) : TS := (tSeq (tDrop (tCall (sp_needA K) [] E (tCons (tAndV (tCall (sp_are_numbers K) [] E0 (tCons (tVar 1) tNil)) (tOp oGt (tCB (bLen K) (tCons (tVar 1) tNil)) (tC (.int 0)))) (tCons (tC (.str "shape")) (tCons (tUn (rU fun i => .int (-i)) (tC (.int 1))) tNil))))) (tSeq (tAsg (tCall (sp_history_steps K) [] E0 (tCons (tVar 0) tNil)) (gName 2)) (tSeq (tFor (iEnT K (tCons (tVar 1) tNil)) (gTup K 2 (gNames [3, 4])) (tDrop (tCall (sp_needA K) [] E (tCons (tChain oLe oLt (tC (.int 0)) (tVar 4) (tCB (bLen K) (tCons (tVar 2) tNil))) (tCons (tC (.str "step")) (tCons (tVar 3) tNil)))))) (tSeq (tFor (iEnT K (tCons (tVar 1) tNil)) (gTup K 2 (gNames [3, 4])) (tDrop (tCall (sp_needA K) [] E (tCons (tOp rEq (tOp (rIxT K) (tOp (rIxT K) (tVar 2) (tOp (rIxT K) (tVar 1) (tOp oSub (tVar 3) (tC (.int 1))))) (tC (.int 1))) (tOp (rIxT K) (tOp (rIxT K) (tVar 2) (tVar 4)) (tC (.int 0)))) (tCons (tC (.str "from")) (tCons (tVar 3) tNil)))))) (tSeq (tAsg (tCall (sp_steps_total K) [] E0 (tCons (tVar 2) (tCons (tVar 1) tNil))) (gName 5)) (tSeq (tDrop (tCall (sp_needA K) [] E (tCons (tCall (sp_is_below K) [] E0 (tCons (tVar 5) (tCons (tC (.ref (He.ga K "NOUGHT"))) tNil))) (tCons (tC (.str "sum")) (tCons (tUn (rU fun i => .int (-i)) (tC (.int 1))) tNil))))) (tRet (tVar 5))))))))
def N_are_times : List PySem.Str := ["thing", "one"]
def t_are_times (K : PySem.W.Frag) : TS := (tRet (tAndV (tCB (rIsi K) (tCons (tVar 0) (tCons (tC (.ty "tuple")) tNil))) (tCB (rAll K) (tCons (tLc (iTup K (tVar 0)) (gName 1) tYes (tCall (sp_is_fraction K) [] E0 (tCons (tVar 1) tNil)) [1]) tNil))))
def N_world_bars : List PySem.Str := ["history", "world", "k", "x", "y", "wide"]
def t_world_bars (K : PySem.W.Frag) : TS := (tSeq (tFor (iEnum K (tCons (tCall (sp_steps_list K) [] E0 (tCons (tVar 0) tNil)) tNil)) (gTup K 2 (gCons (gName 2) (gCons (gTup K 3 (gNames [3, 4, 5])) gNil))) (tIfS (tB (tCall (sp_is_below K) [] E0 (tCons (tCall (sp_added K) [] E0 (tCons (tOp (rIxT K) (tVar 1) (tVar 3)) (tCons (tVar 5) tNil))) (tCons (tOp (rIxT K) (tVar 1) (tVar 4)) tNil)))) (tRet (tVar 2)) tNext)) (tRet (tC .non)))
def N_needB : List PySem.Str := ["truth", "word", "at"]
def t_needB (K : PySem.W.Frag) (E : XK) : TS := (tIfS (tNot (tB (tVar 0))) (fun _ σ H => tMkO (He.ga K "NoPaper") (sp_NoPaper_init K) [] (tCons (tVar 1) (tCons (tVar 2) tNil)) σ H fun cls d H' => E cls d H') tNext)
def N_lets_world : List PySem.Str := ["history", "thing", "step"]
def t_lets_world (K : PySem.W.Frag) (E : XK) : TS := (tSeq (tDrop (tCall (sp_needB K) [] E (tCons (tCall (sp_are_times K) [] E0 (tCons (tVar 1) tNil)) (tCons (tC (.str "shape")) (tCons (tUn (rU fun i => .int (-i)) (tC (.int 1))) tNil))))) (tSeq (tDrop (tCall (sp_needB K) [] E (tCons (tOp rEq (tCB (bLen K) (tCons (tVar 1) tNil)) (tCB (bLen K) (tCons (tOp (rIxT K) (tVar 0) (tC (.int 1))) tNil))) (tCons (tC (.str "many")) (tCons (tUn (rU fun i => .int (-i)) (tC (.int 1))) tNil))))) (tSeq (tAsg (tCall (sp_world_bars K) [] E0 (tCons (tVar 0) (tCons (tVar 1) tNil))) (gName 2)) (tSeq (tDrop (tCall (sp_needB K) [] E (tCons (tOp oIsN (tVar 2) (tC .non)) (tCons (tC (.str "step")) (tCons (tVar 2) tNil))))) (tRet (tCB (bLen K) (tCons (tVar 1) tNil)))))))
def N_law_feed : List PySem.Str := ["_law_script"]
def t_law_feed (K : PySem.W.Frag) : TS := (tRet (tLst (tCons (tCB (bList K) (tCons (tSl (rSlL K) (tVar 0) tNoPart (tPart (tC (.int 63)))) tNil)) (tCons (tC (.int 0)) (tCons (tC (.int 0)) (tCons (tC (.int 0)) tNil))))))
def N_law_draw : List PySem.Str := ["_law_feed_here", "_law_many", "_law_cell", "_law_figure", "_law_mixed"]
def t_law_draw (K : PySem.W.Frag) : TS := (tSeq (tAsg (tOp oAdd (tOp (rIxL K) (tVar 0) (tC (.int 1))) (tC (.int 1))) (gSub (tVar 0) (tC (.int 1)) rSetL)) (tSeq (tWhile (tAnd (tTest (tOp rEq (tOp (rIxL K) (tVar 0) (tC (.int 2))) (tC (.int 0)))) (tTest (tOp oLt (tOp (rIxL K) (tVar 0) (tC (.int 3))) (tCB (bLen K) (tCons (tOp (rIxL K) (tVar 0) (tC (.int 0))) tNil))))) (tSeq (tAsg (tCB bAbs (tCons (tOp (rIxL K) (tOp (rIxL K) (tVar 0) (tC (.int 0))) (tOp (rIxL K) (tVar 0) (tC (.int 3)))) tNil)) (gName 2)) (tSeq (tAsg (tOp oMul (tVar 2) (tCB bInt (tCons (tOp oGe (tVar 2) (tOp oPow (tC (.int 10)) (tC (.int 18)))) tNil))) (gSub (tVar 0) (tC (.int 2)) rSetL)) (tAsg (tOp oAdd (tOp (rIxL K) (tVar 0) (tC (.int 3))) (tC (.int 1))) (gSub (tVar 0) (tC (.int 3)) rSetL))))) (tSeq (tIfS (tTest (tOp oGt (tOp (rIxL K) (tVar 0) (tC (.int 2))) (tC (.int 0)))) (tSeq (tAsg (tOp oMod (tOp (rIxL K) (tVar 0) (tC (.int 2))) (tVar 1)) (gName 3)) (tSeq (tAsg (tOp oDiv (tOp (rIxL K) (tVar 0) (tC (.int 2))) (tVar 1)) (gSub (tVar 0) (tC (.int 2)) rSetL)) (tRet (tVar 3)))) tNext) (tSeq (tAsg (tIf (tTest (tOp (rNeD K) (tOp (rIxL K) (tVar 0) (tC (.int 0))) (tLst tNil))) (tOp (rIxL K) (tOp (rIxL K) (tVar 0) (tC (.int 0))) (tOp oMod (tOp (rIxL K) (tVar 0) (tC (.int 1))) (tCB (bLen K) (tCons (tOp (rIxL K) (tVar 0) (tC (.int 0))) tNil)))) (tC (.int 5))) (gName 2)) (tSeq (tAsg (tOp oMod (tOp oPow (tOp oAdd (tOp oAdd (tOp oMod (tVar 2) (tC (.int 1000003))) (tOp oMul (tOp oMul (tC (.int 613)) (tOp (rIxL K) (tVar 0) (tC (.int 1)))) (tOp oAdd (tOp (rIxL K) (tVar 0) (tC (.int 1))) (tC (.int 7))))) (tC (.int 17))) (tC (.int 5))) (tC (.int 2147483647))) (gName 4)) (tRet (tOp oMod (tOp oDiv (tOp oMod (tOp oPow (tOp oAdd (tVar 4) (tOp oMul (tC (.int 4099)) (tOp (rIxL K) (tVar 0) (tC (.int 1))))) (tC (.int 5))) (tC (.int 2147483587))) (tC (.int 7))) (tVar 1))))))))
def N_law_frac : List PySem.Str := ["_law_top", "_law_bottom", "_law_one", "_law_other"]
def t_law_frac (K : PySem.W.Frag) : TS := (tSeq (tAsg (tIf (tTest (tOp oGt (tVar 1) (tC (.int 0)))) (tTup (tCons (tVar 0) (tCons (tVar 1) tNil))) (tTup (tCons (tOp oSub (tC (.int 0)) (tVar 0)) (tCons (tOp oSub (tC (.int 0)) (tVar 1)) tNil)))) (gTup K 2 (gNames [0, 1]))) (tSeq (tPar 2 3 (tCons (tCB bAbs (tCons (tVar 0) tNil)) (tCons (tVar 1) tNil))) (tSeq (tWhile (tTest (tOp oGt (tVar 3) (tC (.int 0)))) (tPar 2 3 (tCons (tVar 3) (tCons (tOp oMod (tVar 2) (tVar 3)) tNil)))) (tRet (tTup (tCons (tOp oDiv (tVar 0) (tVar 2)) (tCons (tOp oDiv (tVar 1) (tVar 2)) tNil)))))))
def N_law_field : List PySem.Str := ["_law_feed_here", "_law_most", "_law_pool", "_law_names", "_law_source", "_law_homes", "_law_links", "_law_name", "_law_slow", "_law_k", "_law_one", "_law_rest", "_law_least", "_law_more", "_law_end"]
def t_law_field (K : PySem.W.Frag) : TS := (tSeq (tAsg (tLst (tCons (tC (.str "a")) (tCons (tC (.str "b")) (tCons (tC (.str "cy")) (tCons (tC (.str "mill")) (tCons (tC (.str "quay")) (tCons (tC (.str "zzzzzzzz")) tNil))))))) (gName 2)) (tSeq (tAsg (tCB (rSortedS K) (tCons (tLc (iRng1 (tCons (tOp oAdd (tC (.int 1)) (tCall (sp_law_draw K) [] E0 (tCons (tVar 0) (tCons (tVar 1) tNil)))) tNil)) (gName 9) tYes (tBM K "list" rPopAt (tVar 2) (tCons (tCall (sp_law_draw K) [] E0 (tCons (tVar 0) (tCons (tCB (bLen K) (tCons (tVar 2) tNil)) tNil))) tNil)) [9]) tNil)) (gName 3)) (tSeq (tPar3 4 5 6 (tCons (tOp (rIxL K) (tVar 3) (tCall (sp_law_draw K) [] E0 (tCons (tVar 0) (tCons (tCB (bLen K) (tCons (tVar 3) tNil)) tNil)))) (tCons (tLst tNil) (tCons (tLst tNil) tNil)))) (tSeq (tFor (iList K (tVar 3)) (gName 7) (tSeq (tAsg (tOp (rIxL K) (tLst (tCons (tTup (tCons (tC (.int 1)) (tCons (tC (.int 1)) tNil))) (tCons (tTup (tCons (tC (.int 3)) (tCons (tC (.int 4)) tNil))) (tCons (tTup (tCons (tC (.int 1)) (tCons (tC (.int 2)) tNil))) tNil)))) (tOp oMul (tCall (sp_law_draw K) [] E0 (tCons (tVar 0) (tCons (tC (.int 3)) tNil))) (tCB bInt (tCons (tOp rNe (tVar 7) (tVar 4)) tNil)))) (gName 8)) (tDrop (tBM K "list" rAppend (tVar 5) (tCons (tTup (tCons (tVar 7) (tCons (tVar 8) (tCons (tOp (rIxL K) (tLst (tCons (tTup (tCons (tC (.int 1)) (tCons (tC (.int 1)) tNil))) (tCons (tTup (tCons (tC (.int 5)) (tCons (tC (.int 4)) tNil))) (tCons (tTup (tCons (tC (.int 3)) (tCons (tC (.int 2)) tNil))) (tCons (tTup (tCons (tC (.int 2)) (tCons (tC (.int 1)) tNil))) tNil))))) (tOp oMul (tCall (sp_law_draw K) [] E0 (tCons (tVar 0) (tCons (tC (.int 4)) tNil))) (tCB bInt (tCons (tOp rNe (tVar 7) (tVar 4)) tNil)))) tNil)))) tNil))))) (tSeq (tFor (iRng1 (tCons (tOp oMul (tCall (sp_law_draw K) [] E0 (tCons (tVar 0) (tCons (tC (.int 9)) tNil))) (tCB bInt (tCons (tOp oGt (tCB (bLen K) (tCons (tVar 3) tNil)) (tC (.int 1))) tNil))) tNil)) (gName 9) (tSeq (tAsg (tOp (rIxL K) (tVar 3) (tCall (sp_law_draw K) [] E0 (tCons (tVar 0) (tCons (tCB (bLen K) (tCons (tVar 3) tNil)) tNil)))) (gName 10)) (tSeq (tAsg (tLc (iList K (tVar 3)) (gName 7) (tTest (tOp rNe (tVar 7) (tVar 10))) (tVar 7) [7]) (gName 11)) (tSeq (tAsg (tCall (sp_law_draw K) [] E0 (tCons (tVar 0) (tCons (tC (.int 5)) tNil))) (gName 12)) (tSeq (tAsg (tOp (rIxL K) (tLst (tCons (tC (.int 0)) (tCons (tC (.int 2)) (tCons (tC (.int 5)) (tCons (tC (.int 18)) (tCons (tC .non) tNil)))))) (tCall (sp_law_draw K) [] E0 (tCons (tVar 0) (tCons (tC (.int 5)) tNil)))) (gName 13)) (tSeq (tAsg (tIf (tTest (tOp oIsN (tVar 13) (tC .non))) (tC .non) (tCall (sp_law_frac K) [] E0 (tCons (tOp oAdd (tVar 12) (tVar 13)) (tCons (tC (.int 2)) tNil)))) (gName 14)) (tDrop (tBM K "list" rAppend (tVar 6) (tCons (tTup (tCons (tVar 10) (tCons (tOp (rIxL K) (tVar 11) (tCall (sp_law_draw K) [] E0 (tCons (tVar 0) (tCons (tCB (bLen K) (tCons (tVar 11) tNil)) tNil)))) (tCons (tCall (sp_law_frac K) [] E0 (tCons (tVar 12) (tCons (tC (.int 2)) tNil))) (tCons (tVar 14) tNil))))) tNil))))))))) (tRet (tTup (tCons (tCB (bTuple K) (tCons (tVar 5) tNil)) (tCons (tCB (bTuple K) (tCons (tVar 6) tNil)) (tCons (tVar 4) tNil))))))))))
def N_law_rates : List PySem.Str := ["_law_field_here", "_law_name", "_law_slow", "_law_fast", "_law_house"]
def t_law_rates (K : PySem.W.Frag) : TS := (tSeq (tAsg (tOp (rIxL K) (tLc (iTup K (tOp (rIxT K) (tVar 0) (tC (.int 0)))) (gName 4) (tTest (tOp rEq (tOp (rIxT K) (tVar 4) (tC (.int 0))) (tVar 1))) (tSl (rSlT K) (tVar 4) (tPart (tC (.int 1))) tNoPart) [4]) (tC (.int 0))) (gTup K 2 (gNames [2, 3]))) (tRet (tTup (tCons (tOp oDiv (tOp oMul (tOp (rIxT K) (tVar 2) (tC (.int 0))) (tC (.int 4))) (tOp (rIxT K) (tVar 2) (tC (.int 1)))) (tCons (tOp oDiv (tOp oMul (tOp (rIxT K) (tVar 3) (tC (.int 0))) (tC (.int 4))) (tOp (rIxT K) (tVar 3) (tC (.int 1)))) tNil)))))
def N_law_open : List PySem.Str := ["_law_field_here", "_law_sends", "_law_name", "_law_now", "_law_found", "_law_number", "_law_link", "_law_then", "_law_least", "_law_end"]
def t_law_open (K : PySem.W.Frag) : TS := (tSeq (tAsg (tLst tNil) (gName 4)) (tSeq (tFor (iList K (tVar 1)) (gTup K 3 (gNames [5, 6, 7])) (tSeq (tAsg (tSl (rSlT K) (tOp (rIxT K) (tOp (rIxT K) (tVar 0) (tC (.int 1))) (tVar 6)) (tPart (tC (.int 2))) tNoPart) (gTup K 2 (gNames [8, 9]))) (tIfS (tAnd (tTest (tOp rEq (tOp (rIxT K) (tOp (rIxT K) (tOp (rIxT K) (tVar 0) (tC (.int 1))) (tVar 6)) (tC (.int 1))) (tVar 2))) (tTest (tOp oGe (tOp oMul (tOp oSub (tVar 3) (tVar 7)) (tOp (rIxT K) (tVar 8) (tC (.int 1)))) (tOp (rIxT K) (tVar 8) (tC (.int 0)))))) (tIfS (tOr (tTest (tOp oIsN (tVar 9) (tC .non))) (tTest (tOp oLe (tOp oMul (tOp oSub (tVar 3) (tVar 7)) (tOp (rIxT K) (tVar 9) (tC (.int 1)))) (tOp (rIxT K) (tVar 9) (tC (.int 0)))))) (tDrop (tBM K "list" rAppend (tVar 4) (tCons (tVar 5) tNil))) tNext) tNext))) (tRet (tVar 4))))
def N_law_drawn : List PySem.Str := ["_law_feed_here", "_law_most", "_law_many", "_law_field_here", "_law_now", "_law_clocks", "_law_sends", "_law_events", "_law_clocked", "_law_k", "_law_name", "_law_stamp", "_law_slow", "_law_fast", "_law_then", "_law_mails", "_law_own", "_law_deed", "_law_way", "_law_n", "_law_link"]
def t_law_drawn (K : PySem.W.Frag) : TS := (tSeq (tAsg (tCall (sp_law_field K) [] E0 (tCons (tVar 0) (tCons (tVar 1) tNil))) (gName 3)) (tSeq (tAsg (tTup (tCons (tC (.int 0)) (tCons tDNewK (tCons (tLst tNil) (tCons (tLst tNil) (tCons (tLst tNil) tNil)))))) (gTup K 5 (gNames [4, 5, 6, 7, 8]))) (tSeq (tFor (iRng1 (tCons (tVar 2) tNil)) (gName 9) (tSeq (tAsg (tOp oAdd (tVar 4) (tOp (rIxL K) (tLst (tCons (tC (.int 0)) (tCons (tC (.int 0)) (tCons (tC (.int 1)) (tCons (tC (.int 2)) (tCons (tC (.int 3)) tNil)))))) (tCall (sp_law_draw K) [] E0 (tCons (tVar 0) (tCons (tC (.int 5)) tNil))))) (gName 4)) (tSeq (tAsg (tOp (rIxT K) (tOp (rIxT K) (tOp (rIxT K) (tVar 3) (tC (.int 0))) (tCall (sp_law_draw K) [] E0 (tCons (tVar 0) (tCons (tCB (bLen K) (tCons (tOp (rIxT K) (tVar 3) (tC (.int 0))) tNil)) tNil)))) (tC (.int 0))) (gName 10)) (tSeq (tAsg (tOp oSub (tCall (sp_law_draw K) [] E0 (tCons (tVar 0) (tCons (tC (.int 41)) tNil))) (tC (.int 20))) (gName 11)) (tSeq (tIfS (tB (tDIn (tVar 10) (tVar 5))) (tSeq (tAsg (tCall (sp_law_rates K) [] E0 (tCons (tVar 3) (tCons (tVar 10) tNil))) (gTup K 2 (gNames [12, 13]))) (tSeq (tAsg (tDGet (tVar 5) (tVar 10)) (gTup K 2 (gNames [14, 11]))) (tAsg (tOp oAdd (tVar 11) (tOp oMul (tOp oSub (tVar 4) (tVar 14)) (tOp (rIxL K) (tLst (tCons (tVar 12) (tCons (tVar 13) (tCons (tC (.int 4)) tNil)))) (tCall (sp_law_draw K) [] E0 (tCons (tVar 0) (tCons (tC (.int 3)) tNil)))))) (gName 11)))) tNext) (tSeq (sDPut (tVar 5) (tVar 10) (tTup (tCons (tVar 4) (tCons (tVar 11) tNil)))) (tSeq (tAsg (tCall (sp_law_open K) [] E0 (tCons (tVar 3) (tCons (tVar 6) (tCons (tVar 10) (tCons (tVar 4) tNil))))) (gName 15)) (tSeq (tAsg (tLc (iEnT K (tCons (tOp (rIxT K) (tVar 3) (tC (.int 1))) tNil)) (gTup K 2 (gNames [19, 20])) (tTest (tOp rEq (tOp (rIxT K) (tVar 20) (tC (.int 0))) (tVar 10))) (tVar 19) [19, 20]) (gName 16)) (tSeq (tPar 17 18 (tCons (tTup (tCons (tC (.str "mark")) tNil)) (tCons (tCall (sp_law_draw K) [] E0 (tCons (tVar 0) (tCons (tC (.int 5)) tNil))) tNil))) (tSeq (tIfS (tAnd (tTest (tOp oLt (tVar 18) (tC (.int 3)))) (tTest (tOp (rNeD K) (tVar 15) (tLst tNil)))) (tAsg (tTup (tCons (tC (.str "hear")) (tCons (tOp (rIxL K) (tVar 15) (tCall (sp_law_draw K) [] E0 (tCons (tVar 0) (tCons (tCB (bLen K) (tCons (tVar 15) tNil)) tNil)))) tNil))) (gName 17)) (tIfS (tAnd (tTest (tOp oLt (tVar 18) (tC (.int 4)))) (tTest (tOp (rNeD K) (tVar 16) (tLst tNil)))) (tSeq (tAsg (tTup (tCons (tC (.str "send")) (tCons (tOp (rIxL K) (tVar 16) (tCall (sp_law_draw K) [] E0 (tCons (tVar 0) (tCons (tCB (bLen K) (tCons (tVar 16) tNil)) tNil)))) tNil))) (gName 17)) (tDrop (tBM K "list" rAppend (tVar 6) (tCons (tTup (tCons (tVar 9) (tCons (tOp (rIxT K) (tVar 17) (tC (.int 1))) (tCons (tVar 4) tNil)))) tNil)))) tNext)) (tSeq (tDrop (tBM K "list" rAppend (tVar 7) (tCons (tTup (tCons (tVar 10) (tCons (tCall (sp_law_frac K) [] E0 (tCons (tVar 11) (tCons (tC (.int 4)) tNil))) (tCons (tVar 17) tNil)))) tNil))) (tDrop (tBM K "list" rAppend (tVar 8) (tCons (tTup (tCons (tVar 4) (tCons (tC (.int 1)) tNil))) tNil)))))))))))))) (tRet (tTup (tCons (tTup (tCons (tVar 3) (tCons (tCB (bTuple K) (tCons (tVar 7) tNil)) tNil))) (tCons (tCB (bTuple K) (tCons (tVar 8) tNil)) tNil)))))))
def N_law_barred : List PySem.Str := ["_law_feed_here", "_law_history", "_law_field_here", "_law_events", "_law_way", "_law_at", "_law_more", "_law_found", "_law_n", "_law_name", "_law_stamp", "_law_deed", "_law_links", "_law_one", "_law_other", "_law_least", "_law_end"]
def t_law_barred (K : PySem.W.Frag) : TS := (tSeq (tAsg (tVar 1) (gTup K 2 (gNames [2, 3]))) (tSeq (tPar 4 5 (tCons (tCall (sp_law_draw K) [] E0 (tCons (tVar 0) (tCons (tC (.int 3)) tNil))) (tCons (tCall (sp_law_draw K) [] E0 (tCons (tVar 0) (tCons (tCB bMax (tCons (tC (.int 1)) (tCons (tCB (bLen K) (tCons (tVar 3) tNil)) tNil))) tNil))) tNil))) (tSeq (tIfS (tAnd (tTest (tOp rEq (tVar 4) (tC (.int 0)))) (tTest (tOp (rNeD K) (tVar 3) (tTup tNil)))) (tSeq (tAsg (tOp oAdd (tC (.int 1)) (tCall (sp_law_draw K) [] E0 (tCons (tVar 0) (tCons (tC (.int 40)) tNil)))) (gName 6)) (tSeq (tAsg (tCB (bList K) (tCons (tVar 3) tNil)) (gName 7)) (tSeq (tFor (iRng2 (tCons (tVar 5) (tCons (tCB (bLen K) (tCons (tVar 3) tNil)) tNil))) (gName 8) (tSeq (tAsg (tOp (rIxT K) (tVar 3) (tVar 8)) (gTup K 3 (gNames [9, 10, 11]))) (tIfS (tTest (tOp rEq (tVar 9) (tOp (rIxT K) (tOp (rIxT K) (tVar 3) (tVar 5)) (tC (.int 0))))) (tAsg (tTup (tCons (tVar 9) (tCons (tCall (sp_law_frac K) [] E0 (tCons (tOp oAdd (tOp oDiv (tOp oMul (tOp (rIxT K) (tVar 10) (tC (.int 0))) (tC (.int 4))) (tOp (rIxT K) (tVar 10) (tC (.int 1)))) (tVar 6)) (tCons (tC (.int 4)) tNil))) (tCons (tVar 11) tNil)))) (gSub (tVar 7) (tVar 8) rSetL)) tNext))) (tRet (tTup (tCons (tVar 2) (tCons (tCB (bTuple K) (tCons (tVar 7) tNil)) tNil))))))) tNext) (tSeq (tAsg (tLst tNil) (gName 12)) (tSeq (tFor (iTup K (tOp (rIxT K) (tVar 2) (tC (.int 1)))) (gTup K 4 (gNames [13, 14, 15, 16])) (tIfS (tTest (tOp rEq (tVar 4) (tC (.int 1)))) (tDrop (tBM K "list" rAppend (tVar 12) (tCons (tTup (tCons (tVar 13) (tCons (tVar 14) (tCons (tCall (sp_law_frac K) [] E0 (tCons (tOp oAdd (tOp oDiv (tOp oMul (tOp (rIxT K) (tVar 15) (tC (.int 0))) (tC (.int 2))) (tOp (rIxT K) (tVar 15) (tC (.int 1)))) (tC (.int 3))) (tCons (tC (.int 2)) tNil))) (tCons (tIf (tTest (tOp oIsN (tVar 16) (tC .non))) (tC .non) (tTup (tCons (tC (.int 99)) (tCons (tC (.int 1)) tNil)))) tNil))))) tNil))) (tDrop (tBM K "list" rAppend (tVar 12) (tCons (tTup (tCons (tVar 13) (tCons (tVar 14) (tCons (tVar 15) (tCons (tVar 15) tNil))))) tNil))))) (tRet (tTup (tCons (tTup (tCons (tOp (rIxT K) (tVar 2) (tC (.int 0))) (tCons (tCB (bTuple K) (tCons (tVar 12) tNil)) (tCons (tOp (rIxT K) (tVar 2) (tC (.int 2))) tNil)))) (tCons (tVar 3) tNil)))))))))
def N_law_let : List PySem.Str := ["_law_look", "_law_history", "_law_thing", "_law_found"]
def N_law_barring : List PySem.Str := ["_law_history", "_law_found", "e"]
def N_law_right : List PySem.Str := ["_law_history", "_law_clocked", "_law_word", "_law_thing", "_law_ring", "_law_barring_here", "_law_later", "_law_one", "_law_time"]
def t_law_right (K : PySem.W.Frag) : TS := (tSeq (tAsg (tCall (sp_world_or_ring K) [] E0 (tCons (tVar 0) tNil)) (gTup K 2 (gNames [2, 3]))) (tSeq (tPar 4 5 (tCons (tCall (sp_ring_of K) [] E0 (tCons (tVar 0) tNil)) (tCons (tCall (sp_law_barring K) [] E0 (tCons (tVar 0) tNil)) tNil))) (tSeq (tIfS (tTest (tOp rEq (tVar 2) (tC (.str "world")))) (tSeq (tAsg (tCB (bTuple K) (tCons (tLc (iTup K (tVar 3)) (gName 8) tYes (tCall (sp_law_frac K) [] E0 (tCons (tOp oAdd (tOp oMul (tOp (rIxT K) (tVar 8) (tC (.int 0))) (tC (.int 3))) (tOp oMul (tC (.int 7)) (tOp (rIxT K) (tVar 8) (tC (.int 1))))) (tCons (tOp oMul (tC (.int 3)) (tOp (rIxT K) (tVar 8) (tC (.int 1)))) tNil))) [8]) tNil)) (gName 6)) (tSeq (tIfS (tOr (tTest (tOp oNotN (tVar 4) (tC .non))) (tOr (tTest (tOp oNotN (tVar 5) (tC .non))) (tTest (tOp oNotN (tCall (sp_law_letR K) [] E0 (tCons (tC (.ref (He.ga K "lets_ring"))) (tCons (tVar 0) (tCons (tTup (tCons (tC (.int 0)) (tCons (tC (.int 1)) tNil))) tNil)))) (tC .non))))) (tRet (tC (.bl false))) tNext) (tRet (tOp (rEqD K) (tLc (iTup K (tTup (tCons (tVar 3) (tCons (tVar 6) tNil)))) (gName 7) tYes (tCall (sp_law_letW K) [] E0 (tCons (tC (.ref (He.ga K "lets_world"))) (tCons (tVar 0) (tCons (tVar 7) tNil)))) [7]) (tOp rRep (tLst (tCons (tCB (bLen K) (tCons (tVar 3) tNil)) tNil)) (tC (.int 2))))))) tNext) (tSeq (tIfS (tOr (tTest (tOp rNe (tVar 2) (tC (.str "ring")))) (tTest (tOp oNotN (tCall (sp_law_letW K) [] E0 (tCons (tC (.ref (He.ga K "lets_world"))) (tCons (tVar 0) (tCons (tVar 1) tNil)))) (tC .non)))) (tRet (tC (.bl false))) tNext) (tRet (tOp (rNotInD K) (tC .non) (tLc (iTup K (tTup (tCons (tVar 3) (tCons (tVar 4) (tCons (tVar 5) tNil))))) (gName 7) (tTest (tOp oNotN (tVar 7) (tC .non))) (tCall (sp_law_letR K) [] E0 (tCons (tC (.ref (He.ga K "lets_ring"))) (tCons (tVar 0) (tCons (tVar 7) tNil)))) [7])))))))
def N_law : List PySem.Str := ["_law_script", "_law_feed_here", "_law_turn", "_law_history", "_law_clocked", "_law_near", "_law_k"]
def t_law (K : PySem.W.Frag) : TS := (tSeq (tAsg (tCall (sp_law_feed K) [] E0 (tCons (tVar 0) tNil)) (gName 1)) (tSeq (tFor (iRng1 (tCons (tC (.int 3)) tNil)) (gName 2) (tSeq (tAsg (tCall (sp_law_drawn K) [] E0 (tCons (tVar 1) (tCons (tC (.int 4)) (tCons (tOp oAdd (tC (.int 2)) (tCall (sp_law_draw K) [] E0 (tCons (tVar 1) (tCons (tC (.int 13)) tNil)))) tNil)))) (gTup K 2 (gNames [3, 4]))) (tSeq (tIfS (tOr (tTest (tOp rNe (tOp (rIxT K) (tCall (sp_world_or_ring K) [] E0 (tCons (tVar 3) tNil)) (tC (.int 0))) (tC (.str "world")))) (tTest (tOp rNe (tCall (sp_law_letW K) [] E0 (tCons (tC (.ref (He.ga K "lets_world"))) (tCons (tVar 3) (tCons (tVar 4) tNil)))) (tCB (bLen K) (tCons (tVar 4) tNil))))) (tRet (tC (.bl false))) tNext) (tSeq (tAsg (tVar 3) (gName 5)) (tFor (iRng1 (tCons (tC (.int 3)) tNil)) (gName 6) (tSeq (tAsg (tCall (sp_law_barred K) [] E0 (tCons (tVar 1) (tCons (tVar 5) tNil))) (gName 5)) (tSeq (tIfS (tNot (tB (tCall (sp_law_right K) [] E0 (tCons (tVar 5) (tCons (tVar 4) tNil))))) (tRet (tC (.bl false))) tNext) (tIfS (tAnd (tTest (tOp rEq (tOp (rIxT K) (tCall (sp_world_or_ring K) [] E0 (tCons (tVar 5) tNil)) (tC (.int 0))) (tC (.str "ring")))) (tOr (tTest (tOp oIsN (tCall (sp_ring_of K) [] E0 (tCons (tVar 5) tNil)) (tC .non))) (tTest (tOp oIsN (tCall (sp_law_barring K) [] E0 (tCons (tVar 5) tNil)) (tC .non))))) (tRet (tC (.bl false))) tNext)))))))) (tRet (tC (.bl true)))))
end K27
/-! Readings over data, on: loops, comprehensions, dicts, kinds. -/
namespace K27
open PySem PySem.Spec PyProof.Rows L2
section
variable {M : Md} {K : PySem.W.Frag} {H H' : Hp} {Δ : List (Option PyD)} {te ta tb : TE} {d e f : PyD} {n m : Nat} {P P1 P2 : PyD → Prop}
/-- what an iterator hands out, by data -/
structure JD (K : PySem.W.Frag) (J : It) (G : Hp → Prop) (ds : List PyD) : Prop where
  stop : ∀ H, G H → J.stop ds.length H
  go : ∀ i H, i < ds.length → G H → J.go i H
  yld : ∀ i H x H' d, G H → ds[i]? = some d → J.yld i H x H' → Exh H H' ∧ Dt K H' x d
theorem JD.mono {J : It} {G G' : Hp → Prop} {ds : List PyD} (j : JD K J G ds) (h : ∀ H, G' H → G H) : JD K J G' ds :=
  ⟨fun H g => j.stop H (h H g), fun i H hi g => j.go i H hi (h H g), fun i H x H' d g => j.yld i H x H' d (h H g)⟩
def ItD (M : Md) (K : PySem.W.Frag) (wi : TI) (Δ : List (Option PyD)) (H : Hp) (n : Nat) (P : List PyD → Prop) (G : Hp → Hp → Prop) : Prop := ∀ (σ : L2.St) (H1 : Hp) (c : Nat), Rf M.F H H1 → EnvD K σ H1 Δ → M.Rs H1 c → c + n ≤ CM →
  ∀ R : It → Hp → Prop, (∀ J H2 ds c', P ds → JD K J (G H2) ds → Rf M.F H1 H2 → M.Rs H2 c' → c' ≤ c + n → R J H2) → wi σ H1 R
theorem it_tup {PA : List PyD → Prop} (h : Ev M K te Δ H n (fun d => ∃ ds, d = .t ds ∧ PA ds)) : ItD M K (iTup K te) Δ H n PA Tp := fun σ H1 c r1 e1 s1 hc R q => by
  refine h σ H1 c r1 e1 s1 hc _ fun x H2 d c2 ⟨ds, e, pa⟩ r2 s2 hc2 hx => ?_
  subst e
  obtain ⟨a, vs, rfl, hs, hd⟩ := hx.tup
  refine ⟨a, rfl, ⟨vs, hs⟩, q _ H2 ds c2 pa ⟨fun H3 t => ?_, fun i H3 hi t => ?_, fun i H3 x H4 d t hi y => ?_⟩ r2 s2 hc2⟩
  · exact ⟨vs, t.sq hs, Nat.le_of_eq hd.length⟩
  · have hv : i < vs.length := by rw [hd.length]; exact hi
    exact ⟨vs, vs[i], t.sq hs, List.getElem?_eq_getElem hv⟩
  · obtain ⟨e, y⟩ := y
    subst e
    obtain ⟨v, hv, hvd⟩ := hd.at hi
    rw [y vs (t.sq hs)] at hv
    cases hv
    exact ⟨Exh.refl _, hvd.mono t⟩
theorem it_tupD {ds : List PyD} (h : EvD M K te Δ H (.t ds)) : ItD M K (iTup K te) Δ H 0 (· = ds) Tp := it_tup (h.imp fun _ e => ⟨ds, e, rfl⟩)
/-- the pairs of enumerate -/
def enD (ds : List PyD) : List PyD := ds.mapIdx fun i d => .t [.i (i : Int), d]
theorem enD_at {ds : List PyD} {i : Nat} : (enD ds)[i]? = (ds[i]?).map fun d => .t [.i (i : Int), d] := by
  unfold enD
  rw [List.getElem?_mapIdx]
theorem enD_length {ds : List PyD} : (enD ds).length = ds.length := by
  unfold enD
  rw [List.length_mapIdx]
theorem it_enT {tl : TA} {ds : List PyD} (h : EaD M K tl Δ H [.t ds]) : ItD M K (iEnT K tl) Δ H 0 (· = enD ds) Tp := fun σ H1 c r1 e1 s1 hc R q => by
  refine h σ H1 c r1 e1 s1 hc _ fun xs H2 d c2 e r2 s2 hc2 hx0 => ?_
  subst e
  obtain ⟨x, rfl, hx⟩ := hx0.one'
  obtain ⟨a, vs, rfl, hs, hd⟩ := hx.tup
  refine ⟨a, vs, rfl, hs, q _ H2 (enD ds) c2 rfl ⟨fun H3 t => ?_, fun i H3 hi t => ?_, fun i H3 x H4 d t hi y => ?_⟩ r2 s2 hc2⟩
  · rw [enD_length]
    exact ⟨vs, t.sq hs, Nat.le_of_eq hd.length⟩
  · rw [enD_length] at hi
    have hv : i < vs.length := by rw [hd.length]; exact hi
    exact ⟨vs, vs[i], t.sq hs, List.getElem?_eq_getElem hv⟩
  · obtain ⟨T, x', rfl, hT, rfl, y⟩ := y
    rw [enD_at] at hi
    cases c : ds[i]? with
    | none =>
      rw [c] at hi
      cases hi
    | some d' =>
      rw [c] at hi
      cases hi
      obtain ⟨v, hv, hvd⟩ := hd.at c
      rw [y vs (t.sq hs)] at hv
      cases hv
      have x3 := Exh.new (o := .tup [.int (i : Nat), x']) hT
      exact ⟨x3, .t (SqT.of upd_same) (.cons (.i _) (.one (hvd.mono (t.trans x3.tp))))⟩
theorem it_rng1 {tl : TA} {PA : List PyD → Prop} (h : EvA M K tl Δ H n (fun es => ∃ j : Int, es = [.i j] ∧ 0 ≤ j ∧ j ≤ 1000000 ∧ PA ((List.range j.toNat).map fun k : Nat => PyD.i (k : Int)))) : ItD M K (iRng1 tl) Δ H n PA (fun _ _ => True) := fun σ H1 c r1 e1 s1 hc R q => by
  refine h σ H1 c r1 e1 s1 hc _ fun xs H2 d c2 ⟨j, e, h0, h1, pa⟩ r2 s2 hc2 hx0 => ?_
  subst e
  obtain ⟨x, rfl, hx⟩ := hx0.one'
  cases hx.int
  refine ⟨j, rfl, by omega, by omega, q _ H2 _ c2 pa ⟨fun H3 t => ?_, fun i H3 hi t => ?_, fun i H3 x H4 d t hi y => ?_⟩ r2 s2 hc2⟩
  · rw [List.length_map, List.length_range]
    exact Nat.le_refl _
  · rw [List.length_map, List.length_range] at hi
    exact hi
  · obtain ⟨e, y⟩ := y
    subst e y
    rw [List.getElem?_map] at hi
    cases c : (List.range j.toNat)[i]? with
    | none =>
      rw [c] at hi
      cases hi
    | some k =>
      rw [c] at hi
      cases hi
      have hk := List.getElem?_eq_some_iff.mp c
      obtain ⟨_, hk⟩ := hk
      rw [List.getElem_range] at hk
      subst hk
      refine ⟨Exh.refl _, ?_⟩
      rw [Int.zero_add]
      exact .i _
theorem it_rngD {tl : TA} {k : Nat} (h : EaD M K tl Δ H [.i (k : Int)]) (hk : k ≤ 100000) : ItD M K (iRng1 tl) Δ H 0 (· = (List.range k).map fun k : Nat => PyD.i (k : Int)) (fun _ _ => True) :=
  it_rng1 (h.imp fun _ e => ⟨(k : Int), e, by omega, by omega, rfl⟩)
theorem it_rng3 {tl : TA} {i : Int} (h : EaD M K tl Δ H [.i i, .i (-1), .i (-1)]) (h0 : -1 ≤ i) (h1 : i ≤ 1000000) : ItD M K (iRng3 tl) Δ H 0 (· = (List.range (i + 1).toNat).map fun k : Nat => PyD.i (i - (k : Int))) (fun _ _ => True) := fun σ H1 c r1 e1 s1 hc R q => by
  refine h σ H1 c r1 e1 s1 hc _ fun xs H2 d c2 e r2 s2 hc2 hx0 => ?_
  subst e
  obtain ⟨x, y, z, rfl, hx, hy, hz⟩ := hx0.three'
  cases hx.int
  cases hy.int
  cases hz.int
  refine ⟨i, -1, -1, (i - -1).toNat, rfl, RgC.neg (by omega) (by omega) (by omega) (by omega), q _ H2 _ c2 rfl ⟨fun H3 t => ?_, fun j H3 hi t => ?_, fun j H3 x H4 d t hi y => ?_⟩ r2 s2 hc2⟩
  · rw [List.length_map, List.length_range]
    show (i - -1).toNat ≤ _
    omega
  · rw [List.length_map, List.length_range] at hi
    show j < (i - -1).toNat
    omega
  · obtain ⟨e, y⟩ := y
    subst e y
    rw [List.getElem?_map] at hi
    cases c : (List.range (i + 1).toNat)[j]? with
    | none =>
      rw [c] at hi
      cases hi
    | some k =>
      rw [c] at hi
      cases hi
      have hk := List.getElem?_eq_some_iff.mp c
      obtain ⟨_, hk⟩ := hk
      rw [List.getElem_range] at hk
      subst hk
      refine ⟨Exh.refl _, ?_⟩
      rw [Int.mul_neg, Int.mul_one]
      exact .i _
theorem it_rng2 {tl : TA} {i j : Nat} (h : EaD M K tl Δ H [.i (i : Int), .i (j : Int)]) (h0 : i ≤ 1000) (h1 : j ≤ 1000) : ItD M K (iRng2 tl) Δ H 0 (· = (List.range (j - i)).map fun k : Nat => PyD.i ((i + k : Nat) : Int)) (fun _ _ => True) := fun σ H1 c r1 e1 s1 hc R q => by
  refine h σ H1 c r1 e1 s1 hc _ fun xs H2 d c2 e r2 s2 hc2 hx0 => ?_
  subst e
  obtain ⟨x, y, rfl, hx, hy⟩ := hx0.two'
  cases hx.int
  cases hy.int
  refine ⟨i, j, rfl, ⟨by omega, by omega, by omega, by omega⟩, q _ H2 _ c2 rfl ⟨fun H3 t => ?_, fun l H3 hi t => ?_, fun l H3 x H4 d t hi y => ?_⟩ r2 s2 hc2⟩
  · rw [List.length_map, List.length_range]
    show ((j : Int) - (i : Int)).toNat ≤ _
    omega
  · rw [List.length_map, List.length_range] at hi
    show l < ((j : Int) - (i : Int)).toNat
    omega
  · obtain ⟨e, y⟩ := y
    subst e y
    rw [List.getElem?_map] at hi
    cases c : (List.range (j - i))[l]? with
    | none =>
      rw [c] at hi
      cases hi
    | some k =>
      rw [c] at hi
      cases hi
      have hk := List.getElem?_eq_some_iff.mp c
      obtain ⟨_, hk⟩ := hk
      rw [List.getElem_range] at hk
      subst hk
      refine ⟨Exh.refl _, ?_⟩
      have e : ((i + l : Nat) : Int) = (i : Int) + (l : Int) := by omega
      show Dt K H4 (.int ((i : Int) + (l : Int))) (.i ((i + l : Nat) : Int))
      rw [e]
      exact .i _
/-- a list that stands at a -/
theorem it_list {a : Addr} {vs : List V} {ds : List PyD} (h : EvD M K te Δ H (.r (.ref a))) (hl : ∀ H1, Rf M.F H H1 → H1 a = some (.lst vs) ∧ Dts K H1 vs ds) : ItD M K (iList K te) Δ H 0 (· = ds) (fun H2 H3 => Tp H2 H3 ∧ H3 a = some (.lst vs)) := fun σ H1 c r1 e1 s1 hc R q => by
  refine h σ H1 c r1 e1 s1 hc _ fun x H2 d c2 e r2 s2 hc2 hx => ?_
  subst e
  cases hx.raw
  obtain ⟨h2, hd⟩ := hl H2 (r1.trans r2)
  refine ⟨a, rfl, ⟨vs, SqL.of h2⟩, q _ H2 ds c2 rfl ⟨fun H3 t => ?_, fun i H3 hi t => ?_, fun i H3 x H4 d t hi y => ?_⟩ r2 s2 hc2⟩
  · exact ⟨vs, SqL.of t.2, Nat.le_of_eq hd.length⟩
  · have hv : i < vs.length := by rw [hd.length]; exact hi
    exact ⟨vs, vs[i], SqL.of t.2, List.getElem?_eq_getElem hv⟩
  · obtain ⟨e, y⟩ := y
    subst e
    obtain ⟨v, hv, hvd⟩ := hd.at hi
    rw [y vs (SqL.of t.2)] at hv
    cases hv
    exact ⟨Exh.refl _, hvd.mono t.1⟩
/-- for: I the invariant by the turn -/
theorem s_for {wi : TI} {g : TG} {tz : TS} {PA : List PyD → Prop} {G : Hp → Hp → Prop} {σ : L2.St} {c : Nat} {D : Ends} (h : ItD M K wi Δ H n PA G) (e : EnvD K σ H Δ) (s : M.Rs H c) (hc : c + n ≤ CM)
    (k : ∀ H2 ds c', PA ds → Rf M.F H H2 → EnvD K σ H2 Δ → M.Rs H2 c' → c' ≤ c + n → ∃ I : Nat → L2.St → Hp → Prop, I 0 σ H2 ∧ (∀ i σ' H', I i σ' H' → G H2 H') ∧
      (∀ i d σ' H' H3 v, ds[i]? = some d → I i σ' H' → Exh H' H3 → Dt K H3 v d → g v σ' H3 fun σ2 H4 => tz { D with nx := I (i + 1), ct := I (i + 1), bk := D.nx } σ2 H4) ∧ ∀ σ' H', I ds.length σ' H' → D.nx σ' H') : tFor wi g tz D σ H := by
  refine h σ H c (Rf.refl _) e s hc _ fun J H2 ds c2 pa jd r2 s2 hc2 => ?_
  obtain ⟨I, i0, iG, step, fin⟩ := k H2 ds c2 pa r2 (e.tp r2.tup) s2 hc2
  refine ⟨fun i m σ' H' => m = ds.length - i ∧ i ≤ ds.length ∧ I i σ' H', ⟨ds.length, by simp, Nat.zero_le _, i0⟩, ?_⟩
  rintro i m σ' H' ⟨rfl, hi, p⟩
  by_cases hlt : i < ds.length
  · refine .inr ⟨jd.go i H' hlt (iG _ _ _ p), I (i + 1), fun σ3 H3 p' => ⟨ds.length - (i + 1), by omega, rfl, hlt, p'⟩, fun x H3 y => ?_⟩
    have hd : ds[i]? = some ds[i] := List.getElem?_eq_getElem hlt
    obtain ⟨x3, hx⟩ := jd.yld i H' x H3 _ (iG _ _ _ p) hd y
    exact step i _ σ' H' H3 x hd p x3 hx
  · have e : i = ds.length := by omega
    subst e
    exact .inl ⟨jd.stop H' (iG _ _ _ p), fin σ' H' p⟩
/-! targets within a comprehension -/
def TgD (K : PySem.W.Frag) (g : TG) (vs : List Nat) (Δ : List (Option PyD)) (d : PyD) (Δ' : List (Option PyD)) : Prop := ∀ (v : V) (σ σ0 : L2.St) (H : Hp) (Q : L2.St → Hp → Prop), Dt K H v d → EnvD K σ H Δ → Wp σ0 vs σ → (∀ σ', EnvD K σ' H Δ' → Wp σ0 vs σ' → Q σ' H) → g v σ H Q
theorem tg_name {vs : List Nat} {i : Nat} (hi : i ∈ vs) : TgD K (gName i) vs Δ d (Δ.set i (some d)) := fun v σ σ0 H Q hv e w q => q _ (e.set hv) (w.set hi)
theorem gNames_okW {vs : List Nat} : ∀ {is : List Nat} {xs : List V} {ds : List PyD} {Δ : List (Option PyD)} {σ σ0 : L2.St} {Q : L2.St → Hp → Prop}, (∀ i ∈ is, i ∈ vs) → is.length = ds.length → Dts K H xs ds → EnvD K σ H Δ → Wp σ0 vs σ → (∀ σ', EnvD K σ' H (setN Δ is ds) → Wp σ0 vs σ' → Q σ' H) → gNames is xs σ H Q
  | [], xs, ds, Δ, σ, σ0, Q, hm, hl, h, e, w, k => by
    cases ds with
    | nil => exact ⟨h.nil', k σ e w⟩
    | cons _ _ => cases hl
  | i :: is, xs, ds, Δ, σ, σ0, Q, hm, hl, h, e, w, k => by
    cases ds with
    | nil => cases hl
    | cons d ds =>
      cases h with
      | cons h hs => exact ⟨_, _, rfl, gNames_okW (is := is) (fun i hi => hm i (List.mem_cons_of_mem _ hi)) (by simpa using hl) hs (e.set h) (w.set (hm i (List.mem_cons_self ..))) k⟩
theorem tg_tup {vs is : List Nat} {ds : List PyD} (hi : ∀ i ∈ is, i ∈ vs) (hl : is.length = ds.length) : TgD K (gTup K is.length (gNames is)) vs Δ (.t ds) (setN Δ is ds) := fun v σ σ0 H Q hv e w q => by
  obtain ⟨a, xs, rfl, hs, hd⟩ := hv.tup
  exact ⟨a, xs, rfl, hs, by rw [hd.length, hl], gNames_okW hi hl hd e w q⟩
/-- what a comprehension collects -/
inductive LcR (R : PyD → Option PyD → Prop) : List PyD → List PyD → Prop where
  | nil : LcR R [] []
  | no {ds es : List PyD} {d : PyD} : LcR R ds es → R d none → LcR R (ds ++ [d]) es
  | yes {ds es : List PyD} {d e : PyD} : LcR R ds es → R d (some e) → LcR R (ds ++ [d]) (es ++ [e])
theorem LcR.len {R : PyD → Option PyD → Prop} {ds es : List PyD} (h : LcR R ds es) : es.length ≤ ds.length := by
  induction h with
  | nil => exact Nat.le_refl _
  | no _ _ ih =>
    rw [List.length_append]
    omega
  | yes _ _ ih =>
    rw [List.length_append, List.length_append, List.length_singleton, List.length_singleton]
    omega
theorem LcR.fun {f : PyD → Option PyD} {ds es : List PyD} (h : LcR (fun d o => o = f d) ds es) : es = ds.filterMap f := by
  induction h with
  | nil => rfl
  | @no ds es d _ r ih => rw [List.filterMap_append, ← ih]; simp [← r]
  | @yes ds es d e _ r ih => rw [List.filterMap_append, ← ih]; simp [← r]
theorem LcR.all {R : PyD → PyD → Prop} {ds es : List PyD} (h : LcR (fun d o => ∃ e, o = some e ∧ R d e) ds es) : es.length = ds.length ∧ ∀ (i : Nat) (d : PyD), ds[i]? = some d → ∃ e : PyD, es[i]? = some e ∧ R d e := by
  induction h with
  | nil => exact ⟨rfl, fun i d q => by simp at q⟩
  | no _ r ih =>
    obtain ⟨_, z, _⟩ := r
    cases z
  | @yes ds es d e _ r ih =>
    obtain ⟨e', z, r⟩ := r
    cases z
    obtain ⟨h1, h2⟩ := ih
    refine ⟨by rw [List.length_append, List.length_append, h1]; rfl, fun i d' q => ?_⟩
    by_cases c : i < ds.length
    · rw [List.getElem?_append_left c] at q
      rw [List.getElem?_append_left (by omega)]
      exact h2 i d' q
    · have hi : i = ds.length := by
        have := (List.getElem?_eq_some_iff.mp q).1
        rw [List.length_append, List.length_singleton] at this
        omega
      subst hi
      rw [List.getElem?_append_right (Nat.le_refl _), Nat.sub_self] at q
      cases q
      refine ⟨e, ?_, r⟩
      rw [List.getElem?_append_right (by omega), h1, Nat.sub_self]
      rfl
theorem LcR.map {f : PyD → PyD} {ds es : List PyD} (h : LcR (fun d o => ∃ e, o = some e ∧ e = f d) ds es) : es = ds.map f := by
  obtain ⟨h1, h2⟩ := h.all
  refine List.ext_getElem? fun i => ?_
  rw [List.getElem?_map]
  cases c : ds[i]? with
  | none =>
    have := List.getElem?_eq_none_iff.mp c
    exact List.getElem?_eq_none (by omega)
  | some d =>
    obtain ⟨e, h3, h4⟩ := h2 i d c
    rw [h3, h4]
    rfl
theorem take_snoc {α : Type} {l : List α} {i : Nat} {a : α} (h : l[i]? = some a) : l.take (i + 1) = l.take i ++ [a] := by rw [List.take_succ, h]; rfl
theorem ev_lc {wi : TI} {g : TG} {tt : TT} {vs : List Nat} {PA : List PyD → Prop} {G : Hp → Hp → Prop} {R : PyD → Option PyD → Prop} (hi : ItD M K wi Δ H n PA G) (hG : ∀ H2 H3, Rf M.F H H2 → Rf M.F H2 H3 → G H2 H3) (hl : ∀ ds, PA ds → ds.length ≤ 1000)
    (step : ∀ ds, PA ds → ∀ d ∈ ds, ∃ b Δ', TgD K g vs (wipeD Δ vs) d Δ' ∧ EtD M K tt Δ' H b ∧ (b = false → R d none) ∧ (b = true → Ev M K te Δ' H 0 (fun e => R d (some e)))) :
    EvL M K (tLc wi g tt te vs) Δ H n (fun es => ∃ ds, PA ds ∧ LcR R ds es) := fun σ H1 c r1 e1 s1 hc Q q => by
  refine hi σ H1 c r1 e1 s1 hc _ fun J H2 ds c2 pa jd r2 s2 hc2 => ?_
  intro D hD
  have e2 := e1.tp r2.tup
  have r12 := r1.trans r2
  refine ⟨fun i m H' => m = ds.length - i ∧ i ≤ ds.length ∧ Rf M.F H2 H' ∧ (∃ c', c' ≤ c2 ∧ M.Rs H' c') ∧ ∃ acc es, H' D = some (.lst acc) ∧ Dts K H' acc es ∧ LcR R (ds.take i) es,
    ⟨ds.length, by simp, Nat.zero_le _, (Exh.new hD).rf, ⟨c2, Nat.le_refl _, M.mono _ _ _ (Exh.new hD) s2⟩, [], [], upd_same, .nil, .nil⟩, ?_⟩
  rintro i m H3 ⟨rfl, hi, r3, ⟨c3, hc3, s3⟩, acc, es, hacc, hes, hr⟩
  have g3 := hG H2 H3 r12 r3
  have nF : ¬ M.F D := fun f => absurd hD (M.live _ _ _ f s2)
  have nF1 : H1 D = none := by
    cases z : H1 D with
    | none => rfl
    | some o =>
      rw [r2.keep _ _ nF z] at hD
      cases hD
  by_cases hlt : i < ds.length
  · refine .inr ⟨jd.go i H3 hlt g3, _, fun H' p' => ⟨ds.length - (i + 1), by omega, rfl, hlt, p'⟩, fun x H4 y => ?_⟩
    have hd : ds[i]? = some ds[i] := List.getElem?_eq_getElem hlt
    obtain ⟨x4, hx⟩ := jd.yld i H3 x H4 _ g3 hd y
    have r4 : Rf M.F H2 H4 := r3.trans x4.rf
    have s4 := M.mono _ _ _ x4 s3
    obtain ⟨b, Δ', tg, ht, h0, h1⟩ := step ds pa ds[i] (List.getElem_mem hlt)
    refine tg x (L2.wipe σ vs) σ H4 _ hx ((e2.tp r4.tup).wipe vs) (Wp.start σ vs) fun σ' e' w' => ⟨w', ?_⟩
    refine ht σ' H4 c3 (r12.trans r4) e' s4 (by omega) _ fun b' H5 c5 eb r5 s5 hc5 => ?_
    subst eb
    have hD5 : H5 D = some (.lst acc) := r5.keep _ _ nF (x4 _ _ hacc)
    cases b' with
    | true =>
      refine iteT (h1 rfl σ' H5 c5 ((r12.trans r4).trans r5) (e'.tp r5.tup) s5 (by omega) _ fun y H6 d6 c6 p6 r6 s6 hc6 hy => ?_)
      have hD6 : H6 D = some (.lst acc) := r6.keep _ _ nF hD5
      have t6 : Tp H3 H6 := (x4.tp.trans r5.tup).trans r6.tup
      have tu : Tp H6 (upd H6 D (.lst (acc ++ [y]))) := Tp.updL hD6
      have hle := hr.len
      rw [List.length_take] at hle
      have := hl ds pa
      refine ⟨acc, hD6, small1000 (by rw [hes.length]; omega), ⟨fun a o f h => ?_, ((r4.trans r5).trans r6).tup.trans tu⟩, ⟨c6, by omega, M.fresh _ _ _ _ _ _ s2 hD s6⟩, acc ++ [y], es ++ [d6], upd_same, ((hes.mono t6).snoc hy).mono tu, by rw [take_snoc hd]; exact .yes hr p6⟩
      have hn : a ≠ D := ne_of_none h hD
      rw [upd_ne hn]
      exact ((r4.trans r5).trans r6).keep a o f h
    | false => exact iteF ⟨r4.trans r5, ⟨c5, by omega, s5⟩, acc, es, hD5, hes.mono (x4.tp.trans r5.tup), by rw [take_snoc hd]; exact .no hr (h0 rfl)⟩
  · have e : i = ds.length := by omega
    subst e
    rw [List.take_length] at hr
    exact .inl ⟨jd.stop H3 g3, q D H3 acc es c3 ⟨ds, pa, hr⟩ nF1 hacc hes (r2.trans r3) s3 (by omega)⟩
/-- every turn yields -/
theorem ev_lcA {wi : TI} {g : TG} {vs : List Nat} {ds : List PyD} {G : Hp → Hp → Prop} {R : PyD → PyD → Prop} (hi : ItD M K wi Δ H n (· = ds) G) (hG : ∀ H2 H3, Rf M.F H H2 → Rf M.F H2 H3 → G H2 H3) (hl : ds.length ≤ 1000)
    (step : ∀ d ∈ ds, ∃ Δ', TgD K g vs (wipeD Δ vs) d Δ' ∧ Ev M K te Δ' H 0 (R d)) : EvL M K (tLc wi g tYes te vs) Δ H n (fun es => es.length = ds.length ∧ ∀ (i : Nat) (d : PyD), ds[i]? = some d → ∃ e : PyD, es[i]? = some e ∧ R d e) := fun σ H1 c r1 e1 s1 hc Q q => by
  refine ev_lc (R := fun d o => ∃ e, o = some e ∧ R d e) hi hG (fun _ e => by rw [e]; exact hl) (fun ds' e d hd => ?_) σ H1 c r1 e1 s1 hc Q fun p H2 vs es c' ⟨ds', e, hr⟩ => by
    subst e
    exact q p H2 vs es c' hr.all
  subst e
  obtain ⟨Δ', h1, h2⟩ := step d hd
  exact ⟨true, Δ', h1, fun σ H1 c r1 e1 s1 hc Q q => q true H1 c rfl (Rf.refl _) s1 (by omega), fun z => by (cases z), fun _ => h2.imp fun e he => ⟨e, rfl, he⟩⟩
theorem el_lcA {wi : TI} {g : TG} {vs : List Nat} {ds : List PyD} {G : Hp → Hp → Prop} {f : PyD → PyD} (hi : ItD M K wi Δ H 0 (· = ds) G) (hG : ∀ H2 H3, Rf M.F H H2 → Rf M.F H2 H3 → G H2 H3) (hl : ds.length ≤ 1000)
    (step : ∀ d ∈ ds, ∃ Δ', TgD K g vs (wipeD Δ vs) d Δ' ∧ EvD M K te Δ' H (f d)) : ElD M K (tLc wi g tYes te vs) Δ H (ds.map f) := fun σ H1 c r1 e1 s1 hc Q q => by
  refine ev_lcA (R := fun d e => e = f d) hi hG hl step σ H1 c r1 e1 s1 hc Q fun p H2 vs es c' ⟨h1, h2⟩ => q p H2 vs es c' ?_
  refine List.ext_getElem? fun i => ?_
  rw [List.getElem?_map]
  cases c : ds[i]? with
  | none =>
    have := List.getElem?_eq_none_iff.mp c
    exact List.getElem?_eq_none (by omega)
  | some d =>
    obtain ⟨e, h3, h4⟩ := h2 i d c
    rw [h3, h4]
    rfl
/-- a filter -/
theorem el_lcF {wi : TI} {g : TG} {tt : TT} {vs : List Nat} {ds : List PyD} {G : Hp → Hp → Prop} {f : PyD → Option PyD} (hi : ItD M K wi Δ H 0 (· = ds) G) (hG : ∀ H2 H3, Rf M.F H H2 → Rf M.F H2 H3 → G H2 H3) (hl : ds.length ≤ 1000)
    (step : ∀ d ∈ ds, ∃ b Δ', TgD K g vs (wipeD Δ vs) d Δ' ∧ EtD M K tt Δ' H b ∧ (b = false → f d = none) ∧ (b = true → ∃ e, f d = some e ∧ EvD M K te Δ' H e)) : ElD M K (tLc wi g tt te vs) Δ H (ds.filterMap f) := fun σ H1 c r1 e1 s1 hc Q q => by
  refine ev_lc (R := fun d o => o = f d) hi hG (fun _ e => by rw [e]; exact hl) (fun ds' e d hd => ?_) σ H1 c r1 e1 s1 hc Q fun p H2 vs es c' ⟨ds', e, hr⟩ => by
    subst e
    exact q p H2 vs es c' hr.fun
  subst e
  obtain ⟨b, Δ', h1, h2, h3, h4⟩ := step d hd
  refine ⟨b, Δ', h1, h2, fun z => (h3 z).symm, fun z => ?_⟩
  obtain ⟨e, h5, h6⟩ := h4 z
  exact h6.imp fun e' he => by rw [he, h5]
/-! lists made: all, tuple, len -/
/-- all([..]) -/
theorem ev_all {tl : TE} {PA : List PyD → Prop} {b : Bool} (h : EvL M K tl Δ H n PA) (hp : ∀ ds, PA ds → ∃ bs : List Bool, ds = bs.map PyD.b ∧ bs.all id = b) : Ev M K (tCB (rAll K) (tCons tl tNil)) Δ H n (· = .b b) := fun σ H1 c r1 e1 s1 hc Q q => by
  refine h σ H1 c r1 e1 s1 (by omega) _ fun p H2 vs ds c2 p2 hp0 h2 hd r2 s2 hc2 => ?_
  obtain ⟨bs, e, eb⟩ := hp ds p2
  subst e
  have : vs = bs.map V.bl := by
    refine List.ext_getElem? fun i => ?_
    cases z : bs[i]? with
    | none =>
      have := List.getElem?_eq_none_iff.mp z
      have hl := hd.length
      rw [List.length_map] at hl
      rw [List.getElem?_eq_none (by omega), List.getElem?_eq_none (by rw [List.length_map]; omega)]
    | some k =>
      obtain ⟨v, hv, hvd⟩ := hd.at (i := i) (d := .b k) (by rw [List.getElem?_map, z]; rfl)
      rw [hv, hvd.bl, List.getElem?_map, z]
      rfl
  subst this
  refine ⟨p, bs, rfl, SqL.of h2, ?_⟩
  rw [eb]
  exact q _ H2 _ c2 rfl r2 s2 hc2 (.b b)
/-- tuple([..]) -/
theorem ev_tupL {tl : TE} {PA : List PyD → Prop} (h : EvL M K tl Δ H n PA) : Ev M K (tCB (fun xs H Q => ∃ p ys, xs = [.ref p] ∧ ((SqL K H p ys ∧ ∀ l, H l = none → Q (.ref l) (L2.upd H l (.tup ys))) ∨ (SqT K H p ys ∧ Q (.ref p) H))) (tCons tl tNil)) Δ H n (fun d => ∃ ds, d = .t ds ∧ PA ds) := fun σ H1 c r1 e1 s1 hc Q q => by
  refine h σ H1 c r1 e1 s1 (by omega) _ fun p H2 vs ds c2 p2 hp0 h2 hd r2 s2 hc2 => ?_
  refine ⟨p, vs, rfl, .inl ⟨SqL.of h2, fun l hl => ?_⟩⟩
  have x3 := Exh.new (o := .tup vs) hl
  exact q _ _ (.t ds) c2 ⟨ds, rfl, p2⟩ (r2.trans x3.rf) (M.mono _ _ _ x3 s2) hc2 (.t (SqT.of upd_same) (hd.mono x3.tp))
theorem ed_tupL {tl : TE} {ds : List PyD} (h : ElD M K tl Δ H ds) : EvD M K (tCB (fun xs H Q => ∃ p ys, xs = [.ref p] ∧ ((SqL K H p ys ∧ ∀ l, H l = none → Q (.ref l) (L2.upd H l (.tup ys))) ∨ (SqT K H p ys ∧ Q (.ref p) H))) (tCons tl tNil)) Δ H (.t ds) := (ev_tupL h).imp fun _ ⟨_, e, p⟩ => by rw [e, p]
/-- a list returned -/
theorem s_retL {tl : TE} {PA : List PyD → Prop} {σ : L2.St} {c : Nat} {D : Ends} (h : EvL M K tl Δ H n PA) (e : EnvD K σ H Δ) (s : M.Rs H c) (hc : c + n ≤ CM) (k : ∀ p H' vs ds c', PA ds → H p = none → H' p = some (.lst vs) → Dts K H' vs ds → Rf M.F H H' → M.Rs H' c' → c' ≤ c + n → D.rt (.ref p) H') : tRet tl D σ H :=
  h σ H c (Rf.refl _) e s hc _ fun p H2 vs ds c' pa h0 h2 hd r2 s2 hc2 => k p H2 vs ds c' pa h0 h2 hd r2 s2 hc2
theorem rc_lenT {ds : List PyD} : RcD M K (fun xs H Q => ∃ p ys, xs = [.ref p] ∧ (SqL K H p ys ∨ SqT K H p ys) ∧ Q (.int ys.length) H) H [.t ds] (· = .i (ds.length : Int)) := fun xs H1 Q r hx0 q => by
  obtain ⟨x, rfl, hx⟩ := hx0.one'
  obtain ⟨a, vs, rfl, hs, hd⟩ := hx.tup
  refine ⟨a, vs, rfl, .inr hs, q _ H1 _ rfl (Exh.refl _) ?_⟩
  rw [hd.length]
  exact .i _
theorem rc_lenL {a : Addr} {vs : List V} (h : ∀ H1, Rf M.F H H1 → H1 a = some (.lst vs)) : RcD M K (fun xs H Q => ∃ p ys, xs = [.ref p] ∧ (SqL K H p ys ∨ SqT K H p ys) ∧ Q (.int ys.length) H) H [.r (.ref a)] (· = .i (vs.length : Int)) := fun xs H1 Q r hx0 q => by
  obtain ⟨x, rfl, hx⟩ := hx0.one'
  cases hx.raw
  exact ⟨a, vs, rfl, .inl (SqL.of (h H1 r)), q _ H1 _ rfl (Exh.refl _) (.i _)⟩
theorem rop_isN {x : V} (hx : ∀ H u, Dt K H u d → u = x) {k : Bool} (hk : decide (x = .non) = k) : RopD M K (fun x y H Q => y = .non ∧ Q (.bl (decide (x = .non))) H) H d .n (· = .b k) := fun u w H1 Q r h1 h2 q => by
  cases hx H1 u h1
  exact ⟨h2.non, q _ H1 _ rfl (Exh.refl _) (by rw [hk]; exact .b k)⟩
theorem rop_isNo {k : Bool} (hk : ∀ H u, Dt K H u d → decide (u = .non) = k) : RopD M K (fun x y H Q => y = .non ∧ Q (.bl (decide (x = .non))) H) H d .n (· = .b k) := fun u w H1 Q r h1 h2 q =>
  ⟨h2.non, q _ H1 _ rfl (Exh.refl _) (by rw [hk H1 u h1]; exact .b k)⟩
theorem rop_notNo {k : Bool} (hk : ∀ H u, Dt K H u d → (!decide (u = .non)) = k) : RopD M K (fun x y H Q => y = .non ∧ Q (.bl (!decide (x = .non))) H) H d .n (· = .b k) := fun u w H1 Q r h1 h2 q =>
  ⟨h2.non, q _ H1 _ rfl (Exh.refl _) (by rw [hk H1 u h1]; exact .b k)⟩
/-! kinds -/
theorem tyx_tup {a : Addr} {vs : List V} (h : SqT K H a vs) : TyX K H (.ref a) (.type "tuple") := by
  rcases h with (h | ⟨o, h⟩) | ⟨o, its, k, h1, h2, _⟩
  · exact .base (.tup h)
  · exact .fTuple h
  · exact .kTuple h1 h2
theorem rc_isi {x : PyD} {T C : String} {b : Bool} (ht : ∀ H1 v, Dt K H1 v x → TyX K H1 v (.type T)) (hb : kitB T C = some b) : RcD M K (rIsi K) H [x, .r (.ty C)] (· = .b b) := fun xs H1 Q r hx0 q => by
  obtain ⟨v, u, rfl, hx, hy⟩ := hx0.two'
  cases hy.raw
  exact ⟨v, .ty C, _, _, b, rfl, .ty C, ht H1 v hx, kit_ty hb, q _ H1 _ rfl (Exh.refl _) (.b b)⟩
/-! dicts of numbers -/
end
end K27
/-! Words for the readings. -/
namespace K27
open PySem PySem.Spec PyProof.Rows L2 KM
section
variable {M : Md} {K : PySem.W.Frag} {H H' : Hp} {Δ : List (Option PyD)} {te ta tb tj : TE} {d e f : PyD} {n m : Nat} {P P1 P2 : PyD → Prop} {a b i j : Int} {ds : List PyD}
theorem w_ix (h : EvD M K te Δ H (.t ds)) (hi : atI ds i = some d) : EvD M K (tOp (rIxT K) te (tC (.int i))) Δ H d := ed_op h ed_int (rop_ixT hi)
theorem w_ixv (h : EvD M K te Δ H (.t ds)) (hj : EvD M K tj Δ H (.i j)) (hi : atI ds j = some d) : EvD M K (tOp (rIxT K) te tj) Δ H d := ed_op h hj (rop_ixT hi)
theorem w_add (ha : EvD M K ta Δ H (.i a)) (hb : EvD M K tb Δ H (.i b)) : EvD M K (tOp oAdd ta tb) Δ H (.i (a + b)) := ed_op ha hb (rop_I0 fun _ _ => .i _)
theorem w_sub (ha : EvD M K ta Δ H (.i a)) (hb : EvD M K tb Δ H (.i b)) : EvD M K (tOp oSub ta tb) Δ H (.i (a - b)) := ed_op ha hb (rop_I0 fun _ _ => .i _)
theorem w_mul (ha : EvD M K ta Δ H (.i a)) (hb : EvD M K tb Δ H (.i b)) (hc : CMul a b) : EvD M K (tOp oMul ta tb) Δ H (.i (a * b)) := ed_op ha hb (rop_I hc fun _ _ => .i _)
theorem w_div (ha : EvD M K ta Δ H (.i a)) (hb : EvD M K tb Δ H (.i b)) (hc : CDiv a b) : EvD M K (tOp oDiv ta tb) Δ H (.i (a / b)) := ed_op ha hb (rop_I hc fun _ _ => .i _)
theorem w_mod (ha : EvD M K ta Δ H (.i a)) (hb : EvD M K tb Δ H (.i b)) (hc : 0 < b) : EvD M K (tOp oMod ta tb) Δ H (.i (a % b)) := ed_op ha hb (rop_I hc fun _ _ => .i _)
theorem w_lt (ha : EvD M K ta Δ H (.i a)) (hb : EvD M K tb Δ H (.i b)) : EvD M K (tOp oLt ta tb) Δ H (.b (decide (a < b))) := ed_op ha hb (rop_I0 fun _ _ => .b _)
theorem w_le (ha : EvD M K ta Δ H (.i a)) (hb : EvD M K tb Δ H (.i b)) : EvD M K (tOp oLe ta tb) Δ H (.b (decide (a ≤ b))) := ed_op ha hb (rop_I0 fun _ _ => .b _)
theorem w_gt (ha : EvD M K ta Δ H (.i a)) (hb : EvD M K tb Δ H (.i b)) : EvD M K (tOp oGt ta tb) Δ H (.b (decide (b < a))) := ed_op ha hb (rop_I0 fun _ _ => .b _)
theorem w_ge (ha : EvD M K ta Δ H (.i a)) (hb : EvD M K tb Δ H (.i b)) : EvD M K (tOp oGe ta tb) Δ H (.b (decide (b ≤ a))) := ed_op ha hb (rop_I0 fun _ _ => .b _)
theorem w_eqI (ha : EvD M K ta Δ H (.i a)) (hb : EvD M K tb Δ H (.i b)) : EvD M K (tOp rEq ta tb) Δ H (.b (decide (a = b))) := ed_op ha hb (rop_eq (fun _ _ h => h.int) (fun _ _ h => h.int) rfl (by simp))
theorem w_neI (ha : EvD M K ta Δ H (.i a)) (hb : EvD M K tb Δ H (.i b)) : EvD M K (tOp rNe ta tb) Δ H (.b (!decide (a = b))) := ed_op ha hb (rop_ne (fun _ _ h => h.int) (fun _ _ h => h.int) rfl (by simp))
theorem w_eqS {x y : PySem.Str} (ha : EvD M K ta Δ H (.s x)) (hb : EvD M K tb Δ H (.s y)) : EvD M K (tOp rEq ta tb) Δ H (.b (decide (x = y))) := ed_op ha hb (rop_eq (fun _ _ h => h.str) (fun _ _ h => h.str) rfl (by simp))
theorem w_neS {x y : PySem.Str} (ha : EvD M K ta Δ H (.s x)) (hb : EvD M K tb Δ H (.s y)) : EvD M K (tOp rNe ta tb) Δ H (.b (!decide (x = y))) := ed_op ha hb (rop_ne (fun _ _ h => h.str) (fun _ _ h => h.str) rfl (by simp))
theorem w_isT (ha : EvD M K ta Δ H .n) : EvD M K (tOp oIsN ta (tC .non)) Δ H (.b true) := ed_op ha ed_non (rop_isNo fun _ _ h => by rw [h.non]; rfl)
theorem w_notT (ha : EvD M K ta Δ H .n) : EvD M K (tOp oNotN ta (tC .non)) Δ H (.b false) := ed_op ha ed_non (rop_notNo fun _ _ h => by rw [h.non]; rfl)
theorem tup_nn {u : V} (h : Dt K H u (.t ds)) : decide (u = .non) = false := by
  obtain ⟨x, vs, rfl, _⟩ := h.tup
  rfl
theorem w_isF (ha : EvD M K ta Δ H (.t ds)) : EvD M K (tOp oIsN ta (tC .non)) Δ H (.b false) := ed_op ha ed_non (rop_isNo fun _ _ h => tup_nn h)
theorem w_notF (ha : EvD M K ta Δ H (.t ds)) : EvD M K (tOp oNotN ta (tC .non)) Δ H (.b true) := ed_op ha ed_non (rop_notNo fun _ _ h => by rw [tup_nn h]; rfl)
theorem w_isFI (ha : EvD M K ta Δ H (.i a)) : EvD M K (tOp oIsN ta (tC .non)) Δ H (.b false) := ed_op ha ed_non (rop_isNo fun _ _ h => by rw [h.int]; rfl)
theorem w_notFI (ha : EvD M K ta Δ H (.i a)) : EvD M K (tOp oNotN ta (tC .non)) Δ H (.b true) := ed_op ha ed_non (rop_notNo fun _ _ h => by rw [h.int]; rfl)
theorem w_len (h : EvD M K te Δ H (.t ds)) : EvD M K (tCB (bLen K) (tCons te tNil)) Δ H (.i (ds.length : Int)) := ed_cb (ea_cons h ea_nil) rc_lenT
theorem w_abs (h : EvD M K te Δ H (.i a)) : EvD M K (tCB bAbs (tCons te tNil)) Δ H (.i (a.natAbs : Int)) := ed_cb (ea_cons h ea_nil) fun xs H1 Q r hx q => by
  obtain ⟨x, rfl, hx1⟩ := hx.one'
  cases hx1.int
  refine ⟨a, rfl, q _ H1 _ rfl (Exh.refl _) ?_⟩
  have : (if a < 0 then -a else a) = (a.natAbs : Int) := by split <;> omega
  rw [this]
  exact .i _
theorem w_max (h : EvD M K ta Δ H (.i a)) (g : EvD M K tb Δ H (.i b)) : EvD M K (tCB bMax (tCons ta (tCons tb tNil))) Δ H (.i (max a b)) := ed_cb (ea_cons h (ea_cons g ea_nil)) fun xs H1 Q r hx q => by
  obtain ⟨x, y, rfl, hx1, hy1⟩ := hx.two'
  cases hx1.int
  cases hy1.int
  refine ⟨a, b, rfl, q _ H1 _ rfl (Exh.refl _) ?_⟩
  have : (if b > a then b else a) = max a b := by split <;> omega
  rw [this]
  exact .i _
theorem w_intB {k : Bool} (h : EvD M K te Δ H (.b k)) : EvD M K (tCB bInt (tCons te tNil)) Δ H (.i (if k then 1 else 0)) := ed_cb (ea_cons h ea_nil) fun xs H1 Q r hx q => by
  obtain ⟨x, rfl, hx1⟩ := hx.one'
  cases hx1.bl
  exact .inr ⟨k, rfl, q _ H1 _ rfl (Exh.refl _) (.i _)⟩
theorem w_neg (h : EvD M K te Δ H (.i a)) : EvD M K (tUn (rU fun i => .int (-i)) te) Δ H (.i (-a)) := ev_un h fun d x H1 Q e r hx q => by
  subst e
  cases hx.int
  exact ⟨a, rfl, q _ H1 _ rfl (Exh.refl _) (.i _)⟩
theorem w_isiT {T C : String} {k : Bool} (h : EvD M K te Δ H d) (ht : ∀ H1 v, Dt K H1 v d → TyX K H1 v (.type T)) (hb : kitB T C = some k) : EvD M K (tCB (rIsi K) (tCons te (tCons (tC (.ty C)) tNil))) Δ H (.b k) := ed_cb (ea_cons h (ea_cons (ed_c fun _ _ => .r _) ea_nil)) (rc_isi ht hb)
theorem ty_int {z : Int} : ∀ (H1 : Hp) v, Dt K H1 v (.i z) → TyX K H1 v (.type "int") := fun H1 v h => by rw [h.int]; exact .base (.int z)
theorem ty_tup : ∀ (H1 : Hp) v, Dt K H1 v (.t ds) → TyX K H1 v (.type "tuple") := fun H1 v h => by
  obtain ⟨x, vs, rfl, hs, _⟩ := h.tup
  exact tyx_tup hs
theorem w_const {a : Addr} (h : ∀ H, SqT K H a [.int 0, .int 1]) : EvD M K (tC (.ref a)) Δ H (fr 0) := ed_c fun H1 _ => .t (h H1) (.cons (.i _) (.one (.i _)))
/-- a chain 0 <= b < c -/
theorem w_chain {c : Int} {tc : TE} (ha : EvD M K ta Δ H (.i a)) (hb : EvD M K tb Δ H (.i b)) (hc : EvD M K tc Δ H (.i c)) : EvD M K (tChain oLe oLt ta tb tc) Δ H (.b (decide (a ≤ b) && decide (b < c))) := fun σ H1 c0 r1 e1 s1 hc0 Q q => by
  refine ha σ H1 c0 r1 e1 s1 (by omega) _ fun x H2 d c2 p2 r2 s2 hc2 hx => ?_
  refine hb σ H2 c2 (r1.trans r2) (e1.tp r2.tup) s2 (by omega) _ fun y H3 e c3 p3 r3 s3 hc3 hy => ?_
  subst p2 p3
  cases hx.int
  cases hy.int
  refine ⟨a, b, rfl, rfl, _, rfl, ?_⟩
  cases h : decide (a ≤ b) with
  | true =>
    refine iteT (hc σ H3 c3 ((r1.trans r2).trans r3) ((e1.tp r2.tup).tp r3.tup) s3 (by omega) _ fun z H4 u c4 p4 r4 s4 hc4 hz => ?_)
    subst p4
    cases hz.int
    exact ⟨b, c, rfl, rfl, q _ H4 _ c4 rfl ((r2.trans r3).trans r4) s4 (by omega) (by rw [h, Bool.true_and]; exact .b _)⟩
  | false => exact iteF (q _ H3 _ c3 rfl (r2.trans r3) s3 (by omega) (by rw [h]; exact .b false))
/-- e, f = .. as two slots -/
theorem s_par {i j : Nat} {ta : TA} {PA : List PyD → Prop} {σ : L2.St} {c : Nat} {D : Ends} (h : EvA M K ta Δ H n PA) (hp : ∀ ds, PA ds → ∃ d e, ds = [d, e]) (e : EnvD K σ H Δ) (s : M.Rs H c) (hc : c + n ≤ CM)
    (k : ∀ σ' H' d e c', PA [d, e] → Rf M.F H H' → EnvD K σ' H' ((Δ.set i (some d)).set j (some e)) → M.Rs H' c' → c' ≤ c + n → D.nx σ' H') : tPar i j ta D σ H :=
  h σ H c (Rf.refl _) e s hc _ fun vs H2 ds c' pa r2 s2 hc2 hd => by
    obtain ⟨d, e', rfl⟩ := hp ds pa
    obtain ⟨v, u, rfl, h1, h2⟩ := hd.two'
    exact ⟨v, u, rfl, k _ H2 d e' c' pa r2 (((e.tp r2.tup).set h1).set h2) s2 hc2⟩
theorem EnvD.st {N : List PySem.Str} {vs : List V} (h : Dts K H vs ds) (hl : Nat.ble ds.length N.length = true := by rfl) : EnvD K (L2.start N vs) H (ds.map some ++ List.replicate (N.length - ds.length) none) := EnvD.start h (by rw [h.length]; exact Nat.le_of_ble_eq_true hl)
theorem EvL.imp {PA PB : List PyD → Prop} (h : EvL M K te Δ H n PA) (k : ∀ ds, PA ds → PB ds) : EvL M K te Δ H n PB := fun σ H1 c r1 e1 s1 hc Q q => h σ H1 c r1 e1 s1 hc Q fun p H2 vs ds c' pa => q p H2 vs ds c' (k ds pa)
theorem nxt {D : Ends} {σ : L2.St} (h : D.nx σ H) : tNext D σ H := h
theorem Ret.le {Q : VK} (h : Ret K P H Q) (x : Exh H H') : Ret K P H' Q := fun v H2 d p x2 hv => h v H2 d p (x.trans x2) hv
theorem s_ret0 {σ : L2.St} {D : Ends} (h : Ev M0 K te Δ H 0 P) (e : EnvD K σ H Δ) (k : ∀ v H' d, P d → Exh H H' → Dt K H' v d → D.rt v H') : tRet te D σ H := s_ret (c := 0) h e trivial (by decide) fun v H' d c' p r2 hv _ _ => k v H' d p r2.ex hv
theorem s_asg0 {σ : L2.St} {D : Ends} {i : Nat} (h : Ev M0 K te Δ H 0 P) (e : EnvD K σ H Δ) (k : ∀ σ' H' d, P d → Exh H H' → EnvD K σ' H' (Δ.set i (some d)) → D.nx σ' H') : tAsg te (gName i) D σ H := s_asg (c := 0) h e trivial (by decide) fun σ' H' d c' p r2 e' _ _ => k σ' H' d p r2.ex e'
theorem s_asgT0 {σ : L2.St} {D : Ends} {is : List Nat} (h : EvD M0 K te Δ H (.t ds)) (hl : is.length = ds.length) (e : EnvD K σ H Δ) (k : ∀ σ' H', Exh H H' → EnvD K σ' H' (setN Δ is ds) → D.nx σ' H') : tAsg te (gTup K is.length (gNames is)) D σ H :=
  s_asgT (c := 0) (n := 0) (PA := (· = ds)) (Ev.imp (m := 0) h fun _ p => ⟨ds, p, rfl⟩) (fun _ p => by rw [p]; exact hl) e trivial (by decide) fun σ' H' ds' c' p r2 e' _ _ => k σ' H' r2.ex (p ▸ e')
theorem s_drop0 {σ : L2.St} {D : Ends} (h : Ev M0 K te Δ H 0 P) (e : EnvD K σ H Δ) (k : ∀ H' d, P d → Exh H H' → EnvD K σ H' Δ → D.nx σ H') : tDrop te D σ H := s_drop (c := 0) h e trivial (by decide) fun H' d c' p r2 e' _ _ => k H' d p r2.ex e'
theorem s_if0 {t : TT} {k : Bool} {σ : L2.St} {D : Ends} {tu tw : TS} (h : EtD M0 K t Δ H k) (e : EnvD K σ H Δ) (h1 : k = true → ∀ H', Exh H H' → EnvD K σ H' Δ → tu D σ H') (h2 : k = false → ∀ H', Exh H H' → EnvD K σ H' Δ → tw D σ H') : tIfS t tu tw D σ H :=
  s_if (c := 0) h e trivial (by decide) (fun p H' c' r2 e' _ _ => h1 p.symm H' r2.ex e') (fun p H' c' r2 e' _ _ => h2 p.symm H' r2.ex e')
theorem mul64l {x y : Int} (h0 : 0 ≤ x) (h1 : x ≤ 1000) : CMul x y := .inl ⟨by omega, by omega⟩
theorem mul64r {x y : Int} (h0 : 0 ≤ y) (h1 : y ≤ 1000) : CMul x y := .inr ⟨by omega, by omega⟩
theorem fdm (x y : Int) : CMul x (fd y) := mul64r (Int.le_of_lt (fd_pos y)) (by have := fd_le y; omega)
theorem fdl (x y : Int) : CMul (fd y) x := mul64l (Int.le_of_lt (fd_pos y)) (by have := fd_le y; omega)
theorem fdd (x : Int) {i : Int} : CDiv i (fd x) := ⟨fd_pos x, by have := fd_le x; omega⟩
theorem atI_nat {α : Type} {xs : List α} {k : Nat} {x : α} (h : xs[k]? = some x) : atI xs (k : Int) = some x := by
  have hk := (List.getElem?_eq_some_iff.mp h).1
  unfold atI ixN
  rw [if_pos (by omega), if_pos (by omega)]
  exact h
end
end K27
/-! The readings keep the promises: numbers and fractions. -/
namespace K27
open PySem PySem.Spec PyProof.Rows L2 KM
section
variable {K : PySem.W.Frag} {vs : List V} {H : Hp} {Q : VK} {E : XK}
theorem len_is_number (h : sp_is_number K vs H Q E) : vs.length = 1 := by
  obtain ⟨z, hd, _⟩ := h
  exact hd.length
theorem rd_is_number (kx : Kx K) (h : sp_is_number K vs H Q E) : t_is_number K { nx := fun _ H' => Q .non H', rt := Q } (start N_is_number vs) H := by
  obtain ⟨z, hd, q⟩ := h
  refine s_ret0 (P := (· = .b true)) ?_ (EnvD.st hd) q
  exact ed_andV (a := true) (b := true) (w_isiT (ed_var rfl) ty_int rfl) fun _ => ed_notV (a := false) (w_isiT (ed_var rfl) ty_int rfl)
theorem len_common_divisor (h : sp_common_divisor K vs H Q E) : vs.length = 2 := by
  obtain ⟨a, b, _, _, hd, _⟩ := h
  exact hd.length
theorem rd_common_divisor (kx : Kx K) (h : sp_common_divisor K vs H Q E) : t_common_divisor K { nx := fun _ H' => Q .non H', rt := Q } (start N_common_divisor vs) H := by
  obtain ⟨a, b, ha, hb, hd, q⟩ := h
  have e := EnvD.st (N := N_common_divisor) hd
  refine ⟨fun m σ H' => Exh H H' ∧ ∃ x y : Int, 0 ≤ x ∧ 0 ≤ y ∧ Nat.gcd x.toNat y.toNat = Nat.gcd a.toNat b.toNat ∧ m = y.toNat ∧ EnvD K σ H' [some (.i x), some (.i y)], ⟨b.toNat, Exh.refl _, a, b, ha, hb, rfl, rfl, e⟩, ?_⟩
  rintro m σ H' ⟨x0, x, y, hx, hy, hg, rfl, e'⟩
  have ht : EtD M0 K (tTest (tOp rNe (tVar 1) (tC (.int 0)))) [some (.i x), some (.i y)] H' (!decide (y = 0)) := et_test (w_neI (ed_var rfl) ed_int)
  refine ht σ H' 0 (Rf.refl _) e' trivial (by decide) _ fun b' H2 c2 p2 r2 _ _ => ?_
  subst p2
  by_cases c : y = 0
  · rw [decide_eq_true c]
    refine iteF ?_
    refine s_ret0 (P := (· = .i x)) (ed_var rfl) (e'.tp r2.tup) fun v H3 d p x3 hv => q v H3 _ ?_ ((x0.trans r2.ex).trans x3) hv
    subst c
    rw [p, ← hg]
    have : (Nat.gcd x.toNat (0 : Int).toNat : Int) = x := by
      show (Nat.gcd x.toNat 0 : Int) = x
      rw [Nat.gcd_zero_right]
      omega
    rw [this]
  · rw [decide_eq_false c]
    have hy' : 0 < y := by omega
    refine iteT ⟨fun σ' H3 => Exh H H3 ∧ EnvD K σ' H3 [some (.i y), some (.i (x % y))], fun σ' H3 ⟨x3, e3⟩ => ⟨(x % y).toNat, ?_, x3, y, x % y, hy, Int.emod_nonneg _ c, (gcd_turn hx hy').trans hg, rfl, e3⟩, ?_⟩
    · have := Int.emod_lt_of_pos x hy'
      omega
    · refine s_par (M := M0) (c := 0) (n := 0) (PA := (· = [.i y, .i (x % y)])) (ea_cons (ed_var rfl) (ea_cons (w_mod (ed_var rfl) (ed_var rfl) hy') ea_nil)) (fun ds p => ⟨_, _, p⟩) (e'.tp r2.tup) trivial (by decide) fun σ' H3 d e c' p r3 e3 _ _ => ⟨(x0.trans r2.ex).trans r3.ex, ?_⟩
      have p : [d, e] = [.i y, .i (x % y)] := p
      cases p
      exact e3
theorem len_ratio (h : sp_ratio K vs H Q E) : vs.length = 2 := by
  obtain ⟨a, b, z, _, _, _, hd, _⟩ := h
  exact hd.length
theorem rd_ratio (kx : Kx K) (h : sp_ratio K vs H Q E) : t_ratio K { nx := fun _ H' => Q .non H', rt := Q } (start N_ratio vs) H := by
  obtain ⟨a, b, z, h0, h1, hz, hd, q⟩ := h
  have e := EnvD.st (N := N_ratio) hd
  obtain ⟨q1, q2⟩ := ratio_eq h0 hz
  have gp : 0 < Nat.gcd a.natAbs b.natAbs := Nat.gcd_pos_of_pos_right _ (by omega)
  have gl : Nat.gcd a.natAbs b.natAbs ≤ b.natAbs := Nat.gcd_le_right _ (by omega)
  have cd : ∀ i : Int, CDiv i ((Nat.gcd a.natAbs b.natAbs : Nat) : Int) := fun i => ⟨by omega, by omega⟩
  refine s_asg0 (P := (· = .i ((Nat.gcd a.natAbs b.natAbs : Nat) : Int))) ?_ e fun σ1 H1 d1 p1 x1 e1 => ?_
  · refine ed_call (ea_cons (w_abs (ed_var rfl)) (ea_cons (w_abs (ed_var rfl)) ea_nil)) (CallD.of fun xs H1 Q E r hx q => ⟨(a.natAbs : Int), (b.natAbs : Int), by omega, by omega, hx, ?_⟩)
    rw [Int.toNat_natCast, Int.toNat_natCast]
    exact q
  subst p1
  refine s_if0 (k := false) ((et_test (w_lt (ed_var rfl) ed_int)).is (decide_eq_false (by omega))) e1 (fun z => by cases z) fun _ H2 x2 e2 => ?_
  dsimp only [tNext]
  refine s_ret0 (P := (· = fr z)) ?_ e2 ?_
  rotate_left
  · exact q.le (x1.trans x2)
  refine Ev.is (ed_tup (ea_cons (w_div (ed_var rfl) (ed_var rfl) (cd _)) (ea_cons (w_div (ed_var rfl) (ed_var rfl) (cd _)) ea_nil))) ?_
  rw [q1, q2]
  rfl
theorem len_added (h : sp_added K vs H Q E) : vs.length = 2 := by
  obtain ⟨x, y, hd, _⟩ := h
  exact hd.length
theorem rd_added (kx : Kx K) (h : sp_added K vs H Q E) : t_added K { nx := fun _ H' => Q .non H', rt := Q } (start N_added vs) H := by
  obtain ⟨x, y, hd, q⟩ := h
  refine s_ret0 (P := (· = fr (x + y))) ?_ (EnvD.st hd) q
  have b1 := fd_pos x
  have b2 := fd_pos y
  have b3 := fd_le x
  have b4 := fd_le y
  have b5 : fd x * fd y ≤ 120 * 120 := Int.mul_le_mul b3 b4 (by omega) (by omega)
  exact ed_call (ea_cons (w_add (w_mul (w_ix (ed_var rfl) rfl) (w_ix (ed_var rfl) rfl) (fdm _ _)) (w_mul (w_ix (ed_var rfl) rfl) (w_ix (ed_var rfl) rfl) (fdm _ _))) (ea_cons (w_mul (w_ix (ed_var rfl) rfl) (w_ix (ed_var rfl) rfl) (fdm _ _)) ea_nil))
    (CallD.of fun xs H1 Q E r hx q => ⟨_, _, x + y, Int.mul_pos b1 b2, by omega, add_eq x y, hx, q⟩)
theorem len_less (h : sp_less K vs H Q E) : vs.length = 2 := by
  obtain ⟨x, y, hd, _⟩ := h
  exact hd.length
theorem rd_less (kx : Kx K) (h : sp_less K vs H Q E) : t_less K { nx := fun _ H' => Q .non H', rt := Q } (start N_less vs) H := by
  obtain ⟨x, y, hd, q⟩ := h
  refine s_ret0 (P := (· = fr (x - y))) ?_ (EnvD.st hd) q
  have b1 := fd_pos x
  have b2 := fd_pos y
  have b3 := fd_le x
  have b4 := fd_le y
  have b5 : fd x * fd y ≤ 120 * 120 := Int.mul_le_mul b3 b4 (by omega) (by omega)
  exact ed_call (ea_cons (w_sub (w_mul (w_ix (ed_var rfl) rfl) (w_ix (ed_var rfl) rfl) (fdm _ _)) (w_mul (w_ix (ed_var rfl) rfl) (w_ix (ed_var rfl) rfl) (fdm _ _))) (ea_cons (w_mul (w_ix (ed_var rfl) rfl) (w_ix (ed_var rfl) rfl) (fdm _ _)) ea_nil))
    (CallD.of fun xs H1 Q E r hx q => ⟨_, _, x - y, Int.mul_pos b1 b2, by omega, sub_eq x y, hx, q⟩)
theorem len_parted (h : sp_parted K vs H Q E) : vs.length = 2 := by
  obtain ⟨x, y, z, _, _, _, hd, _⟩ := h
  exact hd.length
theorem rd_parted (kx : Kx K) (h : sp_parted K vs H Q E) : t_parted K { nx := fun _ H' => Q .non H', rt := Q } (start N_parted vs) H := by
  obtain ⟨x, y, z, y0, y1, hz, hd, q⟩ := h
  refine s_ret0 (P := (· = fr z)) ?_ (EnvD.st hd) q
  have b1 := fd_pos x
  have b2 := fn_pos y0
  have b3 := fd_le x
  have b4 := fn_le (Int.le_of_lt y0)
  have b5 : fd x * fn y ≤ 120 * 1000 := Int.mul_le_mul b3 (by omega) (by omega) (by omega)
  exact ed_call (ea_cons (w_mul (w_ix (ed_var rfl) rfl) (w_ix (ed_var rfl) rfl) (fdm _ _)) (ea_cons (w_mul (w_ix (ed_var rfl) rfl) (w_ix (ed_var rfl) rfl) (fdl _ _)) ea_nil))
    (CallD.of fun xs H1 Q E r hx q => ⟨_, _, z, Int.mul_pos b1 b2, by omega, part_eq hz, hx, q⟩)
theorem len_is_below (h : sp_is_below K vs H Q E) : vs.length = 2 := by
  obtain ⟨x, y, hd, _⟩ := h
  exact hd.length
theorem rd_is_below (kx : Kx K) (h : sp_is_below K vs H Q E) : t_is_below K { nx := fun _ H' => Q .non H', rt := Q } (start N_is_below vs) H := by
  obtain ⟨x, y, hd, q⟩ := h
  refine s_ret0 (P := (· = .b (decide (x < y)))) ?_ (EnvD.st hd) q
  refine Ev.is (w_lt (w_mul (w_ix (ed_var rfl) rfl) (w_ix (ed_var rfl) rfl) (fdm _ _)) (w_mul (w_ix (ed_var rfl) rfl) (w_ix (ed_var rfl) rfl) (fdm _ _))) ?_
  rw [decide_eq_decide.mpr (below_iff x y)]
theorem len_is_fraction (h : sp_is_fraction K vs H Q E) : vs.length = 1 := by
  obtain ⟨z, hd, _⟩ := h
  exact hd.length
theorem rd_is_fraction (kx : Kx K) (h : sp_is_fraction K vs H Q E) : t_is_fraction K { nx := fun _ H' => Q .non H', rt := Q } (start N_is_fraction vs) H := by
  obtain ⟨z, hd, q⟩ := h
  have e := EnvD.st (N := N_is_fraction) hd
  refine s_if0 (k := false) ?_ e (fun z => by cases z) fun _ H1 x1 e1 => ?_
  · refine et_or (a := false) (b := false) (et_not (a := true) (et_B (w_isiT (ed_var rfl) ty_tup rfl))) fun _ => et_or (a := false) (b := false) ((et_test (w_neI (w_len (ed_var rfl)) ed_int)).is rfl) fun _ => et_not (a := true) (et_B ?_)
    refine ev_all (EvL.imp (PB := fun es => es = [.b true, .b true]) (el_lcA (f := fun _ => PyD.b true) (it_tupD (ed_var rfl)) (fun _ _ _ r => r.tup) (Nat.le_of_ble_eq_true rfl) (fun d hdd => ⟨_, tg_name (by decide), ed_call (ea_cons (ed_var rfl) ea_nil) (CallD.of fun xs H1 Q E r hx q => ?_)⟩)) fun _ e => e) (fun ds p => ⟨[true, true], p, rfl⟩)
    have hdd : d = .i (fn z) ∨ d = .i (fd z) := by
      rcases List.mem_cons.mp hdd with h | h
      · exact .inl h
      · exact .inr (List.mem_singleton.mp h)
    rcases hdd with rfl | rfl
    · exact ⟨_, hx, q⟩
    · exact ⟨_, hx, q⟩
  dsimp only [tNext]
  refine s_ret0 (P := (· = .b true)) ?_ e1 ?_
  rotate_left
  · exact q.le x1
  have b1 := fd_pos z
  have b2 := fr_cop z
  refine Ev.is (ed_andV (w_gt (w_ix (ed_var rfl) rfl) ed_int) fun _ => w_eqI (a := 1) (ed_call (ea_cons (w_abs (w_ix (ed_var rfl) rfl)) (ea_cons (w_ix (ed_var rfl) rfl) ea_nil)) (CallD.of fun xs H1 Q E r hx q => ⟨((fn z).natAbs : Int), fd z, by omega, by omega, hx, ?_⟩)) ed_int) ?_
  · have : (fd z).toNat = (fd z).natAbs := by omega
    rw [Int.toNat_natCast, this, b2]
    exact q
  · rw [decide_eq_true b1]
    rfl
end
end K27
/-! Lists and dicts that are being made. -/
namespace K27
open PySem PySem.Spec PyProof.Rows L2 KM
/-- a list at l that was made behind H0 -/
structure Bld (M : Md) (K : PySem.W.Frag) (H0 H : Hp) (l : Addr) (ds : List PyD) : Prop where
  fr : H0 l = none
  rf : Rf M.F H0 H
  at_ : ∃ vs, H l = some (.lst vs) ∧ Dts K H vs ds
  nf : ¬ M.F l
  s0 : ∃ c, M.Rs H0 c
section
variable {M : Md} {K : PySem.W.Frag} {H0 H H' : Hp} {Δ : List (Option PyD)} {te ta tb tj td ty tv : TE} {d e f : PyD} {n m : Nat} {P P1 P2 : PyD → Prop} {ds : List PyD} {l : Addr} {σ : L2.St} {c : Nat} {D : Ends}
theorem Bld.start {p : Addr} {vs : List V} (h0 : H p = none) (h : H' p = some (.lst vs)) (hd : Dts K H' vs ds) (r : Rf M.F H H') (s : M.Rs H c) : Bld M K H H' p ds := ⟨h0, r, ⟨vs, h, hd⟩, fun f => absurd h0 (M.live _ _ _ f s), ⟨c, s⟩⟩
theorem Bld.on (b : Bld M K H0 H l ds) (r : Rf M.F H H') : Bld M K H0 H' l ds := by
  obtain ⟨vs, h1, h2⟩ := b.at_
  exact ⟨b.fr, b.rf.trans r, ⟨vs, r.keep _ _ b.nf h1, h2.mono r.tup⟩, b.nf, b.s0⟩
/-- behind an older heap -/
theorem Bld.back {Hb : Hp} (b : Bld M K H0 H l ds) (r : Rf M.F Hb H0) (h : Hb l = none) (s : ∃ c, M.Rs Hb c) : Bld M K Hb H l ds := ⟨h, r.trans b.rf, b.at_, b.nf, s⟩
theorem Bld.set (b : Bld M K H0 H l ds) {vs : List V} {es : List PyD} (hd : Dts K H vs es) : Bld M K H0 (upd H l (.lst vs)) l es := by
  obtain ⟨us, h1, h2⟩ := b.at_
  refine ⟨b.fr, ⟨fun a o f h => ?_, b.rf.tup.trans (Tp.updL h1)⟩, ⟨vs, upd_same, hd.mono (Tp.updL h1)⟩, b.nf, b.s0⟩
  rw [upd_ne (ne_of_none h b.fr)]
  exact b.rf.keep a o f h
theorem Bld.env (b : Bld M K H0 H l ds) {o : HO} (e : EnvD K σ H Δ) : EnvD K σ (upd H l o) Δ := by
  obtain ⟨us, h1, h2⟩ := b.at_
  exact e.tp (Tp.updL h1)
theorem Bld.rs (b : Bld M K H0 H l ds) {o : HO} (s : M.Rs H c) : M.Rs (upd H l o) c := by
  obtain ⟨c0, s0⟩ := b.s0
  exact M.fresh _ _ _ _ _ _ s0 b.fr s
/-- another address changes -/
theorem Bld.other {q : Addr} {o : HO} (b : Bld M K H0 H l ds) (hq : H0 q = none) (ne : q ≠ l) (t : Tp H (upd H q o)) : Bld M K H0 (upd H q o) l ds := by
  obtain ⟨us, h1, h2⟩ := b.at_
  refine ⟨b.fr, ⟨fun a o f h => ?_, b.rf.tup.trans t⟩, ⟨us, ?_, h2.mono t⟩, b.nf, b.s0⟩
  · rw [upd_ne (ne_of_none h hq)]
    exact b.rf.keep a o f h
  · rw [upd_ne fun z => ne z.symm]
    exact h1
theorem s_appB (b : Bld M K H0 H l ds) (ho : EvD M K ta Δ H (.r (.ref l))) (h : Ev M K te Δ H n P) (hz : ds.length < 100000) (e : EnvD K σ H Δ) (s : M.Rs H c) (hc : c + n ≤ CM)
    (k : ∀ H1 H' d v c', P d → Rf M.F H H1 → Dt K H1 v d → (∃ vs, H1 l = some (.lst vs) ∧ H' = upd H1 l (.lst (vs ++ [v]))) → Bld M K H0 H' l (ds ++ [d]) → EnvD K σ H' Δ → M.Rs H' c' → c' ≤ c + n → D.nx σ H') : tDrop (tBM K "list" rAppend ta (tCons te tNil)) D σ H := by
  obtain ⟨vs, h1, h2⟩ := b.at_
  refine s_app (ds := ds) h1 b.nf ho h (by rw [h2.length]; exact hz) e s hc fun H1 v d c' p r e1 s1 hc1 hv hl => ?_
  have b1 := b.on r
  exact k H1 _ d v c' p r hv ⟨vs, hl, rfl⟩ (b1.set ((h2.mono r.tup).snoc hv)) (b1.env e1) (b1.rs s1) hc1
theorem s_extB {tl : TE} {PA : List PyD → Prop} (b : Bld M K H0 H l ds) (ho : EvD M K ta Δ H (.r (.ref l))) (h : EvL M K tl Δ H n PA) (hz : ∀ es, PA es → ds.length + es.length ≤ 100000) (e : EnvD K σ H Δ) (s : M.Rs H c) (hc : c + n ≤ CM)
    (k : ∀ H' es c', PA es → Bld M K H0 H' l (ds ++ es) → EnvD K σ H' Δ → M.Rs H' c' → c' ≤ c + n → D.nx σ H') : tDrop (tBM K "list" rExtend ta (tCons tl tNil)) D σ H := by
  obtain ⟨vs, h1, h2⟩ := b.at_
  refine ho σ H c (Rf.refl _) e s (by omega) _ fun x H2 d c' p r2 s2 hc2 hd => ?_
  rw [p] at hd
  cases hd.raw
  have l2 := r2.keep _ _ b.nf h1
  refine ⟨.inl ⟨rfl, _, SqL.of l2⟩, ?_⟩
  refine h σ H2 c' r2 (e.tp r2.tup) s2 (by omega) _ fun q H3 us es c3 p3 hq h3 hes r3 s3 hc3 => ?_
  have l3 := r3.keep _ _ b.nf l2
  have b3 := (b.on r2).on r3
  have hlen := hz es p3
  refine ⟨l, q, vs, us, rfl, rfl, l3, h3, Nat.le_trans (by rw [h2.length, hes.length]; exact hlen) (by decide), ?_⟩
  exact k _ es c3 p3 (b3.set (((h2.mono r2.tup).mono r3.tup).append hes)) (b3.env ((e.tp r2.tup).tp r3.tup)) (b3.rs s3) (by omega)
theorem s_asgB {i : Nat} (h : ElD M K te Δ H ds) (e : EnvD K σ H Δ) (s : M.Rs H c) (hc : c ≤ CM) (k : ∀ σ' H' p c', Bld M K H H' p ds → EnvD K σ' H' (Δ.set i (some (.r (.ref p)))) → M.Rs H' c' → c' ≤ c → D.nx σ' H') : tAsg te (gName i) D σ H :=
  s_asgL h e s hc fun σ' H' p vs ds' c' pa h0 h1 hd r e' s' hc' => k σ' H' p c' (Bld.start h0 h1 (by rw [← pa]; exact hd) r s) e' s' hc'
/-- what is behind two roads, proved once -/
theorem join {t : TS} (I : L2.St → Hp → Prop) (rest : ∀ σ' H', I σ' H' → D.nx σ' H') (h : (∀ σ' H', I σ' H' → D.nx σ' H') → t D σ H) : t D σ H := h rest
theorem sq {t u : TS} (h : t { D with nx := u D } σ H) : tSeq t u D σ H := h
theorem Bld.ex (b : Bld M0 K H0 H l ds) : Exh H0 H := b.rf.ex
theorem Bld.onX (b : Bld M0 K H0 H l ds) (x : Exh H H') : Bld M0 K H0 H' l ds := b.on x.rf
theorem Bld.backX {Hb : Hp} (b : Bld M0 K H0 H l ds) (x : Exh Hb H0) : Bld M0 K Hb H l ds := b.back x.rf (x.free b.fr) ⟨0, trivial⟩
theorem s_retB {i : Nat} {PA : List PyD → Prop} {Q : VK} (b : Bld M0 K H0 H l ds) (hv : Δ[i]? = some (some (.r (.ref l)))) (e : EnvD K σ H Δ) (p : PA ds) (hq : RetL K PA H0 Q) (hD : D.rt = Q) : tRet (tVar i) D σ H := by
  refine s_ret0 (P := (· = .r (.ref l))) (ed_var hv) e fun v H' d pd x hd => ?_
  subst pd
  cases hd.raw
  obtain ⟨vs, h1, h2⟩ := b.at_
  rw [hD]
  exact hq l H' vs ds p b.fr (b.ex.trans x) (x _ _ h1) (h2.mono x.tp)
/-! dicts -/
def DkF (K : PySem.W.Frag) (H : Hp) (kvs : List (Key × V)) (F : Key → Option PyD) : Prop := (kvs.map (·.1)).Nodup ∧ ∀ k, (F k = none → valV kvs k = none) ∧ ∀ d, F k = some d → ∃ v, valV kvs k = some v ∧ Dt K H v d
theorem DkF.mono {kvs : List (Key × V)} {F : Key → Option PyD} (h : DkF K H kvs F) (t : Tp H H') : DkF K H' kvs F := ⟨h.1, fun k => ⟨(h.2 k).1, fun d q => by
  obtain ⟨v, h1, h2⟩ := (h.2 k).2 d q
  exact ⟨v, h1, h2.mono t⟩⟩⟩
theorem keys_put {kvs : List (Key × V)} {k : Key} {v : V} (h : (kvs.map (·.1)).Nodup) : ((putK kvs k v).map (·.1)).Nodup := by
  cases c : valV kvs k with
  | none => exact nd_putK v h c
  | some x =>
    have : (putK kvs k v).map (·.1) = kvs.map (·.1) := by
      unfold putK
      rw [valV_any, c]
      rw [if_pos (show (some x).isSome = true from rfl), List.map_map]
      refine List.map_congr_left fun p _ => ?_
      show (if p.1 = k then (p.1, v) else p).1 = p.1
      split <;> rfl
    rw [this]
    exact h
theorem DkF.put {kvs : List (Key × V)} {F : Key → Option PyD} {k : Key} {v : V} (h : DkF K H kvs F) (hv : Dt K H v d) : DkF K H (putK kvs k v) (ptN F k (some d)) := by
  refine ⟨keys_put h.1, fun j => ?_⟩
  rw [valV_put]
  unfold ptN
  by_cases c : j = k
  · rw [if_pos c, if_pos c]
    exact ⟨fun z => (by cases z), fun d' z => by cases z; exact ⟨v, rfl, hv⟩⟩
  · rw [if_neg c, if_neg c]
    exact h.2 j
def EvK (M : Md) (K : PySem.W.Frag) (te : TE) (Δ : List (Option PyD)) (H : Hp) (n : Nat) (P : (Key → Option PyD) → Prop) : Prop := ∀ (σ : L2.St) (H1 : Hp) (c : Nat), Rf M.F H H1 → EnvD K σ H1 Δ → M.Rs H1 c → c + n ≤ CM →
  ∀ Q : VK, (∀ p H2 kvs F c', P F → H1 p = none → H2 p = some (.dK kvs) → DkF K H2 kvs F → kvs.length ≤ 1000 → Rf M.F H1 H2 → M.Rs H2 c' → c' ≤ c + n → Q (.ref p) H2) → te σ H1 Q
def keyD : Key → PyD
  | .inl i => .i i
  | .inr x => .s x
theorem Dt.key {k : Key} {v : V} (h : Dt K H v (keyD k)) : v = kV k := by
  cases k with
  | inl i => exact h.int
  | inr x => exact h.str
def foldF (kf : PyD → Key) (vf : PyD → PyD) (ds : List PyD) : Key → Option PyD := ds.foldl (fun F d => ptN F (kf d) (some (vf d))) fun _ => none
theorem foldF_snoc {kf : PyD → Key} {vf : PyD → PyD} {ds : List PyD} {d : PyD} : foldF kf vf (ds ++ [d]) = ptN (foldF kf vf ds) (kf d) (some (vf d)) := by
  unfold foldF
  rw [List.foldl_append]
  rfl
theorem ek_dc {wi : TI} {g : TG} {tk tv : TE} {vs : List Nat} {ds : List PyD} {G : Hp → Hp → Prop} {kf : PyD → Key} {vf : PyD → PyD} (hi : ItD M K wi Δ H n (· = ds) G) (hG : ∀ H2 H3, Rf M.F H H2 → Rf M.F H2 H3 → G H2 H3) (hl : ds.length ≤ 1000)
    (step : ∀ d ∈ ds, ∃ Δ', TgD K g vs (wipeD Δ vs) d Δ' ∧ EvD M K tk Δ' H (keyD (kf d)) ∧ EvD M K tv Δ' H (vf d)) : EvK M K (tDc wi g tYes tk tv vs) Δ H n (· = foldF kf vf ds) := fun σ H1 c r1 e1 s1 hc Q q => by
  refine hi σ H1 c r1 e1 s1 hc _ fun J H2 ds' c2 pa jd r2 s2 hc2 => ?_
  subst pa
  intro D hD
  have e2 := e1.tp r2.tup
  have r12 := r1.trans r2
  have nF : ¬ M.F D := fun f => absurd hD (M.live _ _ _ f s2)
  have nF1 : H1 D = none := by
    cases z : H1 D with
    | none => rfl
    | some o =>
      rw [r2.keep _ _ nF z] at hD
      cases hD
  refine ⟨fun i m H' => m = ds'.length - i ∧ i ≤ ds'.length ∧ Rf M.F H2 H' ∧ (∃ c', c' ≤ c2 ∧ M.Rs H' c') ∧ ∃ kvs, H' D = some (.dK kvs) ∧ DkF K H' kvs (foldF kf vf (ds'.take i)) ∧ kvs.length ≤ i,
    ⟨ds'.length, by simp, Nat.zero_le _, (Exh.new hD).rf, ⟨c2, Nat.le_refl _, M.mono _ _ _ (Exh.new hD) s2⟩, [], upd_same, ⟨List.nodup_nil, fun k => ⟨fun _ => rfl, fun d z => by cases z⟩⟩, Nat.le_refl _⟩, ?_⟩
  rintro i m H3 ⟨rfl, hi, r3, ⟨c3, hc3, s3⟩, kvs, hkv, hf, hkl⟩
  have g3 := hG H2 H3 r12 r3
  by_cases hlt : i < ds'.length
  · refine .inr ⟨jd.go i H3 hlt g3, _, fun H' p' => ⟨ds'.length - (i + 1), by omega, rfl, hlt, p'⟩, fun x H4 y => ?_⟩
    have hd : ds'[i]? = some ds'[i] := List.getElem?_eq_getElem hlt
    obtain ⟨x4, hx⟩ := jd.yld i H3 x H4 _ g3 hd y
    have r4 : Rf M.F H2 H4 := r3.trans x4.rf
    have s4 := M.mono _ _ _ x4 s3
    obtain ⟨Δ', tg, h1, h2⟩ := step ds'[i] (List.getElem_mem hlt)
    refine tg x (L2.wipe σ vs) σ H4 _ hx ((e2.tp r4.tup).wipe vs) (Wp.start σ vs) fun σ' e' w' => ⟨w', ?_⟩
    dsimp only [tYes]
    rw [if_pos rfl]
    refine h1 σ' H4 c3 (r12.trans r4) e' s4 (by omega) _ fun y5 H5 d5 c5 p5 r5 s5 hc5 hy => ?_
    refine h2 σ' H5 c5 ((r12.trans r4).trans r5) (e'.tp r5.tup) s5 (by omega) _ fun y6 H6 d6 c6 p6 r6 s6 hc6 hy6 => ?_
    subst p5 p6
    have hD6 : H6 D = some (.dK kvs) := r6.keep _ _ nF (r5.keep _ _ nF (x4 _ _ hkv))
    have t6 : Tp H3 H6 := (x4.tp.trans r5.tup).trans r6.tup
    have tu : Tp H6 (upd H6 D (.dK (putK kvs (kf ds'[i]) y6))) := Tp.updK hD6
    refine ⟨kvs, kf ds'[i], hy.key, hD6, small1000 (by omega), ⟨fun a o f h => ?_, ((r4.trans r5).trans r6).tup.trans tu⟩, ⟨c6, by omega, M.fresh _ _ _ _ _ _ s2 hD s6⟩, _, upd_same, ?_, ?_⟩
    · rw [upd_ne (ne_of_none h hD)]
      exact ((r4.trans r5).trans r6).keep a o f h
    · rw [take_snoc hd, foldF_snoc]
      exact ((hf.mono t6).put hy6).mono tu
    · have := length_putK kvs (kf ds'[i]) y6
      omega
  · have e : i = ds'.length := by omega
    subst e
    rw [List.take_length] at hf
    exact .inl ⟨jd.stop H3 g3, q D H3 kvs _ c3 rfl nF1 hkv hf (by omega) (r2.trans r3) s3 (by omega)⟩
/-! dicts whose keys are numbers -/
theorem DicI.mono {a : Addr} {k : Nat} {g : Nat → Option PyD} {kvs : List (Key × V)} (h : DicI K H a k g kvs) (t : Tp H H') (ha : H' a = some (.dK kvs)) : DicI K H' a k g kvs := ⟨ha, h.nd, h.lt, h.no, fun j d q => by
  obtain ⟨v, h1, h2⟩ := h.yes j d q
  exact ⟨v, h1, h2.mono t⟩⟩
theorem keys_lt : ∀ {k : Nat} {l : List Key}, l.Nodup → (∀ p ∈ l, ∃ i, i < k ∧ p = .inl ((i : Nat) : Int)) → l.length ≤ k
  | 0, [], _, _ => Nat.le_refl _
  | 0, p :: _, _, h => by
    obtain ⟨i, hi, _⟩ := h p (List.mem_cons_self ..)
    omega
  | k + 1, l, nd, h => by
    have ih := keys_lt (k := k) (l := l.filter fun p => decide (p ≠ .inl ((k : Nat) : Int))) (nd.filter _) fun p hp => by
      obtain ⟨h1, h2⟩ := List.mem_filter.mp hp
      obtain ⟨i, hi, e⟩ := h p h1
      refine ⟨i, ?_, e⟩
      have : i ≠ k := fun z => by
        subst z
        exact absurd e (of_decide_eq_true h2)
      omega
    have : l.length ≤ (l.filter fun p => decide (p ≠ .inl ((k : Nat) : Int))).length + 1 := by
      clear ih h
      induction l with
      | nil => exact Nat.zero_le _
      | cons p r ih =>
        obtain ⟨n1, n2⟩ := List.nodup_cons.mp nd
        by_cases c : p = .inl ((k : Nat) : Int)
        · rw [List.filter_cons_of_neg (by simp [c])]
          have : r.filter (fun p => decide (p ≠ .inl ((k : Nat) : Int))) = r := List.filter_eq_self.mpr fun x hx => by
            refine decide_eq_true fun z => n1 ?_
            rw [c, ← z]
            exact hx
          rw [this]
          exact Nat.le_refl _
        · rw [List.filter_cons_of_pos (by simpa using c)]
          have := ih n2
          simp only [List.length_cons]
          omega
    omega
theorem DicI.size {a : Addr} {k : Nat} {g : Nat → Option PyD} {kvs : List (Key × V)} (h : DicI K H a k g kvs) : kvs.length ≤ k := by
  have := keys_lt h.nd fun p hp => by
    obtain ⟨q, hq, e⟩ := List.mem_map.mp hp
    obtain ⟨i, hi, e2⟩ := h.lt q hq
    exact ⟨i, hi, e ▸ e2⟩
  rw [List.length_map] at this
  exact this
theorem putK_mem {kvs : List (Key × V)} {k : Key} {v : V} {p : Key × V} (h : p ∈ putK kvs k v) : p.1 = k ∨ ∃ q ∈ kvs, p.1 = q.1 := by
  unfold putK at h
  split at h
  · obtain ⟨q, hq, e⟩ := List.mem_map.mp h
    refine .inr ⟨q, hq, ?_⟩
    rw [← e]
    split <;> rfl
  · rcases List.mem_append.mp h with h | h
    · exact .inr ⟨p, h, rfl⟩
    · exact .inl (by rw [List.mem_singleton.mp h])
theorem DicI.put {a : Addr} {k i : Nat} {g : Nat → Option PyD} {kvs : List (Key × V)} {v : V} (h : DicI K H a k g kvs) (hi : i < k) (hv : Dt K H v d) : DicI K (upd H a (.dK (putK kvs (.inl (i : Int)) v))) a k (ptN g i (some d)) (putK kvs (.inl (i : Int)) v) := by
  have t : Tp H (upd H a (.dK (putK kvs (.inl (i : Int)) v))) := Tp.updK h.at_
  have key : ∀ j : Nat, ((Sum.inl (j : Int) : Key) = .inl (i : Int)) ↔ j = i := fun j => ⟨fun z => by
    injection z with z
    omega, fun z => by rw [z]⟩
  refine ⟨upd_same, keys_put h.nd, fun p hp => ?_, fun j q => ?_, fun j d' q => ?_⟩
  · rcases putK_mem hp with e | ⟨q, hq, e⟩
    · exact ⟨i, hi, e⟩
    · obtain ⟨j, hj, e2⟩ := h.lt q hq
      exact ⟨j, hj, e.trans e2⟩
  · rw [valV_put]
    unfold ptN at q
    by_cases c : j = i
    · rw [if_pos c] at q
      cases q
    · rw [if_neg c] at q
      rw [if_neg fun z => c ((key j).mp z)]
      exact h.no j q
  · rw [valV_put]
    unfold ptN at q
    by_cases c : j = i
    · rw [if_pos c] at q
      cases q
      rw [if_pos ((key j).mpr c)]
      exact ⟨v, rfl, hv.mono t⟩
    · rw [if_neg c] at q
      rw [if_neg fun z => c ((key j).mp z)]
      obtain ⟨u, h1, h2⟩ := h.yes j d' q
      exact ⟨u, h1, h2.mono t⟩
theorem DicI.empty {a : Addr} {k : Nat} (h : H a = some (.dK [])) : DicI K H a k (fun _ => none) [] := ⟨h, List.nodup_nil, fun p hp => (by cases hp), fun _ _ => rfl, fun _ _ q => by cases q⟩
theorem DicI.get {a : Addr} {k i : Nat} {g : Nat → Option PyD} {kvs : List (Key × V)} (h : DicI K H a k g kvs) : DGet H a (.int (i : Int)) (valV kvs (.inl (i : Int))) := DGet.k (k := .inl (i : Int)) h.at_
theorem DicI.some_iff {a : Addr} {k i : Nat} {g : Nat → Option PyD} {kvs : List (Key × V)} (h : DicI K H a k g kvs) : (valV kvs (.inl (i : Int))).isSome = (g i).isSome := by
  cases q : g i with
  | none => rw [h.no i q]; rfl
  | some d =>
    obtain ⟨v, h1, _⟩ := h.yes i d q
    rw [h1]
    rfl
/-- d[k] -/
theorem w_dget {a : Addr} {k i : Nat} {g : Nat → Option PyD} {kvs : List (Key × V)} (h : DicI K H a k g kvs) (nf : ¬ M.F a) (hd : EvD M K td Δ H (.r (.ref a))) (hy : EvD M K ty Δ H (dInt i)) (hg : g i = some d) : EvD M K (tDGet td ty) Δ H d := fun σ H1 c r1 e1 s1 hc Q q => by
  refine hd σ H1 c r1 e1 s1 (by omega) _ fun x H2 u c2 p2 r2 s2 hc2 hx => ?_
  refine hy σ H2 c2 (r1.trans r2) (e1.tp r2.tup) s2 (by omega) _ fun y H3 e c3 p3 r3 s3 hc3 hy => ?_
  subst p2 p3
  cases hx.raw
  cases hy.int
  have r := (r1.trans r2).trans r3
  have h' := h.mono r.tup (r.keep _ _ nf h.at_)
  obtain ⟨v, h1, h2⟩ := h'.yes i d hg
  exact ⟨a, v, rfl, by rw [← h1]; exact h'.get, q v H3 _ c3 rfl (r2.trans r3) s3 (by omega) h2⟩
theorem w_din {a : Addr} {k i : Nat} {g : Nat → Option PyD} {kvs : List (Key × V)} (h : DicI K H a k g kvs) (nf : ¬ M.F a) (hd : EvD M K td Δ H (.r (.ref a))) (hy : EvD M K ty Δ H (dInt i)) : EvD M K (tDIn ty td) Δ H (.b (g i).isSome) := fun σ H1 c r1 e1 s1 hc Q q => by
  refine hy σ H1 c r1 e1 s1 (by omega) _ fun y H2 u c2 p2 r2 s2 hc2 hy => ?_
  refine hd σ H2 c2 (r1.trans r2) (e1.tp r2.tup) s2 (by omega) _ fun x H3 e c3 p3 r3 s3 hc3 hx => ?_
  subst p2 p3
  cases hx.raw
  cases hy.int
  have r := (r1.trans r2).trans r3
  have h' := h.mono r.tup (r.keep _ _ nf h.at_)
  exact ⟨a, _, rfl, h'.get, q _ H3 _ c3 rfl (r2.trans r3) s3 (by omega) (by rw [h'.some_iff]; exact .b _)⟩
theorem w_dnin {a : Addr} {k i : Nat} {g : Nat → Option PyD} {kvs : List (Key × V)} (h : DicI K H a k g kvs) (nf : ¬ M.F a) (hd : EvD M K td Δ H (.r (.ref a))) (hy : EvD M K ty Δ H (dInt i)) : EvD M K (tDNotIn ty td) Δ H (.b (!(g i).isSome)) := fun σ H1 c r1 e1 s1 hc Q q => by
  refine hy σ H1 c r1 e1 s1 (by omega) _ fun y H2 u c2 p2 r2 s2 hc2 hy => ?_
  refine hd σ H2 c2 (r1.trans r2) (e1.tp r2.tup) s2 (by omega) _ fun x H3 e c3 p3 r3 s3 hc3 hx => ?_
  subst p2 p3
  cases hx.raw
  cases hy.int
  have r := (r1.trans r2).trans r3
  have h' := h.mono r.tup (r.keep _ _ nf h.at_)
  exact ⟨a, _, rfl, h'.get, q _ H3 _ c3 rfl (r2.trans r3) s3 (by omega) (by rw [h'.some_iff]; exact .b _)⟩
/-- d[k] = v -/
theorem s_dput {a : Addr} {k i : Nat} {g : Nat → Option PyD} {kvs : List (Key × V)} (h : DicI K H a k g kvs) (nf : ¬ M.F a) (hd : EvD M K td Δ H (.r (.ref a))) (hy : EvD M K ty Δ H (dInt i)) (hv : Ev M K tv Δ H n P) (hi : i < k) (hk : k ≤ 1000) (e : EnvD K σ H Δ) (s : M.Rs H c) (hc : c + n ≤ CM)
    (kk : ∀ H1 H' d v c', P d → Rf M.F H H1 → Dt K H1 v d → H1 a = some (.dK kvs) → H' = upd H1 a (.dK (putK kvs (.inl (i : Int)) v)) → DicI K H' a k (ptN g i (some d)) (putK kvs (.inl (i : Int)) v) → EnvD K σ H' Δ → M.Rs H1 c' → c' ≤ c + n → D.nx σ H') : sDPut td ty tv D σ H := by
  refine hv σ H c (Rf.refl _) e s (by omega) _ fun v H1 d c1 p1 r1 s1 hc1 hv => ?_
  refine hd σ H1 c1 r1 (e.tp r1.tup) s1 (by omega) _ fun x H2 u c2 p2 r2 s2 hc2 hx => ?_
  refine hy σ H2 c2 (r1.trans r2) ((e.tp r1.tup).tp r2.tup) s2 (by omega) _ fun y H3 w c3 p3 r3 s3 hc3 hy => ?_
  subst p2 p3
  cases hx.raw
  cases hy.int
  have r := (r1.trans r2).trans r3
  have h' := h.mono r.tup (r.keep _ _ nf h.at_)
  have hv' : Dt K H3 v d := hv.mono (r2.trans r3).tup
  have hs := h'.size
  refine ⟨a, _, rfl, DPut.k (k := .inl (i : Int)) h'.at_ (small1000 (by omega)), ?_⟩
  exact kk H3 _ d v c3 p1 r hv' h'.at_ rfl (h'.put hi hv') ((e.tp r.tup).tp (Tp.updK h'.at_)) s3 (by omega)
/-- an attribute of an instance -/
theorem w_fld {p C dx : Addr} {fs : List (PySem.Str × V)} {x : PySem.Str} {v : V} (ho : EvD M K te Δ H (.r (.ref p))) (h : H p = some (.ins C dx fs)) (nf : ¬ M.F p) (cl : Cls K C) (na : NoAttr K C x) (hl : fs.lookup x = some v) (hd : Dt K H v d) : EvD M K (tFld K te x) Δ H d := fun σ H1 c r1 e1 s1 hc Q q => by
  refine ho σ H1 c r1 e1 s1 (by omega) _ fun y H2 u c2 p2 r2 s2 hc2 hy => ?_
  subst p2
  cases hy.raw
  have r := r1.trans r2
  exact ⟨p, C, dx, fs, v, rfl, r.keep _ _ nf h, cl, na, hl, q v H2 _ c2 rfl r2 s2 hc2 (hd.mono r.tup)⟩
end
end K27
/-! The readings keep the promises: the steps of a history. -/
namespace K27
open PySem PySem.Spec PyProof.Rows L2 KM
theorem atI_map {α : Type} {f : α → PyD} {l : List α} {k : Nat} {x : α} (h : l[k]? = some x) : atI (l.map f) (k : Int) = some (f x) := atI_nat (by rw [List.getElem?_map, h]; rfl)
def kfH : PyD → Key
  | .t (.s x :: _) => .inr x
  | _ => .inl 0
def vfH : PyD → PyD
  | .t [_, a, b] => .t [a, b]
  | d => d
abbrev stH (F : Key → Option PyD) (d : PyD) : Key → Option PyD := ptN F (kfH d) (some (vfH d))
theorem foldH_out {nm : PySem.Str} : ∀ {hs : List (House PySem.Str)} {G : Key → Option PyD}, nm ∉ hs.map (·.name) → (hs.map dHouse).foldl stH G (.inr nm) = G (.inr nm)
  | [], G, _ => rfl
  | h :: hs, G, hn => by
    rw [List.map_cons] at hn
    show (hs.map dHouse).foldl stH (stH G (dHouse h)) (.inr nm) = _
    rw [foldH_out fun z => hn (List.mem_cons_of_mem _ z)]
    show (if (Sum.inr nm : Key) = .inr h.name then some (vfH (dHouse h)) else G (.inr nm)) = G (.inr nm)
    rw [if_neg fun z => hn (by injection z with z; rw [z]; exact List.mem_cons_self ..)]
theorem foldH_in : ∀ {hs : List (House PySem.Str)} {G : Key → Option PyD}, (hs.map (·.name)).Nodup → ∀ h ∈ hs, (hs.map dHouse).foldl stH G (.inr h.name) = some (.t [fr h.slow, fr h.fast])
  | [], G, _, h, hm => by cases hm
  | q :: hs, G, nd, h, hm => by
    rw [List.map_cons] at nd
    obtain ⟨n1, n2⟩ := List.nodup_cons.mp nd
    show (hs.map dHouse).foldl stH (stH G (dHouse q)) (.inr h.name) = _
    rcases List.mem_cons.mp hm with e | hm
    · subst e
      rw [foldH_out n1]
      exact if_pos rfl
    · exact foldH_in n2 h hm
section
variable {K : PySem.W.Frag} {vs : List V} {H : Hp} {Q : VK} {E : XK}
theorem len_rates_of (h : sp_rates_of K vs H Q E) : vs.length = 1 := by
  obtain ⟨f, _, hd, _⟩ := h
  exact hd.length
theorem rd_rates_of (kx : Kx K) (h : sp_rates_of K vs H Q E) : t_rates_of K { nx := fun _ H' => Q .non H', rt := Q } (start N_rates_of vs) H := by
  obtain ⟨f, w, hd, q⟩ := h
  have e := EnvD.st (N := N_rates_of) hd
  have ek := ek_dc (M := M0) (K := K) (H := H) (n := 0) (g := gTup K 3 (gNames [1, 2, 3])) (tk := tVar 1) (tv := tTup (tCons (tVar 2) (tCons (tVar 3) tNil))) (vs := [1, 2, 3]) (kf := kfH) (vf := vfH) (it_tupD (w_ix (te := tVar 0) (i := 0) (ed_var (i := 0) (Δ := [dFld f].map some ++ List.replicate (N_rates_of.length - [dFld f].length) none) rfl) rfl)) (fun _ _ _ r => r.tup)
    (by rw [List.length_map]; exact Nat.le_trans w.len (by decide)) (fun d hdd => by
      obtain ⟨x, _, rfl⟩ := List.mem_map.mp hdd
      exact ⟨_, tg_tup (is := [1, 2, 3]) (by decide) rfl, ed_var rfl, ed_tup (ea_cons (ed_var rfl) (ea_cons (ed_var rfl) ea_nil))⟩)
  refine ek _ H 0 (Rf.refl _) e trivial (by decide) _ fun p H2 kvs F c' pf h0 h2 hf hl r2 _ _ => ?_
  subst pf
  refine q p H2 kvs h0 r2.ex h2 fun x hx => ?_
  exact (hf.2 (.inr x.name)).2 _ (foldH_in w.nd x hx)
theorem len_need_event (h : sp_need_event K vs H Q E) : vs.length = 2 := by
  obtain ⟨_, _, _, hd, _⟩ := h
  exact hd.length
theorem rd_need_event (kx : Kx K) (h : sp_need_event K vs H Q E) : t_need_event K { nx := fun _ H' => Q .non H', rt := Q } (start N_need_event vs) H := by
  obtain ⟨h, x, hx, hd, q⟩ := h
  refine s_if0 (k := false) (et_not (a := true) ((et_test (w_chain ed_int (ed_var rfl) (w_len (w_ix (ed_var rfl) rfl)))).is ?_)) (EnvD.st hd) (fun z => by cases z) fun _ H1 x1 e1 => q _ H1 _ rfl x1 .n
  rw [List.length_map, decide_eq_true (by omega), decide_eq_true (by omega)]
  rfl
theorem len_link_heard (h : sp_link_heard K vs H Q E) : vs.length = 2 := by
  obtain ⟨_, _, _, _, _, hd, _⟩ := h
  exact hd.length
theorem rd_link_heard (kx : Kx K) (h : sp_link_heard K vs H Q E) : t_link_heard K { nx := fun _ H' => Q .non H', rt := Q } (start N_link_heard vs) H := by
  obtain ⟨h, y, e, w, he, hd, q⟩ := h
  refine s_asgT0 (is := [2, 3]) (ds := [dFld h.f, .t (h.ev.map dEvt)]) (ed_var rfl) rfl (EnvD.st hd) fun σ1 H1 x1 e1 => ?_
  have wd := (w.ev y e he).deed
  dsimp only
  refine s_asg0 (P := (· = dDeed e.deed)) (w_ix (w_ixv (ed_var rfl) (ed_var rfl) (atI_map (f := dEvt) he)) rfl) e1 fun σ2 H2 d2 p2 x2 e2 => ?_
  subst p2
  dsimp only
  refine s_ret0 (P := (· = dHeard (heard h e))) ?_ e2 ?_
  · cases hde : e.deed with
    | mark =>
      rw [heard_not fun k z => (by rw [hde] at z; cases z)]
      exact ev_if ((et_test (w_eqS (w_ix (ed_var rfl) rfl) ed_str)).is (b := false) (by decide)) (fun z => by cases z) fun _ => ed_non
    | send l =>
      rw [heard_not fun k z => (by rw [hde] at z; cases z)]
      exact ev_if ((et_test (w_eqS (w_ix (ed_var rfl) rfl) ed_str)).is (b := false) (by decide)) (fun z => by cases z) fun _ => ed_non
    | hear k =>
      rw [hde] at wd
      obtain ⟨hk, u, l, hu, du, hl⟩ := wd
      obtain ⟨lk, hlk⟩ : ∃ lk, h.f.links[l]? = some lk := ⟨h.f.links[l], List.getElem?_eq_getElem hl⟩
      rw [heard_of hde hu du hlk]
      refine ev_if ((et_test (w_eqS (w_ix (ed_var rfl) rfl) ed_str)).is (b := true) (by decide)) (fun _ => ?_) fun z => by cases z
      obtain ⟨un, us, ud⟩ := u
      have du : ud = .send l := du
      subst du
      exact w_ixv (w_ix (ed_var rfl) rfl) (w_ix (w_ix (w_ixv (ed_var rfl) (w_ix (ed_var rfl) rfl) (atI_map (f := dEvt) hu)) rfl) rfl) (atI_map (f := dLnk) hlk)
  · exact q.le (x1.trans x2)
theorem len_last_ahead (h : sp_last_ahead K vs H Q E) : vs.length = 2 := by
  obtain ⟨_, _, _, _, _, hd, _⟩ := h
  exact hd.length
theorem rd_last_ahead (kx : Kx K) (h : sp_last_ahead K vs H Q E) : t_last_ahead K { nx := fun _ H' => Q .non H', rt := Q } (start N_last_ahead vs) H := by
  obtain ⟨ev, y, e, he, hl, hd, q⟩ := h
  have hy := (List.getElem?_eq_some_iff.mp he).1
  refine s_for (M := M0) (c := 0) (it_rng3 (i := (y : Int) - 1) (ea_cons (w_sub (ed_var rfl) ed_int) (ea_cons (w_neg ed_int) (ea_cons (w_neg ed_int) ea_nil))) (by omega) (by omega)) (EnvD.st hd) trivial (by decide) fun H2 ds c' pd r2 e2 _ _ => ?_
  subst pd
  refine ⟨fun i σ' H' => Exh H H' ∧ EnvD K σ' H' [some (.t (ev.map dEvt)), some (dInt y), none] ∧ lastA ev e.house y = lastA ev e.house (y - i), ⟨r2.ex, e2, rfl⟩, fun _ _ _ _ => trivial, ?_, ?_⟩
  · rintro i d σ' H' H3 v hdi ⟨x', e', hla⟩ x3 hv
    have hi := (List.getElem?_eq_some_iff.mp hdi).1
    rw [List.length_map, List.length_range] at hi
    have hi : i < y := by omega
    rw [List.getElem?_map, List.getElem?_range (by omega)] at hdi
    cases hdi
    obtain ⟨u, hu⟩ : ∃ u, ev[y - i - 1]? = some u := ⟨ev[y - i - 1], List.getElem?_eq_getElem (by omega)⟩
    have ex : (y : Int) - 1 - (i : Int) = ((y - i - 1 : Nat) : Int) := by omega
    have e3 := (e'.tp x3.tp).set (i := 2) hv
    have st : lastA ev e.house (y - i) = if u.house = e.house then some (y - i - 1) else lastA ev e.house (y - i - 1) := by
      obtain ⟨j, hj⟩ : ∃ j, y - i = j + 1 := ⟨y - i - 1, by omega⟩
      rw [hj] at hu ⊢
      rw [show j + 1 - 1 = j from rfl] at hu ⊢
      conv => lhs; unfold lastA
      rw [hu]
    refine s_if0 (k := decide (u.house = e.house)) (et_test (w_eqS (w_ix (w_ixv (ed_var rfl) (ed_var rfl) (by rw [ex]; exact atI_map (f := dEvt) hu)) rfl) (w_ix (w_ixv (ed_var rfl) (ed_var rfl) (atI_map (f := dEvt) he)) rfl))) e3 (fun hk H4 x4 e4 => ?_) fun hk H4 x4 e4 => ?_
    · refine s_ret0 (P := (· = .i ((y : Int) - 1 - (i : Int)))) (ed_var rfl) e4 ?_
      rw [hla, st, if_pos (of_decide_eq_true hk)] at q
      rw [ex]
      exact q.le ((x'.trans x3).trans x4)
    · refine ⟨(x'.trans x3).trans x4, e4.drop 2, ?_⟩
      rw [hla, st, if_neg (of_decide_eq_false hk)]
      rfl
  · rintro σ' H' ⟨x', e', hla⟩
    rw [List.length_map, List.length_range] at hla
    have hz : y - ((y : Int) - 1 + 1).toNat = 0 := by omega
    rw [hz] at hla
    dsimp only
    refine s_ret0 (P := (· = .n)) ed_non e' ?_
    rw [hla] at q
    exact q.le x'
end
end K27
/-! The readings keep the promises: the steps of a history, on. -/
namespace K27
open PySem PySem.Spec PyProof.Rows L2 KM
section
variable {K : PySem.W.Frag} {vs : List V} {H : Hp} {Q : VK} {E : XK}
theorem len_while_between (h : sp_while_between K vs H Q E) : vs.length = 3 := by
  obtain ⟨_, _, _, _, _, _, _, _, _, _, _, _, _, _, _, _, _, _, hd, _⟩ := h
  exact hd.length
/-- rates_of(field)[name] -/
theorem ev_rates {Δ : List (Option PyD)} {tn ta : TE} {f : FldS} {x : House PySem.Str} (w : WFF f) (hx : x ∈ f.homes) (ha : EvD M0 K ta Δ H (dFld f)) (hn : EvD M0 K tn Δ H (.s x.name)) :
    EvD M0 K (tDGet (tCall (sp_rates_of K) [] E0 (tCons ta tNil)) tn) Δ H (.t [fr x.slow, fr x.fast]) := fun σ H1 c r1 e1 s1 hc Q q => by
  dsimp only [tDGet, tCall]
  refine (ea_cons ha ea_nil) σ H1 c r1 e1 s1 hc _ fun xs H2 ds c2 p2 r2 s2 hc2 hxs => ?_
  subst p2
  rw [List.append_nil]
  refine ⟨f, w, hxs, fun p H3 kvs hp x3 hk ra => ?_⟩
  refine hn σ H3 c ((r1.trans r2).trans x3.rf) ((e1.tp r2.tup).tp x3.tp) trivial hc _ fun y H4 d c4 p4 r4 s4 hc4 hy => ?_
  subst p4
  cases hy.str
  obtain ⟨v, h1, h2⟩ := ra x hx
  refine ⟨p, v, rfl, ?_, q v H4 _ c rfl ((r2.trans x3.rf).trans r4) trivial (by omega) (h2.mono r4.tup)⟩
  rw [← h1]
  exact DGet.k (k := .inr x.name) (r4.ex _ _ hk)
theorem rd_while_between (kx : Kx K) (h : sp_while_between K vs H Q E) : t_while_between K { nx := fun _ H' => Q .non H', rt := Q } (start N_while_between vs) H := by
  obtain ⟨h, x, y, u, e, hs, z1, z2, qq, r, w, hu, he, hm, hn, wh, e1, e2, hd, q⟩ := h
  refine s_asgT0 (is := [3, 4]) (ds := [dFld h.f, .t (h.ev.map dEvt)]) (ed_var rfl) rfl (EnvD.st hd) fun σ1 H1 x1 v1 => ?_
  dsimp only
  refine sq (s_asgT0 (is := [5, 6]) (ds := [fr hs.slow, fr hs.fast]) (ev_rates w.f hm (ed_var rfl) (by rw [hn]; exact w_ix (w_ixv (ed_var rfl) (ed_var rfl) (atI_map (f := dEvt) hu)) rfl)) rfl v1 fun σ2 H2 x2 v2 => ?_)
  dsimp only
  refine sq (s_asg0 (P := (· = fr (e.stamp - u.stamp))) (ed_call (ea_cons (w_ix (w_ixv (ed_var rfl) (ed_var rfl) (atI_map (f := dEvt) he)) rfl) (ea_cons (w_ix (w_ixv (ed_var rfl) (ed_var rfl) (atI_map (f := dEvt) hu)) rfl) ea_nil)) (CallD.of fun xs H1 Q E r hx q => ⟨_, _, hx, q⟩)) v2 fun σ3 H3 d3 p3 x3 v3 => ?_)
  subst p3
  dsimp only
  have a1 := wh.sl
  have a2 := wh.fa
  have a3 := wh.q0
  have a4 := wh.q4
  have a5 := wh.r4
  have a6 := wh.r8
  refine s_ret0 (P := (· = .t [fr z1, fr z2])) (ed_tup (ea_cons (ed_call (ea_cons (ed_var rfl) (ea_cons (ed_var rfl) ea_nil)) (CallD.of fun xs H1 Q E r hx q => ⟨_, _, z1, ?_, ?_, e1, hx, q⟩)) (ea_cons (ed_call (ea_cons (ed_var rfl) (ea_cons (ed_var rfl) ea_nil)) (CallD.of fun xs H1 Q E r hx q => ⟨_, _, z2, ?_, ?_, e2, hx, q⟩)) ea_nil))) v3 ?_
  · omega
  · omega
  · omega
  · omega
  · exact q.le ((x1.trans x2).trans x3)
def mostS (k y : Nat) (o : Option Int) : Steps := match o with
  | some m => [(k, y, m)]
  | none => []
theorem len_steps_to (h : sp_steps_to K vs H Q E) : vs.length = 2 := by
  obtain ⟨_, _, _, _, hd, _⟩ := h
  exact hd.length
theorem rd_steps_to (kx : Kx K) (h : sp_steps_to K vs H Q E) : t_steps_to K { nx := fun _ H' => Q .non H', rt := Q } (start N_steps_to vs) H := by
  obtain ⟨h, y, w, hy, hd, q⟩ := h
  obtain ⟨e, he⟩ : ∃ e, h.ev[y]? = some e := ⟨h.ev[y], List.getElem?_eq_getElem hy⟩
  have hst : stepsTo h y = ownS h y e ++ hearS h y e := by
    unfold stepsTo
    rw [he]
  have le := w.len
  refine sq (s_asg0 (P := (· = optI (lastA h.ev e.house y))) (ed_call (ea_cons (w_ix (ed_var rfl) rfl) (ea_cons (ed_var rfl) ea_nil)) (CallD.of fun xs H1 Q E r hx q => ⟨h.ev, y, e, he, by omega, hx, q⟩)) (EnvD.st hd) fun σ1 H1 d1 p1 x1 v1 => ?_)
  subst p1
  dsimp only
  refine sq (s_asgB (M := M0) (c := 0) (el_lst ea_nil) v1 trivial (by decide) fun σ2 H2 p c2 b2 v2 _ _ => ?_)
  have b2 := b2.backX x1
  dsimp only
  refine sq (join (fun σ' H' => Bld M0 K H H' p ((ownS h y e).map dStep) ∧ EnvD K σ' H' [some (dHist h), some (dInt y), none, some (.r (.ref p)), none, none, none, none, none, none, none, none]) ?_ fun rest => ?_)
  rotate_left
  · rcases own_cases w he with ⟨c0, z⟩ | ⟨x, u, hs, q', r', su, se, hlast, hx, hu, eh, hm, en, wh, er, hsu, hse, z, z1, z2, z3, z4⟩
    · rw [c0] at v2
      refine s_if0 (k := false) (et_test (w_notT (ed_var rfl))) v2 (fun z => by cases z) fun _ H3 x3 v3 => rest σ2 H3 ⟨?_, v3.drop 2⟩
      rw [z]
      exact b2.onX x3
    · rw [hlast] at v2
      refine s_if0 (k := true) (et_test (w_notFI (ed_var rfl))) v2 (fun _ H3 x3 v3 => ?_) fun z => by cases z
      refine sq (s_asgT0 (is := [4, 5]) (ds := [fr (120 * (se - su) / r'), fr (120 * (se - su) / q')]) (ed_call (ea_cons (ed_var rfl) (ea_cons (ed_var rfl) (ea_cons (ed_var rfl) ea_nil))) (CallD.of fun xs H1 Q E r hx q => ⟨h, x, y, u, e, hs, _, _, q', r', w, hu, he, hm, en, wh, z4, z3, hx, q⟩)) rfl v3 fun σ4 H4 x4 v4 => ?_)
      dsimp only
      have ls : EvD M0 K (tCall (sp_less K) [] E0 (tCons (tC (.ref (He.ga K "NOUGHT"))) (tCons (tVar 4) tNil))) _ H4 (fr (0 - 120 * (se - su) / r')) := ed_call (ea_cons (w_const kx.nought) (ea_cons (ed_var (d := fr (120 * (se - su) / r')) (Δ := setN ([some (dHist h), some (dInt y), some (dInt x), some (.r (.ref p)), none, none, none, none, none, none, none, none]) [4, 5] [fr (120 * (se - su) / r'), fr (120 * (se - su) / q')]) rfl) ea_nil)) (CallD.of fun xs H1 Q E r hx q => ⟨_, _, hx, q⟩)
      refine s_extB (M := M0) (c := 0) ((b2.onX x3).onX x4) (ed_var rfl) (el_lst (ea_cons (ed_tup (ea_cons (ed_var rfl) (ea_cons (ed_var rfl) (ea_cons (ed_var rfl) ea_nil)))) (ea_cons (ed_tup (ea_cons (ed_var rfl) (ea_cons (ed_var rfl) (ea_cons ls ea_nil)))) ea_nil))) (fun es pe => by rw [pe]; exact Nat.le_of_ble_eq_true rfl) v4 trivial (by decide) fun H5 es c5 pe b5 v5 _ _ => rest _ H5 ⟨?_, ?_⟩
      · rw [z]
        rw [pe] at b5
        exact b5
      · exact ((v5.drop 2).drop 4).drop 5
  · rintro σ3 H3 ⟨b3, v3⟩
    dsimp only
    refine sq (s_asg0 (P := (· = dHeard (heard h e))) (ed_call (ea_cons (ed_var rfl) (ea_cons (ed_var rfl) ea_nil)) (CallD.of fun xs H1 Q E r hx q => ⟨h, y, e, w, he, hx, q⟩)) v3 fun σ4 H4 d4 p4 x4 v4 => ?_)
    subst p4
    dsimp only
    have b4 := b3.onX x4
    refine sq (join (fun σ' H' => Bld M0 K H H' p ((stepsTo h y).map dStep) ∧ EnvD K σ' H' [none, none, none, some (.r (.ref p)), none, none, none, none, none, none, none, none]) ?_ fun rest => ?_)
    · rintro σ5 H5 ⟨b5, v5⟩
      exact s_retB (PA := (· = (stepsTo h y).map dStep)) b5 rfl v5 rfl q rfl
    · cases hh : heard h e with
      | none =>
        rw [hh] at v4
        refine s_if0 (k := false) (et_test (w_notT (ed_var rfl))) v4 (fun z => by cases z) fun _ H5 x5 v5 => rest σ4 H5 ⟨?_, ((v5.drop 0).drop 1).drop 6⟩
        have : hearS h y e = [] := by
          unfold hearS
          rw [hh]
        rw [hst, this, List.append_nil]
        exact b4.onX x5
      | some kl =>
        obtain ⟨k, lk⟩ := kl
        obtain ⟨de, _⟩ := heard_some hh
        obtain ⟨src, dst, least, most⟩ := lk
        have hS : hearS h y e = mostS k y most ++ [(y, k, 0 - least)] := by
          unfold hearS
          rw [hh]
          rfl
        rw [hh] at v4
        refine s_if0 (k := true) (et_test (w_notF (ds := [.s src, .s dst, fr least, dOpt most]) (ed_var rfl))) v4 (fun _ H5 x5 v5 => ?_) fun z => by cases z
        refine sq (s_asgT0 (is := [7, 8, 9, 10]) (ds := [.s src, .s dst, fr least, dOpt most]) (ed_var rfl) rfl v5 fun σ6 H6 x6 v6 => ?_)
        dsimp only
        refine sq (s_asg0 (P := (· = dInt k)) ?_ v6 fun σ7 H7 d7 p7 x7 v7 => ?_)
        · obtain ⟨en, es, ed⟩ := e
          have de : ed = .hear k := de
          subst de
          exact w_ix (w_ix (w_ixv (w_ix (ed_var rfl) rfl) (ed_var rfl) (atI_map (f := dEvt) he)) rfl) rfl
        subst p7
        dsimp only
        have b7 := ((b4.onX x5).onX x6).onX x7
        refine sq (join (fun σ' H' => Bld M0 K H H' p ((ownS h y e).map dStep ++ (mostS k y most).map dStep) ∧ EnvD K σ' H' [none, some (dInt y), none, some (.r (.ref p)), none, none, none, none, none, some (fr least), none, some (dInt k)]) ?_ fun rest2 => ?_)
        · rintro σ8 H8 ⟨b8, v8⟩
          dsimp only
          refine s_appB (M := M0) (c := 0) (n := 0) (P := (· = dStep (y, k, 0 - least))) b8 (ed_var rfl) (ed_tup (ea_cons (ed_var rfl) (ea_cons (ed_var rfl) (ea_cons (ed_call (ea_cons (w_const kx.nought) (ea_cons (ed_var rfl) ea_nil)) (CallD.of fun xs H1 Q E r hx q => ⟨_, _, hx, q⟩)) ea_nil)))) ?_ v8 trivial (by decide) fun H9 H10 d v c' pd r9 hv _ b10 v10 _ _ => rest _ H10 ⟨?_, ?_⟩
          · rw [List.length_append, List.length_map]
            rcases own_cases w he with ⟨c0, z⟩ | ⟨x, u, hs, q', r', su, se, hlast, hx, hu, eh, hm, en, wh, er, hsu, hse, z, _⟩
            · rw [z]
              cases most <;> exact Nat.le_of_ble_eq_true rfl
            · rw [z]
              cases most <;> exact Nat.le_of_ble_eq_true rfl
          · rw [hst, hS, List.map_append, List.map_append, ← List.append_assoc]
            rw [pd] at b10
            exact b10
          · exact ((v10.drop 1).drop 9).drop 11
        · cases most with
          | none =>
            refine s_if0 (k := false) (et_test (w_notT (ed_var rfl))) v7 (fun z => by cases z) fun _ H8 x8 v8 => rest2 σ7 H8 ⟨?_, ?_⟩
            · rw [show mostS k y none = [] from rfl, List.map_nil, List.append_nil]
              exact b7.onX x8
            · exact (((((v8.drop 0).drop 6).drop 7).drop 8).drop 10).drop 2
          | some m =>
            refine s_if0 (k := true) (et_test (w_notF (ds := [.i (fn m), .i (fd m)]) (ed_var rfl))) v7 (fun _ H8 x8 v8 => ?_) fun z => by cases z
            refine s_appB (M := M0) (c := 0) (n := 0) (P := (· = dStep (k, y, m))) (b7.onX x8) (ed_var rfl) (ed_tup (ea_cons (ed_var rfl) (ea_cons (ed_var rfl) (ea_cons (ed_var rfl) ea_nil)))) ?_ v8 trivial (by decide) fun H9 H10 d v c' pd r9 hv _ b10 v10 _ _ => rest2 _ H10 ⟨?_, ?_⟩
            · rw [List.length_map]
              rcases own_cases w he with ⟨c0, z⟩ | ⟨x, u, hs, q', r', su, se, hlast, hx, hu, eh, hm, en, wh, er, hsu, hse, z, _⟩
              · rw [z]
                exact Nat.le_of_ble_eq_true rfl
              · rw [z]
                exact Nat.le_of_ble_eq_true rfl
            · rw [pd] at b10
              exact b10
            · exact (((((v10.drop 0).drop 6).drop 7).drop 8).drop 10).drop 2
theorem len_history_steps (h : sp_history_steps K vs H Q E) : vs.length = 1 := by
  obtain ⟨_, _, hd, _⟩ := h
  exact hd.length
theorem rd_history_steps (kx : Kx K) (h : sp_history_steps K vs H Q E) : t_history_steps K { nx := fun _ H' => Q .non H', rt := Q } (start N_history_steps vs) H := by
  obtain ⟨h, w, hd, q⟩ := h
  have el : ElD M0 K (tCall (sp_steps_list K) [] E0 (tCons (tVar 0) tNil)) ([dHist h].map some ++ List.replicate (N_history_steps.length - [dHist h].length) none) H ((steps h).map dStep) := fun σ H1 c r1 e1 s1 hc Q q => by
    refine (ea_cons (ed_var rfl) ea_nil) σ H1 c r1 e1 s1 hc _ fun xs H2 ds c2 p2 r2 s2 hc2 hxs => ?_
    subst p2
    rw [List.append_nil]
    refine ⟨h, w, hxs, fun p H' vs ds pd hp x h1 h2 => ?_⟩
    exact q p H' vs ds c2 pd (r2.ex.free hp) h1 h2 (r2.trans x.rf) trivial hc2
  exact s_ret0 (P := (· = .t ((steps h).map dStep))) (ed_tupL el) (EnvD.st hd) q
theorem len_steps_list (h : sp_steps_list K vs H Q E) : vs.length = 1 := by
  obtain ⟨_, _, hd, _⟩ := h
  exact hd.length
theorem stepsTo_len {h : HistS} {y : Nat} : (stepsTo h y).length ≤ 4 := by
  unfold stepsTo
  cases h.ev[y]? with
  | none => exact Nat.zero_le _
  | some e =>
    show (ownS h y e ++ hearS h y e).length ≤ 4
    rw [List.length_append]
    have h1 : (ownS h y e).length ≤ 2 := by
      unfold ownS
      split
      · exact Nat.zero_le _
      · split
        · exact Nat.zero_le _
        · split
          · exact Nat.zero_le _
          · exact Nat.le_refl _
    have h2 : (hearS h y e).length ≤ 2 := by
      unfold hearS
      split
      · exact Nat.zero_le _
      · rw [List.length_append]
        split <;> simp
    omega
theorem stepsUp_len {h : HistS} : ∀ {n : Nat}, (stepsUp h n).length ≤ 4 * n
  | 0 => Nat.zero_le _
  | n + 1 => by
    show (stepsUp h n ++ stepsTo h n).length ≤ _
    rw [List.length_append]
    have := stepsUp_len (h := h) (n := n)
    have := stepsTo_len (h := h) (y := n)
    omega
theorem steps_len {h : HistS} (w : WF h) : (steps h).length ≤ 80 := by
  have := stepsUp_len (h := h) (n := h.ev.length)
  have := w.len
  unfold steps
  omega
theorem rd_steps_list (kx : Kx K) (h : sp_steps_list K vs H Q E) : t_steps_list K { nx := fun _ H' => Q .non H', rt := Q } (start N_steps_list vs) H := by
  obtain ⟨h, w, hd, q⟩ := h
  have e0 := EnvD.st (N := N_steps_list) hd
  have hl := w.len
  dsimp only [t_steps_list, tRet, tLc2]
  refine (it_rngD (M := M0) (K := K) (k := h.ev.length) (Δ := [dHist h].map some ++ List.replicate (N_steps_list.length - [dHist h].length) none) (ea_cons ((w_len (ds := h.ev.map dEvt) (w_ix (te := tVar 0) (i := 1) (ed_var (i := 0) (d := dHist h) rfl) rfl)).is (by rw [List.length_map])) ea_nil) (by omega)) _ H 0 (Rf.refl _) e0 trivial (by decide) _ fun J H2 ds c2 pa jd r2 s2 hc2 => ?_
  subst pa
  have jl : ((List.range h.ev.length).map fun k : Nat => PyD.i (k : Int)).length = h.ev.length := by rw [List.length_map, List.length_range]
  intro D hD
  refine ⟨fun i m H' => m = h.ev.length - i ∧ i ≤ h.ev.length ∧ Bld M0 K H2 H' D ((stepsUp h i).map dStep), ⟨h.ev.length, by simp, Nat.zero_le _, ⟨hD, (Exh.new hD).rf, ⟨[], upd_same, .nil⟩, fun z => z, ⟨0, trivial⟩⟩⟩, ?_⟩
  rintro i m H3 ⟨rfl, hi, b3⟩
  by_cases hlt : i < h.ev.length
  · refine .inr ⟨jd.go i H3 (by rw [jl]; exact hlt) trivial, _, fun H' p' => ⟨h.ev.length - (i + 1), by omega, rfl, hlt, p'⟩, fun x H4 y => ?_⟩
    have hdi : ((List.range h.ev.length).map fun k : Nat => PyD.i (k : Int))[i]? = some (.i (i : Int)) := by
      rw [List.getElem?_map, List.getElem?_range hlt]
      rfl
    obtain ⟨x4, hx⟩ := jd.yld i H3 x H4 _ trivial hdi y
    have b4 := b3.onX x4
    have e4 : EnvD K (wipe (L2.start N_steps_list vs) [1, 2]) H4 _ := (e0.tp (r2.tup.trans b4.rf.tup)).wipe [1, 2]
    have e5 := e4.set (i := 1) hx
    refine ⟨(Wp.start (L2.start N_steps_list vs) [1, 2]).set (i := 1) (by decide), ?_⟩
    dsimp only [tYes, iList, tCall]
    rw [if_pos rfl]
    refine (ea_cons (M := M0) (K := K) (H := H4) (ed_var (d := dHist h) (i := 0) rfl) (ea_cons (ed_var (d := .i (i : Int)) (i := 1) rfl) ea_nil)) _ H4 0 (Rf.refl _) e5 trivial (by decide) _ fun xs H5 ds5 c5 p5 r5 s5 hc5 hxs => ?_
    subst p5
    rw [List.append_nil]
    refine ⟨h, i, w, hlt, hxs, fun l H6 us es pe hl0 x6 h6 hes => ?_⟩
    subst pe
    have b6 := (b4.onX r5.ex).onX x6
    have lD : l ≠ D := fun z => by
      subst z
      obtain ⟨vs', z1, _⟩ := (b4.onX r5.ex).at_
      rw [z1] at hl0
      cases hl0
    refine ⟨l, rfl, ⟨us, SqL.of h6⟩, ?_⟩
    refine ⟨fun j m H' => m = us.length - j ∧ j ≤ us.length ∧ H' l = some (.lst us) ∧ Dts K H' us ((stepsTo h i).map dStep) ∧ Bld M0 K H2 H' D ((stepsUp h i).map dStep ++ ((stepsTo h i).map dStep).take j), ⟨us.length, by simp, Nat.zero_le _, h6, hes, by rw [List.take_zero, List.append_nil]; exact b6⟩, ?_⟩
    rintro j m H7 ⟨rfl, hj, h7, hes7, b7⟩
    by_cases hjl : j < us.length
    · refine .inr ⟨⟨us, us[j], SqL.of h7, List.getElem?_eq_getElem hjl⟩, _, fun H' p' => ⟨us.length - (j + 1), by omega, rfl, hjl, p'⟩, fun x H8 y => ?_⟩
      obtain ⟨rfl, y⟩ := y
      have hx := y us (SqL.of h7)
      obtain ⟨d, hdj, hdx⟩ := hes7.at' hx
      refine ⟨(Wp.start _ [2]).set (i := 2) (by decide), ?_⟩
      rw [if_pos rfl]
      refine ⟨x, ?_, ?_⟩
      · exact List.getElem?_set_self (by rw [wipe_length, e5.len]; exact Nat.le_of_ble_eq_true rfl)
      obtain ⟨acc, ha, hda⟩ := b7.at_
      have b9 := b7.set (hda.snoc hdx)
      have hlu := stepsUp_len (h := h) (n := i)
      have hlt2 := stepsTo_len (h := h) (y := i)
      refine ⟨acc, ha, small1000 ?_, ?_, ?_, ?_⟩
      · rw [hda.length, List.length_append, List.length_map, List.length_take, List.length_map]
        omega
      · rw [upd_ne lD]
        exact h7
      · exact hes7.mono (Tp.updL ha)
      · rw [take_snoc hdj, ← List.append_assoc]
        exact b9
    · have ej : j = us.length := by omega
      subst ej
      refine .inl ⟨⟨us, SqL.of h7, Nat.le_refl _⟩, ?_⟩
      rw [hes7.length, List.take_length, ← List.map_append] at b7
      exact b7
  · have e : i = h.ev.length := by omega
    subst e
    refine .inl ⟨by have := jd.stop H3 trivial; rw [jl] at this; exact this, ?_⟩
    obtain ⟨acc, ha, hda⟩ := b3.at_
    exact q D H3 acc _ rfl (r2.ex.free hD) (r2.ex.trans b3.ex) ha hda
end
end K27
/-! The readings keep the promises: sums by rounds. -/
namespace K27
open PySem PySem.Spec PyProof.Rows L2 KM
theorem putF_len (f : PySem.Str) (v : V) : ∀ {fs : List (PySem.Str × V)} {u : V}, fs.lookup f = some u → (putF f v fs).length = fs.length
  | [], u, h => by cases h
  | (g, x) :: r, u, h => by
    show (if g = f then (g, v) :: r else (g, x) :: putF f v r).length = _
    by_cases c : g = f
    · rw [if_pos c]
      rfl
    · rw [if_neg c]
      have hb : (f == g) = false := beq_eq_false_iff_ne.mpr fun z => c z.symm
      have h : List.lookup f r = some u := by
        simp only [List.lookup, hb] at h
        exact h
      show (putF f v r).length + 1 = r.length + 1
      rw [putF_len f v h]
theorem pt_ptN {α : Type} (f : Nat → α) (a : Nat) (v : α) : ptN f a v = pt f a v := rfl
theorem cameF_pt {p : Nat → Option Nat} {y k : Nat} : ptN (cameF p) y (some (dInt k)) = cameF (pt p y (some k)) := by
  funext b
  unfold ptN cameF pt
  by_cases c : b = y
  · rw [if_pos c, if_pos c]
    rfl
  · rw [if_neg c, if_neg c]
theorem sumsF_pt {n : Nat} {d : Nat → Int} {y : Nat} {z : Int} (hy : y < n) : ptN (sumsF n d) y (some (fr z)) = sumsF n (pt d y z) := by
  funext b
  unfold ptN sumsF pt
  by_cases c : b = y
  · rw [if_pos c, if_pos c]
    subst c
    rw [if_pos hy]
  · rw [if_neg c, if_neg c]
section
variable {K : PySem.W.Frag} {vs : List V} {H H' H0 : Hp} {Q : VK} {E : XK} {p ts a1 a2 : Addr} {n : Nat} {st : Steps} {S : BF} {Δ : List (Option PyD)} {te : TE} {σ : L2.St} {D : Ends}
theorem RelAt.on (h : RelAt K H0 H p ts a1 a2 n st S) (x : Exh H H') : RelAt K H0 H' p ts a1 a2 n st S := by
  obtain ⟨ex, p0, b1, b2, ⟨dx, fs, hp, r⟩, hs, ⟨k1, h1⟩, ⟨k2, h2⟩, ne⟩ := h
  exact ⟨ex.trans x, p0, b1, b2, ⟨dx, fs, x _ _ hp, r⟩, hs.mono x.tp, ⟨k1, h1.mono x.tp (x _ _ h1.at_)⟩, ⟨k2, h2.mono x.tp (x _ _ h2.at_)⟩, ne⟩
theorem exh_upd {q : Addr} {o : HO} (ex : Exh H0 H) (h : H0 q = none) : Exh H0 (upd H q o) := ex.mut h
theorem RelAt.setD (h : RelAt K H0 H p ts a1 a2 n st S) {kvs : List (Key × V)} (hk : H a1 = some (.dK kvs)) {y : Nat} {z : Int} {v : V} (hy : y < n) (hv : Dt K H v (fr z)) : RelAt K H0 (upd H a1 (.dK (putK kvs (.inl (y : Int)) v))) p ts a1 a2 n st { S with d := pt S.d y z } := by
  obtain ⟨ex, p0, b1, b2, ⟨dx, fs, hp, r⟩, hs, ⟨k1, h1⟩, ⟨k2, h2⟩, ne⟩ := h
  have ek : k1 = kvs := by
    have := h1.at_
    rw [hk] at this
    cases this
    rfl
  subst ek
  have t := Tp.updK (o := .dK (putK k1 (.inl (y : Int)) v)) hk
  have hput := h1.put hy hv
  rw [sumsF_pt hy] at hput
  have np : p ≠ a1 := fun z => by
    subst z
    rw [hk] at hp
    cases hp
  refine ⟨ex.mut b1, p0, b1, b2, ⟨dx, fs, by rw [upd_ne np]; exact hp, r⟩, hs.mono t, ⟨_, hput⟩, ⟨k2, h2.mono t (by rw [upd_ne fun z => ne z.symm]; exact h2.at_)⟩, ne⟩
theorem RelAt.setP (h : RelAt K H0 H p ts a1 a2 n st S) {kvs : List (Key × V)} (hk : H a2 = some (.dK kvs)) {y k : Nat} {v : V} (hy : y < n) (hv : Dt K H v (dInt k)) : RelAt K H0 (upd H a2 (.dK (putK kvs (.inl (y : Int)) v))) p ts a1 a2 n st { S with p := pt S.p y (some k) } := by
  obtain ⟨ex, p0, b1, b2, ⟨dx, fs, hp, r⟩, hs, ⟨k1, h1⟩, ⟨k2, h2⟩, ne⟩ := h
  have ek : k2 = kvs := by
    have := h2.at_
    rw [hk] at this
    cases this
    rfl
  subst ek
  have t := Tp.updK (o := .dK (putK k2 (.inl (y : Int)) v)) hk
  have hput := h2.put hy hv
  rw [cameF_pt] at hput
  have np : p ≠ a2 := fun z => by
    subst z
    rw [hk] at hp
    cases hp
  refine ⟨ex.mut b2, p0, b1, b2, ⟨dx, fs, by rw [upd_ne np]; exact hp, r⟩, hs.mono t, ⟨k1, h1.mono t (by rw [upd_ne ne]; exact h1.at_)⟩, ⟨_, hput⟩, ne⟩
theorem RelAt.setL (h : RelAt K H0 H p ts a1 a2 n st S) {C dx : Addr} {fs : List (PySem.Str × V)} (hp : H p = some (.ins C dx fs)) (o : Option Nat) : RelAt K H0 (upd H p (.ins C dx (putF "last" (lastV o) fs))) p ts a1 a2 n st { S with last := o } := by
  obtain ⟨ex, p0, b1, b2, ⟨dx', fs', hp', r0, r1, r2, r3, r4, r5, r6⟩, hs, ⟨k1, h1⟩, ⟨k2, h2⟩, ne⟩ := h
  rw [hp] at hp'
  cases hp'
  have t := Tp.updI (o := .ins (He.ga K "Relaxing") dx (putF "last" (lastV o) fs)) hp
  have n1 : a1 ≠ p := fun z => by
    subst z
    have := h1.at_
    rw [hp] at this
    cases this
  have n2 : a2 ≠ p := fun z => by
    subst z
    have := h2.at_
    rw [hp] at this
    cases this
  refine ⟨ex.mut p0, p0, b1, b2, ⟨dx, _, upd_same, ?_, ?_, ?_, ?_, ?_, ?_, ?_⟩, hs.mono t, ⟨k1, h1.mono t (by rw [upd_ne n1]; exact h1.at_)⟩, ⟨k2, h2.mono t (by rw [upd_ne n2]; exact h2.at_)⟩, ne⟩
  · rw [putF_len _ _ r4]
    exact r0
  · rw [lookup_putF, if_neg (by decide)]
    exact r1
  · rw [lookup_putF, if_neg (by decide)]
    exact r2
  · rw [lookup_putF, if_neg (by decide)]
    exact r3
  · rw [lookup_putF, if_pos rfl]
  · rw [lookup_putF, if_neg (by decide)]
    exact r5
  · rw [lookup_putF, if_neg (by decide)]
    exact r6
/-- self.all_steps, .sums, .came_by, .last -/
theorem w_all (kx : Kx K) (h : RelAt K H0 H p ts a1 a2 n st S) (ho : EvD M0 K te Δ H (.r (.ref p))) : EvD M0 K (tFld K te "all_steps") Δ H (.t (st.map dStep)) := by
  obtain ⟨dx, fs, hp, r0, r1, r2, r3, r4, r5, r6⟩ := h.ins
  exact w_fld ho hp (fun z => z) kx.cl kx.nA r1 h.st
theorem w_sums (kx : Kx K) (h : RelAt K H0 H p ts a1 a2 n st S) (ho : EvD M0 K te Δ H (.r (.ref p))) : EvD M0 K (tFld K te "sums") Δ H (.r (.ref a1)) := by
  obtain ⟨dx, fs, hp, r0, r1, r2, r3, r4, r5, r6⟩ := h.ins
  exact w_fld ho hp (fun z => z) kx.cl kx.nS r2 (.r _)
theorem w_came (kx : Kx K) (h : RelAt K H0 H p ts a1 a2 n st S) (ho : EvD M0 K te Δ H (.r (.ref p))) : EvD M0 K (tFld K te "came_by") Δ H (.r (.ref a2)) := by
  obtain ⟨dx, fs, hp, r0, r1, r2, r3, r4, r5, r6⟩ := h.ins
  exact w_fld ho hp (fun z => z) kx.cl kx.nC r3 (.r _)
theorem w_last (kx : Kx K) (h : RelAt K H0 H p ts a1 a2 n st S) (ho : EvD M0 K te Δ H (.r (.ref p))) : EvD M0 K (tFld K te "last") Δ H (optI S.last) := by
  obtain ⟨dx, fs, hp, r0, r1, r2, r3, r4, r5, r6⟩ := h.ins
  refine w_fld ho hp (fun z => z) kx.cl kx.nL r4 ?_
  cases S.last with
  | none => exact .n
  | some v => exact .i _
/-- self.f = e -/
theorem s_fld {C dx : Addr} {fs : List (PySem.Str × V)} {x : PySem.Str} {ta tv : TE} {P : PyD → Prop} (hp : H p = some (.ins C dx fs)) (cl : Cls K C) (na : NoAttr K C x) (hl : fs.length < 1000) (ho : EvD M0 K ta Δ H (.r (.ref p))) (h : Ev M0 K tv Δ H 0 P) (e : EnvD K σ H Δ)
    (k : ∀ H1 v d, P d → Exh H H1 → Dt K H1 v d → H1 p = some (.ins C dx fs) → EnvD K σ (upd H1 p (.ins C dx (putF x v fs))) Δ → D.nx σ (upd H1 p (.ins C dx (putF x v fs)))) : sFld K ta tv x D σ H := by
  refine h σ H 0 (Rf.refl _) e trivial (by decide) _ fun v H1 d c1 p1 r1 _ _ hv => ?_
  refine ho σ H1 0 r1 (e.tp r1.tup) trivial (by decide) _ fun y H2 d2 c2 p2 r2 _ _ hy => ?_
  subst p2
  cases hy.raw
  have x2 := (r1.trans r2).ex
  have hp2 := x2 _ _ hp
  exact ⟨p, C, dx, fs, rfl, hp2, cl, na, hl, k H2 v d p1 x2 (hv.mono r2.tup) hp2 ((e.tp x2.tp).tp (Tp.updI hp2))⟩
theorem len_Relaxing_init (h : sp_Relaxing_init K vs H Q E) : vs.length = 3 := by
  obtain ⟨_, _, _, _, _, _, _, rfl, _⟩ := h
  rfl
theorem fold0 : ∀ {n : Nat} {k : Key}, foldF (fun d => match d with | .i z => .inl z | _ => .inl 0) (fun _ => fr 0) ((List.range n).map fun k : Nat => PyD.i (k : Int)) k = (match k with
  | .inl z => if 0 ≤ z ∧ z < (n : Int) then some (fr 0) else none
  | .inr _ => none)
  | 0, k => by
    cases k with
    | inl z =>
      show none = if 0 ≤ z ∧ z < ((0 : Nat) : Int) then some (fr 0) else none
      rw [if_neg (by omega)]
    | inr x => rfl
  | n + 1, k => by
    rw [List.range_succ, List.map_append, List.map_singleton, foldF_snoc]
    unfold ptN
    show (if k = .inl ((n : Nat) : Int) then some (fr 0) else _) = _
    rw [fold0 (n := n)]
    cases k with
    | inr x => rw [if_neg fun z => by cases z]
    | inl z =>
      show (if (Sum.inl z : Key) = .inl ((n : Nat) : Int) then some (fr 0) else if 0 ≤ z ∧ z < (n : Int) then some (fr 0) else none) = if 0 ≤ z ∧ z < ((n + 1 : Nat) : Int) then some (fr 0) else none
      by_cases c : z = (n : Int)
      · rw [if_pos (by rw [c]), if_pos (by omega)]
      · rw [if_neg fun e => c (by injection e)]
        by_cases c2 : 0 ≤ z ∧ z < (n : Int)
        · rw [if_pos c2, if_pos (by omega)]
        · rw [if_neg c2, if_neg (by omega)]
theorem rd_Relaxing_init (kx : Kx K) (h : sp_Relaxing_init K vs H Q E) : t_Relaxing_init K { nx := fun _ H' => Q .non H', rt := Q } (start N_Relaxing_init vs) H := by
  obtain ⟨H0, h, p, dx, l, d, w, rfl, hd, hl, x0, p0, hp, q⟩ := h
  have wl := w.len
  have e := EnvD.st (N := N_Relaxing_init) (ds := [.r (.ref p), dHist h, .r (.ref l)]) (K := K) (H := H) (.cons (.r (.ref p)) (.cons hd (.cons (.r (.ref l)) .nil)))
  refine sq (s_fld (P := (· = .t ((steps h).map dStep))) hp kx.cl kx.nA (by decide) (ed_var rfl) (ed_call (ea_cons (ed_var rfl) ea_nil) (CallD.of fun xs H1 Q E r hx q => ⟨h, w, hx, q⟩)) e fun H1 v1 d1 pd1 x1 hv1 hp1 e1 => ?_)
  subst pd1
  obtain ⟨ts, us, rfl, hts, hds⟩ := hv1.tup
  have hv1 : Dt K H1 (.ref ts) (.t ((steps h).map dStep)) := .t hts hds
  dsimp only
  have nl : l ≠ p := fun z => by
    subst z
    rw [hp] at hl
    cases hl
  generalize hH2 : upd H1 p (.ins (He.ga K "Relaxing") dx (putF "all_steps" (.ref ts) [])) = H2 at e1 ⊢
  have t2 : Tp H1 H2 := by rw [← hH2]; exact Tp.updI hp1
  have hl2 : H2 l = some (.lst ((List.range h.ev.length).map fun i : Nat => V.int (i : Int))) := by
    rw [← hH2, upd_ne nl]
    exact x1 _ _ hl
  have hp2 : H2 p = some (.ins (He.ga K "Relaxing") dx (putF "all_steps" (.ref ts) [])) := by
    rw [← hH2]
    exact upd_same
  have x02 : Exh H0 H2 := by
    rw [← hH2]
    exact (x0.trans x1).mut p0
  have hdl : ∀ H3, Exh H2 H3 → H3 l = some (.lst ((List.range h.ev.length).map fun i : Nat => V.int (i : Int))) ∧ Dts K H3 ((List.range h.ev.length).map fun i : Nat => V.int (i : Int)) ((List.range h.ev.length).map fun k : Nat => PyD.i (k : Int)) := fun H3 x3 => by
    refine ⟨x3 _ _ hl2, ?_⟩
    generalize List.range h.ev.length = rs
    induction rs with
    | nil => exact .nil
    | cons a rs ih => exact .cons (.i _) ih
  have ek := ek_dc (M := M0) (K := K) (H := H2) (n := 0) (g := gName 3) (tk := tVar 3) (tv := tC (.ref (He.ga K "NOUGHT"))) (vs := [3]) (kf := fun d => match d with | .i z => .inl z | _ => .inl 0) (vf := fun _ => fr 0)
    (it_list (a := l) (ed_var (i := 2) (Δ := [.r (.ref p), dHist h, .r (.ref l)].map some ++ List.replicate (N_Relaxing_init.length - 3) none) rfl) fun H3 r3 => hdl H3 r3.ex) (fun H3 H4 r3 r4 => ⟨r4.tup, (hdl H4 (r3.trans r4).ex).1⟩)
    (by rw [List.length_map, List.length_range]; omega) (fun d hdd => by
      obtain ⟨i, _, rfl⟩ := List.mem_map.mp hdd
      exact ⟨_, tg_name (by decide), ed_var rfl, w_const kx.nought⟩)
  dsimp only [tSeq, sFld]
  refine ek _ H2 0 (Rf.refl _) e1 trivial (by decide) _ fun b1 H3 kvs F c' pf hb1 hk3 hf hkl r3 _ _ => ?_
  subst pf
  have x3 := r3.ex
  have e3 := e1.tp x3.tp
  refine (ed_var (M := M0) (K := K) (H := H3) (d := .r (.ref p)) (i := 0) rfl) _ H3 0 (Rf.refl _) e3 trivial (by decide) _ fun y H4 d4 c4 p4 r4 _ _ hy => ?_
  subst p4
  cases hy.raw
  have x4 := x3.trans r4.ex
  refine ⟨p, _, dx, _, rfl, x4 _ _ hp2, kx.cl, kx.nS, Nat.le_of_ble_eq_true rfl, ?_⟩
  have hk4 := r4.ex _ _ hk3
  have hf4 := hf.mono r4.tup
  have hp4 := x4 _ _ hp2
  have b1p : b1 ≠ p := fun z => by
    subst z
    rw [hp2] at hb1
    cases hb1
  generalize hH5 : upd H4 p (.ins (He.ga K "Relaxing") dx (putF "sums" (.ref b1) (putF "all_steps" (.ref ts) []))) = H5
  have t5 : Tp H4 H5 := by rw [← hH5]; exact Tp.updI hp4
  have hp5 : H5 p = some (.ins (He.ga K "Relaxing") dx (putF "sums" (.ref b1) (putF "all_steps" (.ref ts) []))) := by
    rw [← hH5]
    exact upd_same
  have hk5 : H5 b1 = some (.dK kvs) := by
    rw [← hH5, upd_ne b1p]
    exact hk4
  have hb0 : H0 b1 = none := x02.free hb1
  have x05 : Exh H0 H5 := by
    rw [← hH5]
    exact (x02.trans x4).mut p0
  have e5 := (e3.tp r4.tup).tp t5
  -- the steps by which they came
  intro b2 hb2
  have x6 : Exh H5 (upd H5 b2 (.dK [])) := Exh.new hb2
  have e6 := e5.tp x6.tp
  refine (ed_var (M := M0) (K := K) (H := upd H5 b2 (.dK [])) (d := .r (.ref p)) (i := 0) rfl) _ _ 0 (Rf.refl _) e6 trivial (by decide) _ fun y H7 d7 c7 p7 r7 _ _ hy => ?_
  subst p7
  cases hy.raw
  have x7 := x6.trans r7.ex
  have hp7 := x7 _ _ hp5
  refine ⟨p, _, dx, _, rfl, hp7, kx.cl, kx.nC, Nat.le_of_ble_eq_true rfl, ?_⟩
  have hq7 : H7 b2 = some (.dK []) := r7.ex _ _ upd_same
  have hb20 : H0 b2 = none := x05.free hb2
  have b2p : b2 ≠ p := fun z => by
    subst z
    rw [hp5] at hb2
    cases hb2
  have b12 : b1 ≠ b2 := fun z => by
    subst z
    rw [hk5] at hb2
    cases hb2
  have hk7 := x7 _ _ hk5
  generalize hH8 : upd H7 p (.ins (He.ga K "Relaxing") dx (putF "came_by" (.ref b2) (putF "sums" (.ref b1) (putF "all_steps" (.ref ts) [])))) = H8
  have t8 : Tp H7 H8 := by rw [← hH8]; exact Tp.updI hp7
  have hp8 : H8 p = some (.ins (He.ga K "Relaxing") dx (putF "came_by" (.ref b2) (putF "sums" (.ref b1) (putF "all_steps" (.ref ts) [])))) := by
    rw [← hH8]
    exact upd_same
  have hk8 : H8 b1 = some (.dK kvs) := by
    rw [← hH8, upd_ne b1p]
    exact hk7
  have hq8 : H8 b2 = some (.dK []) := by
    rw [← hH8, upd_ne b2p]
    exact hq7
  have x08 : Exh H0 H8 := by
    rw [← hH8]
    exact (x05.trans x7).mut p0
  have e8 := (e6.tp r7.tup).tp t8
  show sFld K (tVar 0) (tC .non) "last" { nx := fun _ H' => Q .non H', rt := Q } _ _
  refine s_fld (P := (· = .n)) hp8 kx.cl kx.nL (Nat.le_of_ble_eq_true rfl) (ed_var rfl) ed_non e8 fun H9 v9 d9 pd9 x9 hv9 hp9 e9 => ?_
  subst pd9
  cases hv9.non
  have t9 : Tp H1 H9 := (((((t2.trans x3.tp).trans r4.tup).trans t5).trans x7.tp).trans t8).trans x9.tp
  have tt := Tp.updI (o := .ins (He.ga K "Relaxing") dx (putF "last" .non (putF "came_by" (.ref b2) (putF "sums" (.ref b1) (putF "all_steps" (.ref ts) []))))) hp9
  have t49 : Tp H4 H9 := (((t5).trans x7.tp).trans t8).trans x9.tp
  refine q _ ts b1 b2 ⟨(x08.trans x9).mut p0, p0, hb0, hb20, ⟨dx, _, upd_same, Nat.le_of_ble_eq_true rfl, rfl, rfl, rfl, rfl, rfl, rfl⟩, hv1.mono (t9.trans tt), ⟨kvs, ?_⟩, ⟨[], ?_⟩, b12⟩
  · have hf9 := hf4.mono (t49.trans tt)
    refine ⟨by rw [upd_ne b1p]; exact x9 _ _ hk8, hf9.1, fun kv hkv => ?_, fun k hk => ?_, fun k dd hk => ?_⟩
    · obtain ⟨key, v⟩ := kv
      cases hF : foldF (fun d => match d with | .i z => .inl z | _ => .inl 0) (fun _ => fr 0) ((List.range h.ev.length).map fun k : Nat => PyD.i (k : Int)) key with
      | none =>
        have := valV_not ((hf9.2 key).1 hF)
        exact absurd (List.mem_map.mpr ⟨(key, v), hkv, rfl⟩) this
      | some dd =>
        rw [fold0] at hF
        cases key with
        | inr x => cases hF
        | inl z =>
          have hF : (if 0 ≤ z ∧ z < ((h.ev.length : Nat) : Int) then some (fr 0) else none) = some dd := hF
          by_cases c : 0 ≤ z ∧ z < ((h.ev.length : Nat) : Int)
          · exact ⟨z.toNat, by omega, by show (Sum.inl z : Key) = .inl (z.toNat : Int); rw [Int.toNat_of_nonneg c.1]⟩
          · rw [if_neg c] at hF
            cases hF
    · refine (hf9.2 (.inl (k : Int))).1 ?_
      rw [fold0]
      unfold sumsF at hk
      show (if 0 ≤ (k : Int) ∧ (k : Int) < ((h.ev.length : Nat) : Int) then some (fr 0) else none) = none
      by_cases c : k < h.ev.length
      · rw [if_pos c] at hk
        cases hk
      · rw [if_neg (by omega)]
    · refine (hf9.2 (.inl (k : Int))).2 dd ?_
      rw [fold0]
      unfold sumsF at hk
      show (if 0 ≤ (k : Int) ∧ (k : Int) < ((h.ev.length : Nat) : Int) then some (fr 0) else none) = some dd
      by_cases c : k < h.ev.length
      · rw [if_pos c] at hk
        rw [if_pos (by omega)]
        exact hk
      · rw [if_neg c] at hk
        cases hk
  · exact DicI.empty (by rw [upd_ne b2p]; exact x9 _ _ hq8)
end
end K27
/-! The readings keep the promises: sums by rounds, on. -/
namespace K27
open PySem PySem.Spec PyProof.Rows L2 KM
section
variable {K : PySem.W.Frag} {vs : List V} {H H' H0 : Hp} {Q : VK} {E : XK} {p ts a1 a2 : Addr} {n : Nat} {st : Steps} {S : BF} {Δ : List (Option PyD)} {te : TE} {σ : L2.St} {D : Ends}
theorem gNest {i : Nat} {is : List Nat} {v : V} {d : PyD} {ds : List PyD} {QQ : L2.St → Hp → Prop} (hv : Dt K H v (.t [d, .t ds])) (hl : is.length = ds.length) (e : EnvD K σ H Δ) (k : ∀ σ', EnvD K σ' H (setN (Δ.set i (some d)) is ds) → QQ σ' H) : gTup K 2 (gCons (gName i) (gCons (gTup K is.length (gNames is)) gNil)) v σ H QQ := by
  obtain ⟨a, xs, rfl, hs, hd⟩ := hv.tup
  obtain ⟨x, y, rfl, hx, hy⟩ := hd.two'
  exact ⟨a, _, rfl, hs, rfl, x, _, rfl, y, _, rfl, gTup_ok hy hl (e.set hx) fun σ' e' => ⟨rfl, k σ' e'⟩⟩
theorem len_Relaxing_go_round (h : sp_Relaxing_go_round K vs H Q E) : vs.length = 1 := by
  obtain ⟨_, _, _, _, _, _, _, _, _, rfl, _⟩ := h
  rfl
theorem rd_Relaxing_go_round (kx : Kx K) (h : sp_Relaxing_go_round K vs H Q E) : t_Relaxing_go_round K { nx := fun _ H' => Q .non H', rt := Q } (start N_Relaxing_go_round vs) H := by
  obtain ⟨H0, p, ts, a1, a2, n, st, S, r, rfl, hn, w, ra, r1, g, q⟩ := h
  have e := EnvD.st (N := N_Relaxing_go_round) (ds := [.r (.ref p)]) (K := K) (H := H) (.one (.r (.ref p)))
  obtain ⟨dx, fs, hp, f0, _⟩ := ra.ins
  refine sq (s_fld (P := (· = .n)) hp kx.cl kx.nL (by omega) (ed_var rfl) ed_non e fun H1 v d pd x1 hv hp1 e1 => ?_)
  subst pd
  cases hv.non
  have ra2 := (ra.on x1).setL hp1 none
  have ra2 : RelAt K H0 (upd H1 p (.ins (He.ga K "Relaxing") dx (putF "last" .non fs))) p ts a1 a2 n st { S with last := none } := ra2
  dsimp only
  refine sq (s_for (M := M0) (c := 0) (it_enT (ea_cons (w_all kx ra2 (ed_var rfl)) ea_nil)) e1 trivial (by decide) fun H2 ds c' pd r2 e2 _ _ => ?_)
  subst pd
  refine ⟨fun j σ' H' => Tp H2 H' ∧ EnvD K σ' H' [some (.r (.ref p)), none, none, none, none, none] ∧ ∃ S', RelAt K H0 H' p ts a1 a2 n st S' ∧ GhE n st r j S', ⟨Tp.refl _, e2, _, ra2.on r2.ex, g⟩, fun _ _ _ h => h.1, ?_, ?_⟩
  · rintro j d σ' H' H3 v hdj ⟨t', e', S', ra', T, U, clk, gh⟩ x3 hv
    rw [enD_at, List.getElem?_map] at hdj
    cases hs : st[j]? with
    | none =>
      rw [hs] at hdj
      cases hdj
    | some s =>
      rw [hs] at hdj
      cases hdj
      obtain ⟨x, y, wt⟩ := s
      obtain ⟨hx, hy, hxy⟩ := w.at hs
      have hx : x < n := hx
      have hy : y < n := hy
      have gh' := Gh.step w gh hs r1
      have e3 := e'.tp x3.tp
      have ra3 := ra'.on x3
      refine gNest (is := [2, 3, 4]) (ds := [.i (x : Int), .i (y : Int), fr wt]) hv rfl e3 fun σ4 e4 => ?_
      obtain ⟨kvs, hk⟩ := ra3.sums
      have gx : sumsF n S'.d x = some (fr (S'.d x)) := if_pos hx
      have gy : sumsF n S'.d y = some (fr (S'.d y)) := if_pos hy
      refine s_if0 (k := true) ((et_B (w_din hk (fun z => z) (w_sums kx ra3 (ed_var rfl)) (ed_var (d := dInt x) rfl))).is (by rw [gx]; rfl)) e4 (fun _ H5 x5 e5 => ?_) fun z => by cases z
      have ra5 := ra3.on x5
      have hk5 := hk.mono x5.tp (x5 _ _ hk.at_)
      refine sq (s_asg0 (P := (· = fr (S'.d x + wt))) (ed_call (ea_cons (w_dget hk5 (fun z => z) (w_sums kx ra5 (ed_var rfl)) (ed_var (d := dInt x) rfl) gx) (ea_cons (ed_var rfl) ea_nil)) (CallD.of fun xs H1 Q E r hx q => ⟨_, _, hx, q⟩)) e5 fun σ6 H6 d6 p6 x6 e6 => ?_)
      subst p6
      dsimp only
      have ra6 := ra5.on x6
      have hk6 := hk5.mono x6.tp (x6 _ _ hk5.at_)
      have t6 : Tp H2 H6 := ((t'.trans x3.tp).trans x5.tp).trans x6.tp
      have tst : EtD M0 K (tOr (tB (tDNotIn (tVar 3) (tFld K (tVar 0) "sums"))) (tB (tCall (sp_is_below K) [] E0 (tCons (tVar 5) (tCons (tDGet (tFld K (tVar 0) "sums") (tVar 3)) tNil))))) ((setN (([some (.r (.ref p)), none, none, none, none, none] : List (Option PyD)).set 1 (some (.i (j : Int)))) [2, 3, 4] [.i (x : Int), .i (y : Int), fr wt]).set 5 (some (fr (S'.d x + wt)))) H6 (decide (S'.d x + wt < S'.d y)) := by
        refine (et_or (a := false) (b := decide (S'.d x + wt < S'.d y)) ((et_B (w_dnin hk6 (fun z => z) (w_sums kx ra6 (ed_var rfl)) (ed_var (d := dInt y) rfl))).is (by rw [gy]; rfl)) fun _ => et_B (ed_call (ea_cons (ed_var rfl) (ea_cons (w_dget hk6 (fun z => z) (w_sums kx ra6 (ed_var rfl)) (ed_var (d := dInt y) rfl) gy) ea_nil)) (CallD.of fun xs H1 Q E r hx q => ⟨_, _, hx, q⟩))).is (by rw [Bool.false_or])
      refine s_if0 tst e6 (fun hlt H7 x7 e7 => ?_) fun hlt H7 x7 e7 => ?_
      · have ra7 := ra6.on x7
        have hk7 := hk6.mono x7.tp (x7 _ _ hk6.at_)
        refine sq (s_dput (M := M0) (c := 0) (n := 0) (P := (· = fr (S'.d x + wt))) hk7 (fun z => z) (w_sums kx ra7 (ed_var rfl)) (ed_var (d := dInt y) rfl) (ed_var rfl) hy hn e7 trivial (by decide) fun H8 H9 d8 v8 c8 p8 r8 hv8 hk8 eH _ e9 _ _ => ?_)
        subst p8
        have ra9 := (ra7.on r8.ex).setD hk8 hy hv8
        rw [← eH] at ra9
        have t9 : Tp H7 H9 := by
          rw [eH]
          exact r8.tup.trans (Tp.updK hk8)
        dsimp only
        obtain ⟨kc, hc⟩ := ra9.came
        refine sq (s_dput (M := M0) (c := 0) (n := 0) (P := (· = dInt j)) hc (fun z => z) (w_came kx ra9 (ed_var rfl)) (ed_var (d := dInt y) rfl) (ed_var rfl) hy hn e9 trivial (by decide) fun H10 H11 d10 v10 c10 p10 r10 hv10 hk10 eH11 _ e11 _ _ => ?_)
        subst p10
        have ra11 := (ra9.on r10.ex).setP hk10 hy hv10
        rw [← eH11] at ra11
        have t11 : Tp H9 H11 := by
          rw [eH11]
          exact r10.tup.trans (Tp.updK hk10)
        dsimp only
        obtain ⟨dx', fs', hp11, f0', _⟩ := ra11.ins
        refine s_fld (P := (· = dInt y)) hp11 kx.cl kx.nL (by omega) (ed_var rfl) (ed_var rfl) e11 fun H12 v12 d12 p12 x12 hv12 hp12 e12 => ?_
        subst p12
        cases hv12.int
        have ra13 := (ra11.on x12).setL hp12 (some y)
        have er : relax j (x, y, wt) S' = ⟨pt S'.d y (S'.d x + wt), pt S'.p y (some j), some y⟩ := if_pos (of_decide_eq_true hlt)
        rw [er] at gh'
        exact ⟨((((t6.trans x7.tp).trans t9).trans t11).trans x12.tp).trans (Tp.updI hp12), ((((e12.drop 1).drop 2).drop 3).drop 4).drop 5, _, ra13, gh'⟩
      · have er : relax j (x, y, wt) S' = S' := if_neg (of_decide_eq_false hlt)
        rw [er] at gh'
        exact ⟨t6.trans x7.tp, ((((e7.drop 1).drop 2).drop 3).drop 4).drop 5, S', ra6.on x7, gh'⟩
  · rintro σ' H' ⟨t', e', S', ra', g'⟩
    rw [enD_length, List.length_map] at g'
    dsimp only
    refine s_ret0 (P := (· = .b S'.last.isSome)) ?_ e' fun v H2 d pd x2 hv => ?_
    · have h1 := w_last kx ra' (ed_var (i := 0) (Δ := [some (.r (.ref p)), none, none, none, none, none]) rfl)
      cases hl : S'.last with
      | none =>
        rw [hl] at h1
        exact w_notT h1
      | some v =>
        rw [hl] at h1
        exact w_notFI h1
    · subst pd
      cases hv.bl
      exact q H2 S' (ra'.on x2) g'
theorem Dts.rev : ∀ {vs : List V} {ds : List PyD}, Dts K H vs ds → Dts K H vs.reverse ds.reverse
  | [], [], _ => .nil
  | [], d :: ds, h => by cases h
  | v :: vs, [], h => by cases h
  | v :: vs, d :: ds, h => by
    cases h with
    | cons h hs =>
      rw [List.reverse_cons, List.reverse_cons]
      exact (Dts.rev hs).snoc h
theorem el_rev {l : Addr} {us : List V} {ds : List PyD} (ho : EvD M0 K te Δ H (.r (.ref l))) (hl : H l = some (.lst us)) (hd : Dts K H us ds) : ElD M0 K (tRevL K te) Δ H ds.reverse := fun σ H1 c r1 e1 s1 hc Q q => by
  refine ho σ H1 c r1 e1 s1 hc _ fun x H2 d c2 p2 r2 s2 hc2 hx => ?_
  subst p2
  cases hx.raw
  have r := r1.trans r2
  refine ⟨l, us, rfl, SqL.of (r.ex _ _ hl), fun p hp => ?_⟩
  have x3 := Exh.new (o := .lst us.reverse) hp
  exact q p _ us.reverse ds.reverse c2 rfl (r2.ex.free hp) upd_same ((hd.mono r.tup).rev.mono x3.tp) (r2.trans x3.rf) trivial hc2
theorem trail_rev {u : Nat} : ∀ {c : Nat}, ((List.range c).map fun j => (S.p (back st S j u)).getD 0).reverse = trail st S u c
  | 0 => rfl
  | c + 1 => by
    rw [List.range_succ, List.map_append, List.map_singleton, List.reverse_append]
    show _ :: _ = _
    rw [trail_rev (c := c)]
    rfl
theorem atI_last {α : Type} {xs : List α} {x : α} {k : Nat} (h : xs[k]? = some x) (hl : xs.length = k + 1) : atI xs (-1) = some x := by
  unfold atI ixN
  rw [hl, if_neg (by decide), if_pos (by omega)]
  show xs[((-1 : Int) + ((k + 1 : Nat) : Int)).toNat]? = some x
  rw [show ((-1 : Int) + ((k + 1 : Nat) : Int)).toNat = k by omega]
  exact h
theorem len_Relaxing_ring_back (h : sp_Relaxing_ring_back K vs H Q E) : vs.length = 2 := by
  obtain ⟨_, _, _, _, _, _, _, _, _, rfl, _⟩ := h
  rfl
theorem rd_Relaxing_ring_back (kx : Kx K) (h : sp_Relaxing_ring_back K vs H Q E) : t_Relaxing_ring_back K { nx := fun _ H' => Q .non H', rt := Q } (start N_Relaxing_ring_back vs) H := by
  obtain ⟨H0, p, ts, a1, a2, n, st, S, v, rfl, hn, ra, hl, ⟨T, U, clk, gh⟩, w, q⟩ := h
  have ci := gh.circ w hl
  obtain ⟨kc, hc⟩ := ra.came
  -- a step back
  have one : ∀ (Δ : List (Option PyD)) (i m : Nat) (H1 : Hp) (tv : TE), Exh H H1 → EvD M0 K (tVar 0) Δ H1 (.r (.ref p)) → EvD M0 K tv Δ H1 (dInt (back st S m v)) → EvD M0 K (tDGet (tFld K (tVar 0) "came_by") tv) Δ H1 (dInt ((S.p (back st S m v)).getD 0)) := fun Δ i m H1 tv x1 h0 hv => by
    obtain ⟨k, s, hk, _⟩ := ci.some_ m
    refine w_dget (hc.mono x1.tp (x1 _ _ hc.at_)) (fun z => z) (w_came kx (ra.on x1) h0) hv ?_
    unfold cameF
    rw [hk]
    rfl
  have two : ∀ (Δ : List (Option PyD)) (m : Nat) (H1 : Hp) (tv : TE), Exh H H1 → EvD M0 K (tVar 0) Δ H1 (.r (.ref p)) → EvD M0 K tv Δ H1 (dInt ((S.p (back st S m v)).getD 0)) → EvD M0 K (tOp (rIxT K) (tOp (rIxT K) (tFld K (tVar 0) "all_steps") tv) (tC (.int 0))) Δ H1 (dInt (back st S (m + 1) v)) := fun Δ m H1 tv x1 h0 hv => by
    obtain ⟨k, s, hk, hs, e1, e2⟩ := ci.some_ m
    rw [hk] at hv
    have := w_ix (i := 0) (w_ixv (w_all kx (ra.on x1) h0) hv (atI_map (f := dStep) hs)) (d := .i (s.1 : Int)) rfl
    rw [e2] at this
    exact this
  have e := EnvD.st (N := N_Relaxing_ring_back) (ds := [.r (.ref p), .i ((n : Int) + 1)]) (K := K) (H := H) (.cons (.r (.ref p)) (.one (.i _)))
  refine sq (s_asg0 (P := (· = dInt v)) ((w_last kx ra (ed_var rfl)).is (by rw [hl]; rfl)) e fun σ1 H1 d1 p1 x1 e1 => ?_)
  subst p1
  dsimp only
  refine sq (s_for (M := M0) (c := 0) (it_rngD (k := n + 1) (ea_cons ((ed_var (d := .i ((n : Int) + 1)) rfl).is (show PyD.i ((n : Int) + 1) = .i ((n + 1 : Nat) : Int) from congrArg PyD.i (by omega))) ea_nil) (by omega)) e1 trivial (by decide) fun H2 ds c' pd r2 e2 _ _ => ?_)
  subst pd
  refine ⟨fun i σ' H' => Exh H H' ∧ EnvD K σ' H' [some (.r (.ref p)), some (.i ((n : Int) + 1)), some (dInt (back st S i v)), none, none], ⟨x1.trans r2.ex, e2⟩, fun _ _ _ _ => trivial, ?_, ?_⟩
  · rintro i d σ' H' H3 v3 hdi ⟨x', e'⟩ x3 hv3
    have e3 := (e'.tp x3.tp).set (i := 3) hv3
    refine s_asg0 (P := (· = dInt (back st S (i + 1) v))) (two _ i H3 _ (x'.trans x3) (ed_var rfl) (one _ i i H3 _ (x'.trans x3) (ed_var rfl) (ed_var rfl))) e3 fun σ4 H4 d4 p4 x4 e4 => ?_
    subst p4
    exact ⟨(x'.trans x3).trans x4, e4.drop 3⟩
  · rintro σ' H' ⟨x', e'⟩
    rw [List.length_map, List.length_range] at e'
    dsimp only
    obtain ⟨c, c0, cn, hper⟩ := ci.per
    refine sq (s_asgB (M := M0) (c := 0) (el_lst (ea_cons (one _ 0 (n + 1) H' _ x' (ed_var rfl) (ed_var rfl)) ea_nil)) e' trivial (by decide) fun σ3 H3 l c3 b3 e3 _ _ => ?_)
    have b3 := b3.backX x'
    dsimp only
    generalize hu : back st S (n + 1) v = u at hper e3 b3
    have bk : ∀ m, back st S (n + 1 + m) v = back st S m u := fun m => by rw [back_add, hu]
    have hcu : back st S c u = u := by rw [← bk]; exact hper
    refine sq ⟨fun m σ' H' => ∃ i, i + 1 ≤ c ∧ m = c - i ∧ Bld M0 K H H' l (((List.range (i + 1)).map fun j => (S.p (back st S j u)).getD 0).map dInt) ∧ EnvD K σ' H' [some (.r (.ref p)), some (.i ((n : Int) + 1)), some (dInt u), none, some (.r (.ref l))], ⟨c, 0, by omega, rfl, b3, e3⟩, ?_⟩
    rintro m σ4 H4 ⟨i, hi, rfl, b4, e4⟩
    obtain ⟨us, hus, hds⟩ := b4.at_
    have lst : ∀ H5, Exh H4 H5 → EvD M0 K (tOp (rIxL K) (tVar 4) (tUn (rU fun i => .int (-i)) (tC (.int 1)))) [some (.r (.ref p)), some (.i ((n : Int) + 1)), some (dInt u), none, some (.r (.ref l))] H5 (dInt ((S.p (back st S (n + 1 + i) v)).getD 0)) := fun H5 x5 => by
      refine ed_op (ed_var rfl) (w_neg ed_int) (rop_ixL (x5 _ _ hus) (fun z => z) (hds.mono x5.tp) (atI_last (k := i) ?_ (by rw [List.length_map, List.length_map, List.length_range])))
      rw [List.getElem?_map, List.getElem?_map, List.getElem?_range (by omega), bk]
      rfl
    have tst : EtD M0 K (tTest (tOp rNe (tOp (rIxT K) (tOp (rIxT K) (tFld K (tVar 0) "all_steps") (tOp (rIxL K) (tVar 4) (tUn (rU fun i => .int (-i)) (tC (.int 1))))) (tC (.int 0))) (tVar 2))) [some (.r (.ref p)), some (.i ((n : Int) + 1)), some (dInt u), none, some (.r (.ref l))] H4 (!decide (back st S (i + 1) u = u)) := by
      refine (et_test (w_neI (two _ (n + 1 + i) H4 _ b4.ex (ed_var rfl) (lst H4 (Exh.refl _))) (ed_var (d := dInt u) rfl))).is ?_
      rw [Nat.add_assoc, bk]
      have : ((back st S (i + 1) u : Nat) : Int) = (u : Int) ↔ back st S (i + 1) u = u := by omega
      rw [decide_eq_decide.mpr this]
    refine tst σ4 H4 0 (Rf.refl _) e4 trivial (by decide) _ fun b H5 c5 pb r5 _ _ => ?_
    subst pb
    have x5 := r5.ex
    by_cases hc5 : back st S (i + 1) u = u
    · rw [decide_eq_true hc5]
      refine iteF ?_
      dsimp only
      refine s_ret0 (P := (· = dRing (trail st S u (i + 1)))) ((ed_tupL (el_rev (ed_var rfl) (x5 _ _ hus) (hds.mono x5.tp))).is ?_) (e4.tp x5.tp) fun v6 H6 d6 p6 x6 hv6 => ?_
      · unfold dRing
        rw [← List.map_reverse, trail_rev]
      · refine q v6 H6 d6 ⟨_, p6, gh.ring (fun m => ?_) (by omega) hc5, by rw [← trail_rev, List.length_reverse, List.length_map, List.length_range]; omega⟩ ((b4.ex.trans x5).trans x6) hv6
        have := ci.some_ (n + 1 + m)
        rw [bk, Nat.add_assoc, bk] at this
        exact this
    · rw [decide_eq_false hc5]
      have hi2 : i + 1 + 1 ≤ c := by
        have : i + 1 ≠ c := fun z => hc5 (by rw [z]; exact hcu)
        omega
      refine iteT ⟨fun σ' H' => Bld M0 K H H' l (((List.range (i + 1 + 1)).map fun j => (S.p (back st S j u)).getD 0).map dInt) ∧ EnvD K σ' H' [some (.r (.ref p)), some (.i ((n : Int) + 1)), some (dInt u), none, some (.r (.ref l))], fun σ' H' ⟨b', e'⟩ => ⟨c - (i + 1), by omega, i + 1, hi2, rfl, b', e'⟩, ?_⟩
      refine s_appB (M := M0) (c := 0) (n := 0) (P := (· = dInt ((S.p (back st S (n + 1 + i + 1) v)).getD 0))) (b4.onX x5) (ed_var rfl) (one _ 0 (n + 1 + i + 1) H5 _ (b4.ex.trans x5) (ed_var rfl) (two _ (n + 1 + i) H5 _ (b4.ex.trans x5) (ed_var rfl) (lst H5 x5))) ?_ (e4.tp x5.tp) trivial (by decide) fun H6 H7 d v7 c7 pd r7 hv7 _ b7 e7 _ _ => ⟨?_, e7⟩
      · rw [List.length_map, List.length_map, List.length_range]
        omega
      · rw [pd, Nat.add_assoc, bk] at b7
        rw [List.range_succ, List.map_append, List.map_append]
        exact b7
end
end K27
/-! The readings keep the promises: worlds and rings. -/
namespace K27
open PySem PySem.Spec PyProof.Rows L2 KM
section
variable {K : PySem.W.Frag} {vs : List V} {H H' H0 : Hp} {Q : VK} {E : XK} {p ts a1 a2 : Addr} {n : Nat} {st : Steps} {S : BF} {Δ : List (Option PyD)} {te td ty tx : TE} {σ : L2.St} {D : Ends} {d e : PyD}
theorem EnvD.setAny (h : EnvD K σ H Δ) (i : Nat) (x : Option V) : EnvD K (σ.set i x) H (Δ.set i none) := ⟨by rw [List.length_set, List.length_set, h.len], fun j d q => by
  obtain ⟨h1, h2⟩ := set_none q
  obtain ⟨v, hv, hd⟩ := h.at_ j d h2
  exact ⟨v, by rw [List.getElem?_set_ne fun z => h1 z.symm]; exact hv, hd⟩⟩
theorem len_relaxed (h : sp_relaxed K vs H Q E) : vs.length = 1 := by
  obtain ⟨_, _, hd, _⟩ := h
  exact hd.length
theorem w_many {Δ : List (Option PyD)} {h : HistS} {te : TE} (g : EvD M0 K te Δ H (dHist h)) : EvD M0 K (tCB (bLen K) (tCons (tOp (rIxT K) te (tC (.int 1))) tNil)) Δ H (dInt h.ev.length) := by
  have := w_len (w_ix (i := 1) (d := .t (h.ev.map dEvt)) g rfl)
  rw [List.length_map] at this
  exact this
theorem rd_relaxed (kx : Kx K) (h : sp_relaxed K vs H Q E) : t_relaxed K { nx := fun _ H' => Q .non H', rt := Q } (start N_relaxed vs) H := by
  obtain ⟨h, w, hd, q1, q2⟩ := h
  have wl := w.len
  have wst := ws w
  generalize hst : steps h = st at q1 q2 wst
  generalize hn : h.ev.length = n at q1 q2 wst wl
  have e := EnvD.st (N := N_relaxed) hd
  refine sq (s_asg0 (P := (· = dInt h.ev.length)) (w_many (ed_var rfl)) e fun σ1 H1 d1 p1 x1 e1 => ?_)
  subst p1
  rw [hn] at e1
  dsimp only [tSeq, tAsg, tMake, tCons, tNil, tLstRg, tRg1, tVar]
  obtain ⟨v0, hv0, hd0⟩ := e1.at_ 0 (dHist h) rfl
  obtain ⟨v1, hv1, hd1⟩ := e1.at_ 1 (dInt n) rfl
  cases hd1.int
  refine ⟨v0, hv0, .int (n : Int), hv1, (n : Int), rfl, ⟨by omega, by omega, by omega, by omega, by omega⟩, fun l hl => ?_⟩
  intro p dx hp hdx hne
  generalize hHB : upd H1 l (.lst (rgV 0 (n : Int))) = HB at hp hdx
  have xB : Exh H1 HB := by rw [← hHB]; exact Exh.new hl
  have hlB : HB l = some (.lst ((List.range n).map fun i : Nat => V.int (i : Int))) := by
    rw [← hHB, upd_same]
    congr 2
    unfold rgV
    have : ((n : Int) - 0).toNat = n := by omega
    rw [this]
    exact List.map_congr_left fun i _ => by rw [Int.zero_add]
  have xC : Exh HB (upd (upd HB dx (.own p)) p (.ins (He.ga K "Relaxing") dx [])) := (Exh.new hdx).mut hp
  refine ⟨HB, h, p, dx, l, v0, w, rfl, hd0.mono (xB.trans xC).tp, ?_, xC, hp, upd_same, fun H5 ts a1 a2 ra => ⟨rfl, ?_⟩⟩
  · rw [hn]
    exact xC _ _ hlB
  rw [hst, hn] at ra
  have eB : EnvD K (σ1.set 2 (some (.ref p))) HB [some (dHist h), some (dInt n), some (.r (.ref p)), none] := (e1.tp xB.tp).set (i := 2) (.r (.ref p))
  have x0B : Exh H HB := x1.trans xB
  show tFor (iRng1 (tCons (tOp oAdd (tVar 1) (tC (.int 1))) tNil)) (gName 3) (tIfS (tNot (tB (tMeth (He.ga K "Relaxing") "go_round" (sp_Relaxing_go_round K) [] E0 (tVar 2) tNil))) (tRet (tTup (tCons (tFld K (tVar 2) "sums") (tCons (tC .non) tNil)))) tNext)
    { nx := tRet (tTup (tCons (tFld K (tVar 2) "sums") (tCons (tMeth (He.ga K "Relaxing") "ring_back" (sp_Relaxing_ring_back K) [] E0 (tVar 2) (tCons (tOp oAdd (tVar 1) (tC (.int 1))) tNil)) tNil))) { nx := fun x H' => Q V.non H', rt := Q }, rt := Q } (σ1.set 2 (some (.ref p))) H5
  generalize σ1.set 2 (some (.ref p)) = σ2 at eB ⊢
  refine s_for (M := M0) (c := 0) (it_rngD (k := n + 1) (ea_cons ((w_add (ed_var (d := .i (n : Int)) rfl) ed_int).is (show PyD.i ((n : Int) + 1) = .i ((n + 1 : Nat) : Int) from congrArg PyD.i (by omega))) ea_nil) (by omega)) (eB.tp ra.ex.tp) trivial (by decide) fun H6 ds c' pd r6 e6 _ _ => ?_
  subst pd
  refine ⟨fun i σ' H' => EnvD K σ' HB [some (dHist h), some (dInt n), some (.r (.ref p)), none] ∧ ∃ S, RelAt K HB H' p ts a1 a2 n st S ∧ (i = 0 ∨ (S.last.isSome = true ∧ GhE n st i st.length S)) ∧ GhE n st (i + 1) 0 { S with last := none }, ⟨eB, S0, ra.on r6.ex, .inl rfl, ⟨_, _, _, Gh.init n st⟩⟩, fun _ _ _ _ => trivial, ?_, ?_⟩
  · rintro i d σ' H7 H8 v hdi ⟨e', S, ra', _, g'⟩ x8 hv
    have ra8 := ra'.on x8
    have e8 := (e'.tp ra8.ex.tp).set (i := 3) hv
    have eN := e'.setAny 3 (some v)
    generalize hσ : List.set σ' 3 (some v) = σ'' at e8 eN
    show tIfS _ _ _ _ (List.set σ' 3 (some v)) H8
    rw [hσ]
    obtain ⟨dx', fs', hp8, f0, f1, f2, f3, f4, f5, f6⟩ := ra8.ins
    obtain ⟨v2, hv2, hd2⟩ := e8.at_ 2 (.r (.ref p)) rfl
    cases hd2.raw
    dsimp only [tIfS, tNot, tB, tMeth, tNil]
    refine ⟨.ref p, hv2, p, dx', fs', rfl, hp8, f5, ?_⟩
    refine ⟨HB, p, ts, a1, a2, n, st, S, i + 1, rfl, by omega, wst, ra8, by omega, g', fun H9 S' ra9 g9 => ?_⟩
    refine ⟨S'.last.isSome, rfl, ?_⟩
    have e9 : EnvD K σ'' H9 [some (dHist h), some (dInt n), some (.r (.ref p)), none] := eN.tp ra9.ex.tp
    cases hb : S'.last with
    | none =>
      refine iteT ?_
      obtain ⟨T, U, clk, gh⟩ := g9
      have fit := gh.quiet hb
      refine s_ret0 (P := (· = .t [.r (.ref a1), .n])) (ed_tup (ea_cons (w_sums kx ra9 (ed_var rfl)) (ea_cons ed_non ea_nil))) e9 fun v H10 d pd x10 hv => ?_
      subst pd
      obtain ⟨kvs, hk⟩ := (ra9.on x10).sums
      exact q1 v H10 a1 S'.d kvs fit (x0B.trans (ra9.on x10).ex) hv hk
    | some u =>
      refine iteF ⟨eN, S', ra9, .inr ⟨by rw [hb]; rfl, g9⟩, ?_⟩
      obtain ⟨T, U, clk, gh⟩ := g9
      exact ⟨T, U, clk, gh.next⟩
  · rintro σ' H7 ⟨e', S, ra', hi, _⟩
    rw [List.length_map, List.length_range] at hi
    rcases hi with hi | ⟨hs, gh⟩
    · omega
    obtain ⟨u, hu⟩ := Option.isSome_iff_exists.mp hs
    have e7 := e'.tp ra'.ex.tp
    have me : Ev M0 K (tMeth (He.ga K "Relaxing") "ring_back" (sp_Relaxing_ring_back K) [] E0 (tVar 2) (tCons (tOp oAdd (tVar 1) (tC (.int 1))) tNil)) [some (dHist h), some (dInt n), some (.r (.ref p)), none] H7 0 (fun d => ∃ ks, d = dRing ks ∧ RingS st ks) := fun σ9 H9 c9 r9 e9 s9 hc9 Q9 q9 => by
      obtain ⟨v2, hv2, hd2⟩ := e9.at_ 2 (.r (.ref p)) rfl
      cases hd2.raw
      have ra9 := ra'.on r9.ex
      obtain ⟨dx', fs', hp9, f0, f1, f2, f3, f4, f5, f6⟩ := ra9.ins
      refine ⟨.ref p, hv2, p, dx', fs', rfl, hp9, f6, ?_⟩
      refine (ea_cons (M := M0) (K := K) (H := H9) (w_add (ed_var (d := .i (n : Int)) rfl) ed_int) ea_nil) σ9 H9 0 (Rf.refl _) e9 trivial (by decide) _ fun xs H10 ds c10 p10 r10 _ _ hxs => ?_
      subst p10
      obtain ⟨y, rfl, hy⟩ := hxs.one'
      cases hy.int
      exact ⟨HB, p, ts, a1, a2, n, st, S, u, rfl, by omega, ra9.on r10.ex, hu, gh, wst, fun v H11 d pd x11 hv => q9 v H11 d c9 pd (r10.trans x11.rf) trivial (by omega) hv⟩
    dsimp only
    refine s_ret0 (P := fun d => ∃ ks, d = .t [.r (.ref a1), dRing ks] ∧ RingS st ks) ?_ e7 fun v H10 d ⟨ks, pd, hr⟩ x10 hv => ?_
    · refine (ev_tup (ev_cons (w_sums kx ra' (ed_var rfl)) (ev_cons me ea_nil)) ?_).imp ?_
      · rintro ds ⟨d1, r1, rfl, _, d2, r2, rfl, _, rfl⟩
        exact Nat.le_of_ble_eq_true rfl
      · rintro d ⟨ds, rfl, d1, r1, rfl, rfl, d2, r2, rfl, ⟨ks, rfl, hr⟩, rfl⟩
        exact ⟨ks, rfl, hr⟩
    · subst pd
      exact q2 v H10 a1 ks hr (x0B.trans (ra'.on x10).ex) hv
theorem len_ring_of (h : sp_ring_of K vs H Q E) : vs.length = 1 := by
  obtain ⟨_, _, hd, _⟩ := h
  exact hd.length
theorem call_relaxed {h : HistS} (w : WF h) : CallD M0 K (sp_relaxed K) H [dHist h] 0 (fun d => ∃ v e, d = .t [.r v, e] ∧ ((e = .n ∧ ∃ t, Fits (steps h) t) ∨ ∃ ks, e = dRing ks ∧ RingS (steps h) ks)) := fun xs H1 c Q E r1 s1 hc hx q =>
  ⟨h, w, hx, fun v H' a1 t kvs f x hv _ => q v H' _ c ⟨_, _, rfl, .inl ⟨rfl, t, f⟩⟩ x.rf trivial (by omega) hv, fun v H' a1 ks r x hv => q v H' _ c ⟨_, _, rfl, .inr ⟨ks, rfl, r⟩⟩ x.rf trivial (by omega) hv⟩
theorem rd_ring_of (kx : Kx K) (h : sp_ring_of K vs H Q E) : t_ring_of K { nx := fun _ H' => Q .non H', rt := Q } (start N_ring_of vs) H := by
  obtain ⟨h, w, hd, q⟩ := h
  refine s_ret0 (P := fun d => (d = .n ∧ ∃ t, Fits (steps h) t) ∨ ∃ ks, d = dRing ks ∧ RingS (steps h) ks) ?_ (EnvD.st hd) q
  refine ev_op (n := 0) (m := 0) (ev_call (n := 0) (m := 0) (ea_cons (ed_var rfl) ea_nil) fun ds p => by subst p; exact call_relaxed w) ed_int fun d e hd he => ?_
  obtain ⟨v, e', rfl, hh⟩ := hd
  subst he
  exact fun x y H1 Q r hx hy q => rop_ixT (M := M0) (d := e') (ds := [.r v, e']) rfl x y H1 Q r hx hy fun v H2 u pu => q v H2 u (by rw [pu]; exact hh)
theorem len_world_or_ring (h : sp_world_or_ring K vs H Q E) : vs.length = 1 := by
  obtain ⟨_, _, hd, _⟩ := h
  exact hd.length
theorem rd_world_or_ring (kx : Kx K) (h : sp_world_or_ring K vs H Q E) : t_world_or_ring K { nx := fun _ H' => Q .non H', rt := Q } (start N_world_or_ring vs) H := by
  obtain ⟨h, w, hd, q⟩ := h
  have e := EnvD.st (N := N_world_or_ring) hd
  have wl := w.len
  refine sq ?_
  dsimp only [tAsg, tCall]
  refine (ea_cons (M := M0) (K := K) (H := H) (ed_var (d := dHist h) rfl) ea_nil) _ H 0 (Rf.refl _) e trivial (by decide) _ fun xs H1 ds c1 p1 r1 _ _ hxs => ?_
  subst p1
  rw [List.append_nil]
  have x1 := r1.ex
  have e1 := e.tp x1.tp
  refine ⟨h, w, hxs, fun v H2 a1 t kvs fit x2 hv hk => ?_, fun v H2 a1 ks hr x2 hv => ?_⟩
  · refine gTup_ok (is := [1, 2]) hv rfl (e1.tp x2.tp) fun σ3 e3 => ?_
    refine sq (s_if0 (k := false) (et_test (w_notT (ed_var rfl))) e3 (fun z => by cases z) fun _ H4 x4 e4 => ?_)
    dsimp only [tNext]
    have hk4 := hk.mono x4.tp (x4 _ _ hk.at_)
    refine s_ret0 (P := (· = .t [.s "world", dWorld h.ev.length t])) (ed_tup (ea_cons ed_str (ea_cons ((ed_tupL (el_lcA (f := fun d => match d with | .i z => fr (t z.toNat) | _ => .n) (it_rngD (ea_cons (w_many (ed_var rfl)) ea_nil) (by omega)) (fun _ _ _ _ => trivial) (by rw [List.length_map, List.length_range]; omega) fun d hd => ?_)).is ?_) ea_nil))) e4 fun v5 H5 d5 p5 x5 hv5 => ?_
    · obtain ⟨i, hi, rfl⟩ := List.mem_map.mp hd
      have hi := List.mem_range.mp hi
      refine ⟨_, tg_name (by decide), w_dget hk4 (fun z => z) (ed_var rfl) (ed_var (d := dInt i) rfl) (by unfold sumsF; rw [if_pos hi]; rfl)⟩
    · unfold dWorld
      rw [List.map_map]
      rfl
    · exact q v5 H5 d5 (.inl ⟨t, p5, fit⟩) (((x1.trans x2).trans x4).trans x5) hv5
  · refine gTup_ok (is := [1, 2]) hv rfl (e1.tp x2.tp) fun σ3 e3 => ?_
    refine sq (s_if0 (k := true) (et_test (w_notF (ds := ks.map dInt) (ed_var rfl))) e3 (fun _ H4 x4 e4 => ?_) fun z => by cases z)
    dsimp only
    refine s_ret0 (P := (· = .t [.s "ring", dRing ks])) (ed_tup (ea_cons ed_str (ea_cons (ed_var rfl) ea_nil))) e4 fun v5 H5 d5 p5 x5 hv5 => ?_
    exact q v5 H5 d5 (.inr ⟨ks, p5, hr⟩) (((x1.trans x2).trans x4).trans x5) hv5
theorem len_need_world (h : sp_need_world K vs H Q E) : vs.length = 1 := by
  obtain ⟨_, _, hd, _⟩ := h
  exact hd.length
theorem rd_need_world (kx : Kx K) (h : sp_need_world K vs H Q E) : t_need_world K E { nx := fun _ H' => Q .non H', rt := Q } (start N_need_world vs) H := by
  obtain ⟨h, w, hd, q, qe⟩ := h
  have e := EnvD.st (N := N_need_world) hd
  refine sq (s_asgT (M := M0) (c := 0) (n := 0) (is := [1, 2]) (PA := fun ds => PWR h (.t ds)) ((ev_call (ea_cons (ed_var rfl) ea_nil) fun ds p => by subst p; exact CallD.of (P := PWR h) fun xs H1 Q E r hx q => ⟨h, w, hx, q⟩).imp fun d pd => ?_) (fun ds pd => ?_) e trivial (by decide) fun σ1 H1 ds c1 pd r1 e1 _ _ => ?_)
  · rcases pd with ⟨t, rfl, f⟩ | ⟨ks, rfl, r⟩
    · exact ⟨_, rfl, .inl ⟨t, rfl, f⟩⟩
    · exact ⟨_, rfl, .inr ⟨ks, rfl, r⟩⟩
  · rcases pd with ⟨t, e, f⟩ | ⟨ks, e, r⟩
    · cases e
      rfl
    · cases e
      rfl
  have x1 := r1.ex
  dsimp only
  rcases pd with ⟨t, ed, f⟩ | ⟨ks, ed, r⟩
  · cases ed
    refine sq (s_if0 (k := false) ((et_test (w_eqS (ed_var rfl) ed_str)).is (by decide)) e1 (fun z => by cases z) fun _ H2 x2 e2 => ?_)
    dsimp only [tNext]
    exact s_ret0 (P := (· = dWorld h.ev.length t)) (ed_var rfl) e2 fun v3 H3 d3 p3 x3 hv3 => q v3 H3 d3 ⟨t, f⟩ ((x1.trans x2).trans x3) hv3
  · cases ed
    refine sq (s_if0 (k := true) ((et_test (w_eqS (ed_var rfl) ed_str)).is (by decide)) e1 (fun _ H2 x2 e2 => ?_) fun z => by cases z)
    obtain ⟨v, hv, hdv⟩ := e2.at_ 2 (dRing ks) rfl
    refine ⟨v, hv, Nat.le_of_ble_eq_true rfl, fun a ha => ?_⟩
    refine ⟨a, v, rfl, upd_same, fun dx hdx hne => ⟨rfl, dx, [(("ring" : PySem.Str), v)], upd_same, ?_, ?_, ?_⟩⟩
    · rw [upd_ne hne, upd_same]
    · rw [upd_ne hne] at hdx
      exact hdx
    · rw [upd_ne hne] at hdx
      refine qe ks dx _ _ v r ((x1.trans x2).trans ?_) upd_same rfl (hdv.mono ?_)
      · intro b o hb
        have n1 := ne_of_none hb ha
        have n2 := ne_of_none hb hdx
        rw [upd_ne n2]
        unfold del
        rw [if_neg n1, upd_ne n1, upd_ne n2, upd_ne n1]
        exact hb
      · refine Exh.tp fun b o hb => ?_
        have n1 := ne_of_none hb ha
        have n2 := ne_of_none hb hdx
        rw [upd_ne n2]
        unfold del
        rw [if_neg n1, upd_ne n1, upd_ne n2, upd_ne n1]
        exact hb
theorem w_dget2 {a : Addr} {k i : Nat} {g : Nat → Option PyD} {kvs : List (Key × V)} (h : DicI K H a k g kvs) (hd : EvD M0 K td Δ H (.r (.ref a))) (hy : EvD M0 K ty Δ H (dInt i)) (hx : EvD M0 K tx Δ H d) : EvD M0 K (tDGet2 td ty tx) Δ H ((g i).getD d) := fun σ H1 c r1 e1 s1 hc Q q => by
  refine hd σ H1 c r1 e1 s1 (by omega) _ fun x H2 u c2 p2 r2 s2 hc2 hx0 => ?_
  subst p2
  cases hx0.raw
  have h2 := h.mono (r1.trans r2).tup ((r1.trans r2).ex _ _ h.at_)
  refine ⟨a, rfl, .inl ⟨kvs, .inl h2.at_⟩, ?_⟩
  refine hy σ H2 c2 (r1.trans r2) (e1.tp r2.tup) s2 (by omega) _ fun y H3 e c3 p3 r3 s3 hc3 hy0 => ?_
  subst p3
  cases hy0.int
  refine hx σ H3 c3 ((r1.trans r2).trans r3) ((e1.tp r2.tup).tp r3.tup) s3 (by omega) _ fun z H4 e4 c4 p4 r4 s4 hc4 hz => ?_
  subst p4
  have h4 := h2.mono (r3.trans r4).tup ((r3.trans r4).ex _ _ h2.at_)
  refine ⟨_, h4.get, q _ H4 _ c4 rfl ((r2.trans r3).trans r4) trivial (by omega) ?_⟩
  cases c : g i with
  | none =>
    rw [h4.no i c]
    exact hz
  | some u =>
    obtain ⟨v, h1, h2⟩ := h4.yes i u c
    rw [h1]
    exact h2
theorem len_as_row (h : sp_as_row K vs H Q E) : vs.length = 2 := by
  obtain ⟨_, _, _, _, _, hd, _⟩ := h
  exact hd.length
theorem rd_as_row (kx : Kx K) (h : sp_as_row K vs H Q E) : t_as_row K { nx := fun _ H' => Q .non H', rt := Q } (start N_as_row vs) H := by
  obtain ⟨h, a, f, kvs, hl, hd, hk, q⟩ := h
  refine s_ret0 (P := (· = .t ((List.range h.ev.length).map fun k => dOpt (f k)))) ((ed_tupL (el_lcA (f := fun d => match d with | .i z => dOpt (f z.toNat) | _ => .n) (it_rngD (ea_cons (w_many (ed_var rfl)) ea_nil) (by omega)) (fun _ _ _ _ => trivial) (by rw [List.length_map, List.length_range]; omega) fun d hd => ?_)).is ?_) (EnvD.st hd) q
  · obtain ⟨i, hi, rfl⟩ := List.mem_map.mp hd
    have := w_dget2 (H := H) hk (ed_var (i := 1) (Δ := ((wipeD ([dHist h, .r (.ref a)].map some ++ List.replicate (N_as_row.length - [dHist h, .r (.ref a)].length) none) [2]).set 2 (some (.i (i : Int))))) rfl) (ed_var (i := 2) (d := dInt i) rfl) (ed_non)
    refine ⟨_, tg_name (by decide), this.is ?_⟩
    show ((f i).map fr).getD .n = dOpt (f ((i : Int).toNat))
    rw [Int.toNat_natCast]
    cases f i <;> rfl
  · rw [List.map_map]
    rfl
theorem len_NoPaper_init (h : sp_NoPaper_init K vs H Q E) : vs.length = 3 := by
  obtain ⟨_, _, _, rfl, _⟩ := h
  rfl
theorem rd_NoPaper_init (kx : Kx K) (h : sp_NoPaper_init K vs H Q E) : t_NoPaper_init K { nx := fun _ H' => Q .non H', rt := Q } (start N_NoPaper_init vs) H := by
  obtain ⟨a, x, y, rfl, ha, q⟩ := h
  refine ⟨.ref a, rfl, a, _, [], rfl, by decide, kx.oP, ha, ?_⟩
  refine ⟨x, rfl, .ref a, rfl, a, _, rfl, kx.oP, kx.pW, .inl ⟨ha, fun d hd hne => ?_⟩⟩
  refine ⟨y, rfl, .ref a, rfl, a, _, rfl, kx.oP, kx.pA, .inr ⟨d, _, upd_same, ?_, Nat.le_of_ble_eq_true rfl, q d hd hne⟩⟩
  rw [upd_ne hne, upd_same]
theorem len_NoWorld_init (h : sp_NoWorld_init K vs H Q E) : vs.length = 2 := by
  obtain ⟨_, _, rfl, _⟩ := h
  rfl
theorem rd_NoWorld_init (kx : Kx K) (h : sp_NoWorld_init K vs H Q E) : t_NoWorld_init K { nx := fun _ H' => Q .non H', rt := Q } (start N_NoWorld_init vs) H := by
  obtain ⟨a, x, rfl, ha, q⟩ := h
  refine ⟨.ref a, rfl, a, _, [], rfl, by decide, kx.oW, ha, ?_⟩
  exact ⟨x, rfl, .ref a, rfl, a, _, rfl, kx.oW, kx.wR, .inl ⟨ha, fun d hd hne => q d hd hne⟩⟩
theorem len_needA (h : sp_needA K vs H Q E) : vs.length = 3 := by
  obtain ⟨_, _, _, hd, _⟩ := h
  exact hd.length
theorem len_needB (h : sp_needB K vs H Q E) : vs.length = 3 := len_needA h
theorem rd_needA (kx : Kx K) (h : sp_needA K vs H Q E) : t_needA K E { nx := fun _ H' => Q .non H', rt := Q } (start N_needA vs) H := by
  obtain ⟨b, d, e, hd, q, qe⟩ := h
  have e0 := EnvD.st (N := N_needA) hd
  cases b with
  | true => exact s_if0 (k := false) (et_not (a := true) (et_B (ed_var rfl))) e0 (fun z => by cases z) fun _ H1 x1 e1 => q rfl _ H1 _ rfl x1 .n
  | false =>
    refine s_if0 (k := true) (et_not (a := false) (et_B (ed_var rfl))) e0 (fun _ H2 x2 e2 => ?_) fun z => by cases z
    obtain ⟨v, hv, _⟩ := e2.at_ 1 d rfl
    obtain ⟨u, hu, _⟩ := e2.at_ 2 e rfl
    refine ⟨v, hv, u, hu, Nat.le_of_ble_eq_true rfl, fun a ha => ?_⟩
    refine ⟨a, v, u, rfl, upd_same, fun dx hdx hne => ⟨rfl, dx, _, ?_, upd_same, ?_, ?_⟩⟩
    · rw [upd_ne fun z => hne z.symm, upd_same]
    · rw [upd_ne hne] at hdx
      exact hdx
    · rw [upd_ne hne] at hdx
      refine qe rfl dx _ (x2.trans ?_)
      intro b o hb
      have n1 := ne_of_none hb ha
      have n2 := ne_of_none hb hdx
      rw [upd_ne n2]
      unfold del
      rw [if_neg n1, upd_ne n2, upd_ne n1, upd_ne n2, upd_ne n1]
      exact hb
theorem rd_needB (kx : Kx K) (h : sp_needB K vs H Q E) : t_needB K E { nx := fun _ H' => Q .non H', rt := Q } (start N_needB vs) H := rd_needA kx h
end
end K27
/-! The readings keep the promises: the checkers. -/
namespace K27
open PySem PySem.Spec PyProof.Rows L2 KM
section
variable {K : PySem.W.Frag} {vs : List V} {H H' H0 : Hp} {Q : VK} {E : XK} {n : Nat} {st : Steps} {Δ : List (Option PyD)} {te td ty tx tb tw ta : TE} {σ : L2.St} {D : Ends} {d e : PyD}
theorem EP0.on (h : EP0 K H E) (x : Exh H H') : EP0 K H' E := fun d H2 x2 => h d H2 (x.trans x2)
theorem EW.on {st : Steps} (h : EW K st H E) (x : Exh H H') : EW K st H' E := fun ks d H2 fs v r x2 => h ks d H2 fs v r (x.trans x2)
/-- need(e, word, at) -/
theorem s_need {b : Bool} (hb : EvD M0 K tb Δ H (.b b)) (hw : EvD M0 K tw Δ H d) (ha : EvD M0 K ta Δ H e) (ev : EnvD K σ H Δ) (ok : b = true → ∀ H', Exh H H' → EnvD K σ H' Δ → D.nx σ H') (bad : b = false → EP0 K H E) : tDrop (tCall (sp_need K) [] E (tCons tb (tCons tw (tCons ta tNil)))) D σ H := by
  dsimp only [tDrop, tCall]
  refine (ea_cons hb (ea_cons hw (ea_cons ha ea_nil))) σ H 0 (Rf.refl _) ev trivial (by decide) _ fun xs H1 ds c p r _ _ hx => ?_
  subst p
  rw [List.append_nil]
  exact ⟨b, d, e, hx, fun hb v H2 u pu x2 hv => ok hb H2 (r.ex.trans x2) (ev.tp (r.ex.trans x2).tp), fun hb => (bad hb).on r.ex⟩
theorem len_are_numbers (h : sp_are_numbers K vs H Q E) : vs.length = 1 := by
  obtain ⟨_, _, hd, _⟩ := h
  exact hd.length
theorem rd_are_numbers (kx : Kx K) (h : sp_are_numbers K vs H Q E) : t_are_numbers K { nx := fun _ H' => Q .non H', rt := Q } (start N_are_numbers vs) H := by
  obtain ⟨ks, hl, hd, q⟩ := h
  refine s_ret0 (P := (· = .b true)) ?_ (EnvD.st hd) q
  refine ed_andV (a := true) (b := true) (w_isiT (ed_var (d := .t (ks.map dInt)) rfl) ty_tup rfl) fun _ => ?_
  refine ev_all (EvL.imp (PB := fun es => es = (ks.map dInt).map fun _ => .b true) (el_lcA (f := fun _ => PyD.b true) (it_tupD (ed_var rfl)) (fun _ _ _ r => r.tup) (by rw [List.length_map]; exact hl) (fun d hdd => ⟨_, tg_name (by decide), ed_call (ea_cons (ed_var rfl) ea_nil) (CallD.of fun xs H1 Q E r hx q => ?_)⟩)) fun _ e => e) (fun ds p => ⟨(ks.map dInt).map fun _ => true, by rw [p]; simp only [List.map_map]; rfl, ?_⟩)
  · obtain ⟨k, _, rfl⟩ := List.mem_map.mp hdd
    exact ⟨_, hx, q⟩
  · rw [List.all_map, List.all_eq_true]
    exact fun _ _ => rfl
theorem len_are_times (h : sp_are_times K vs H Q E) : vs.length = 1 := by
  obtain ⟨_, _, _, hd, _⟩ := h
  exact hd.length
theorem rd_are_times (kx : Kx K) (h : sp_are_times K vs H Q E) : t_are_times K { nx := fun _ H' => Q .non H', rt := Q } (start N_are_times vs) H := by
  obtain ⟨n, t, hl, hd, q⟩ := h
  refine s_ret0 (P := (· = .b true)) ?_ (EnvD.st hd) q
  refine ed_andV (a := true) (b := true) (w_isiT (ed_var (d := .t ((List.range n).map fun k => fr (t k))) rfl) ty_tup rfl) fun _ => ?_
  refine ev_all (EvL.imp (PB := fun es => es = ((List.range n).map fun k => fr (t k)).map fun _ => .b true) (el_lcA (f := fun _ => PyD.b true) (it_tupD (ed_var rfl)) (fun _ _ _ r => r.tup) (by rw [List.length_map, List.length_range]; exact hl) (fun d hdd => ⟨_, tg_name (by decide), ed_call (ea_cons (ed_var rfl) ea_nil) (CallD.of fun xs H1 Q E r hx q => ?_)⟩)) fun _ e => e) (fun ds p => ⟨((List.range n).map fun k => fr (t k)).map fun _ => true, by rw [p]; simp only [List.map_map]; rfl, ?_⟩)
  · obtain ⟨k, _, rfl⟩ := List.mem_map.mp hdd
    exact ⟨_, hx, q⟩
  · rw [List.all_map, List.all_eq_true]
    exact fun _ _ => rfl
theorem len_steps_total (h : sp_steps_total K vs H Q E) : vs.length = 2 := by
  obtain ⟨_, _, _, hd, _⟩ := h
  exact hd.length
theorem total_snoc {st : Steps} {ks : List Nat} {k : Nat} {s : KM.Step} (h : st[k]? = some s) : total st (ks ++ [k]) = total st ks + s.2.2 := by
  rw [total_append, total_cons h, total_nil, Int.add_zero]
theorem rd_steps_total (kx : Kx K) (h : sp_steps_total K vs H Q E) : t_steps_total K { nx := fun _ H' => Q .non H', rt := Q } (start N_steps_total vs) H := by
  obtain ⟨st, ks, hb, hd, q⟩ := h
  refine sq (s_asg0 (P := (· = fr 0)) (w_const kx.nought) (EnvD.st hd) fun σ1 H1 d1 p1 x1 e1 => ?_)
  subst p1
  dsimp only
  refine sq (s_for (M := M0) (c := 0) (it_tupD (ds := ks.map dInt) (ed_var rfl)) e1 trivial (by decide) fun H2 ds c' pd r2 e2 _ _ => ?_)
  subst pd
  refine ⟨fun i σ' H' => Exh H H' ∧ EnvD K σ' H' [some (.t (st.map dStep)), some (dRing ks), some (fr (total st (ks.take i))), none] ∧ Tp H2 H', ⟨x1.trans r2.ex, e2, Tp.refl _⟩, fun _ _ _ h => h.2.2, ?_, ?_⟩
  · rintro i d σ' H' H3 v hdi ⟨x', e', t'⟩ x3 hv
    rw [List.getElem?_map] at hdi
    cases hk : ks[i]? with
    | none =>
      rw [hk] at hdi
      cases hdi
    | some k =>
      rw [hk] at hdi
      cases hdi
      obtain ⟨s, hs⟩ : ∃ s, st[k]? = some s := ⟨st[k]'(hb k (List.mem_of_getElem? hk)), List.getElem?_eq_getElem _⟩
      have e3 := (e'.tp x3.tp).set (i := 3) hv
      refine s_asg0 (P := (· = fr (total st (ks.take (i + 1))))) ((ed_call (ea_cons (ed_var rfl) (ea_cons (w_ix (w_ixv (ed_var rfl) (ed_var (d := dInt k) rfl) (atI_map (f := dStep) hs)) rfl) ea_nil)) (CallD.of fun xs H1 Q E r hx q => ⟨_, _, hx, q⟩)).is ?_) e3 fun σ4 H4 d4 p4 x4 e4 => ?_
      · rw [take_snoc hk, total_snoc hs]
      · subst p4
        exact ⟨(x'.trans x3).trans x4, e4.drop 3, (t'.trans x3.tp).trans x4.tp⟩
  · rintro σ' H' ⟨x', e', _⟩
    rw [List.length_map, List.take_length] at e'
    dsimp only
    exact s_ret0 (P := (· = fr (total st ks))) (ed_var rfl) e' (q.le x')
theorem len_lets_ring (h : sp_lets_ring K vs H Q E) : vs.length = 2 := by
  obtain ⟨_, _, _, _, hd, _⟩ := h
  exact hd.length
theorem atI_prev {ks : List Nat} {i j : Nat} (hi : i < ks.length) (h : (if i = 0 then ks.getLast? else ks[i - 1]?) = some j) : atI (ks.map dInt) ((i : Int) - 1) = some (dInt j) := by
  by_cases c : i = 0
  · subst c
    rw [if_pos rfl, List.getLast?_eq_getElem?] at h
    refine atI_last (k := ks.length - 1) (by rw [List.getElem?_map, h]; rfl) (by rw [List.length_map]; omega)
  · rw [if_neg c] at h
    have : (i : Int) - 1 = ((i - 1 : Nat) : Int) := by omega
    rw [this]
    exact atI_map h
theorem rd_lets_ring (kx : Kx K) (h : sp_lets_ring K vs H Q E) : t_lets_ring K E { nx := fun _ H' => Q .non H', rt := Q } (start N_lets_ring vs) H := by
  obtain ⟨h, ks, w, hl, hd, q, qe⟩ := h
  have e0 := EnvD.st (N := N_lets_ring) hd
  refine sq (s_need (b := decide (0 < ks.length)) ((ed_andV (a := true) (b := decide (0 < ks.length)) (ed_call (ea_cons (ed_var rfl) ea_nil) (CallD.of fun xs H1 Q E r hx q => ⟨ks, hl, hx, q⟩)) fun _ => (w_gt (w_len (ds := ks.map dInt) (ed_var rfl)) ed_int).is ?_).is (by rw [Bool.true_and])) ed_str (w_neg ed_int) e0 (fun hk H1 x1 e1 => ?_) fun hk => qe fun r => ?_)
  · rw [List.length_map]
    congr 1
    rw [decide_eq_decide]
    omega
  rotate_left
  · have := of_decide_eq_false hk
    have hn := r.ne
    cases ks with
    | nil => exact hn rfl
    | cons _ _ => exact this (Nat.succ_pos _)
  have hk := of_decide_eq_true hk
  dsimp only
  refine sq (s_asg0 (P := (· = .t ((steps h).map dStep))) (ed_call (ea_cons (ed_var rfl) ea_nil) (CallD.of fun xs H1 Q E r hx q => ⟨h, w, hx, q⟩)) e1 fun σ2 H2 d2 p2 x2 e2 => ?_)
  subst p2
  dsimp only
  refine sq (s_for (M := M0) (c := 0) (it_enT (ea_cons (ed_var (d := .t (ks.map dInt)) rfl) ea_nil)) e2 trivial (by decide) fun H3 ds c' pd r3 e3 _ _ => ?_)
  subst pd
  refine ⟨fun i σ' H' => Exh H H' ∧ EnvD K σ' H' [some (dHist h), some (dRing ks), some (.t ((steps h).map dStep)), none, none, none] ∧ Tp H3 H' ∧ ∀ j k, j < i → ks[j]? = some k → k < (steps h).length, ⟨(x1.trans x2).trans r3.ex, e3, Tp.refl _, fun j k hj => absurd hj (Nat.not_lt_zero _)⟩, fun _ _ _ h => h.2.2.1, ?_, ?_⟩
  · rintro i d σ' H' H4 v hdi ⟨x', e', t', hb⟩ x4 hv
    rw [enD_at, List.getElem?_map] at hdi
    cases hki : ks[i]? with
    | none =>
      rw [hki] at hdi
      cases hdi
    | some k =>
      rw [hki] at hdi
      cases hdi
      refine gTup_ok (is := [3, 4]) (ds := [.i (i : Int), dInt k]) hv rfl (e'.tp x4.tp) fun σ5 e5 => ?_
      refine s_need (b := decide (k < (steps h).length)) ((w_chain ed_int (ed_var (d := .i (k : Int)) rfl) (w_len (ds := (steps h).map dStep) (ed_var rfl))).is ?_) ed_str (ed_var rfl) e5 (fun hlt H6 x6 e6 => ⟨(x'.trans x4).trans x6, (e6.drop 3).drop 4, (t'.trans x4.tp).trans x6.tp, fun j k' hj hk' => ?_⟩) fun hlt => (qe fun r => ?_).on (x'.trans x4)
      · rw [List.length_map, decide_eq_true (by omega : (0 : Int) ≤ (k : Int)), Bool.true_and]
        congr 1
        rw [decide_eq_decide]
        omega
      · by_cases c : j = i
        · subst c
          rw [hki] at hk'
          cases hk'
          exact of_decide_eq_true hlt
        · exact hb j k' (by omega) hk'
      · exact of_decide_eq_false hlt (r.bd k (List.mem_of_getElem? hki))
  rintro σ4 H4 ⟨x4, e4, _, hb⟩
  rw [enD_length, List.length_map] at hb
  have hb : ∀ k ∈ ks, k < (steps h).length := fun k hk => by
    obtain ⟨j, hj, e⟩ := List.getElem_of_mem hk
    exact hb j k hj (by rw [List.getElem?_eq_getElem hj, e])
  dsimp only
  refine sq (s_for (M := M0) (c := 0) (it_enT (ea_cons (ed_var (d := .t (ks.map dInt)) rfl) ea_nil)) e4 trivial (by decide) fun H5 ds c' pd r5 e5 _ _ => ?_)
  subst pd
  refine ⟨fun i σ' H' => Exh H H' ∧ EnvD K σ' H' [some (dHist h), some (dRing ks), some (.t ((steps h).map dStep)), none, none, none] ∧ Tp H5 H' ∧ ∀ (m : Nat), m < i → ∀ (k j : Nat) (s u : KM.Step), ks[m]? = some k → (if m = 0 then ks.getLast? else ks[m - 1]?) = some j → (steps h)[k]? = some s → (steps h)[j]? = some u → u.2.1 = s.1, ⟨x4.trans r5.ex, e5, Tp.refl _, fun m hm => absurd hm (Nat.not_lt_zero _)⟩, fun _ _ _ h => h.2.2.1, ?_, ?_⟩
  · rintro i d σ' H' H6 v hdi ⟨x', e', t', hg⟩ x6 hv
    rw [enD_at, List.getElem?_map] at hdi
    cases hki : ks[i]? with
    | none =>
      rw [hki] at hdi
      cases hdi
    | some k =>
      rw [hki] at hdi
      cases hdi
      have hi := (List.getElem?_eq_some_iff.mp hki).1
      refine gTup_ok (is := [3, 4]) (ds := [.i (i : Int), dInt k]) hv rfl (e'.tp x6.tp) fun σ7 e7 => ?_
      obtain ⟨j, hj⟩ : ∃ j, (if i = 0 then ks.getLast? else ks[i - 1]?) = some j := by
        by_cases c : i = 0
        · rw [if_pos c]
          rw [List.getLast?_eq_getElem?]
          exact ⟨ks[ks.length - 1]'(by omega), List.getElem?_eq_getElem (by omega)⟩
        · rw [if_neg c]
          exact ⟨ks[i - 1]'(by omega), List.getElem?_eq_getElem (by omega)⟩
      have hjm : j ∈ ks := by
        by_cases c : i = 0
        · rw [if_pos c] at hj
          exact List.mem_of_getLast? hj
        · rw [if_neg c] at hj
          exact List.mem_of_getElem? hj
      obtain ⟨s, hs⟩ : ∃ s, (steps h)[k]? = some s := ⟨(steps h)[k]'(hb k (List.mem_of_getElem? hki)), List.getElem?_eq_getElem _⟩
      obtain ⟨u, hu⟩ : ∃ u, (steps h)[j]? = some u := ⟨(steps h)[j]'(hb j hjm), List.getElem?_eq_getElem _⟩
      refine s_need (b := decide (u.2.1 = s.1)) ((w_eqI (w_ix (w_ixv (ed_var rfl) (w_ixv (ed_var (d := .t (ks.map dInt)) rfl) (w_sub (ed_var (d := .i (i : Int)) rfl) ed_int) (atI_prev hi hj)) (atI_map (f := dStep) hu)) rfl) (w_ix (w_ixv (ed_var rfl) (ed_var (d := dInt k) rfl) (atI_map (f := dStep) hs)) rfl)).is ?_) ed_str (ed_var rfl) e7 (fun heq H8 x8 e8 => ⟨(x'.trans x6).trans x8, (e8.drop 3).drop 4, (t'.trans x6.tp).trans x8.tp, fun m hm k' j' s' u' hk' hj' hs' hu' => ?_⟩) fun hne => (qe fun r => ?_).on (x'.trans x6)
      · congr 1
        rw [decide_eq_decide]
        omega
      · by_cases c : m = i
        · subst c
          rw [hki] at hk'
          cases hk'
          rw [hj] at hj'
          cases hj'
          rw [hs] at hs'
          cases hs'
          rw [hu] at hu'
          cases hu'
          exact of_decide_eq_true heq
        · exact hg m (by omega) k' j' s' u' hk' hj' hs' hu'
      · exact of_decide_eq_false hne (r.go i k j s u hki hj hs hu)
  rintro σ6 H6 ⟨x6, e6, _, hg⟩
  rw [enD_length, List.length_map] at hg
  dsimp only
  refine sq (s_asg0 (P := (· = fr (total (steps h) ks))) (ed_call (ea_cons (ed_var rfl) (ea_cons (ed_var rfl) ea_nil)) (CallD.of fun xs H1 Q E r hx q => ⟨_, ks, hb, hx, q⟩)) e6 fun σ7 H7 d7 p7 x7 e7 => ?_)
  subst p7
  dsimp only
  refine sq (s_need (b := decide (total (steps h) ks < 0)) (ed_call (ea_cons (ed_var rfl) (ea_cons (w_const kx.nought) ea_nil)) (CallD.of fun xs H1 Q E r hx q => ⟨_, _, hx, q⟩)) ed_str (w_neg ed_int) e7 (fun hneg H8 x8 e8 => ?_) fun hneg => (qe fun r => of_decide_eq_false hneg r.neg).on (x6.trans x7))
  dsimp only
  refine s_ret0 (P := fun d => d = fr (total (steps h) ks) ∧ RingC (steps h) ks) ((ed_var (d := fr (total (steps h) ks)) rfl).imp fun d e => ⟨e, ?_, hb, fun i k j s u hk hj hs hu => hg i ?_ k j s u hk hj hs hu, of_decide_eq_true hneg⟩) e8 (q.le ((x6.trans x7).trans x8))
  · intro z
    subst z
    exact absurd hk (Nat.lt_irrefl _)
  · exact (List.getElem?_eq_some_iff.mp hk).1
theorem it_enL {tl : TE} {ds : List PyD} (h : ElD M0 K tl Δ H ds) : ItD M0 K (iEnum K (tCons tl tNil)) Δ H 0 (· = enD ds) Exh := fun σ H1 c r1 e1 s1 hc R q => by
  refine h σ H1 c r1 e1 s1 hc _ fun a H2 vs ds' c2 e ha0 ha hd r2 s2 hc2 => ?_
  subst e
  refine ⟨a, vs, rfl, SqL.of ha, q _ H2 (enD ds') c2 rfl ⟨fun H3 x => ?_, fun i H3 hi x => ?_, fun i H3 v H4 d x hi y => ?_⟩ r2 s2 hc2⟩
  · rw [enD_length]
    exact ⟨vs, SqL.of (x _ _ ha), Nat.le_of_eq hd.length⟩
  · rw [enD_length] at hi
    have hv : i < vs.length := by rw [hd.length]; exact hi
    exact ⟨vs, vs[i], SqL.of (x _ _ ha), List.getElem?_eq_getElem hv⟩
  · obtain ⟨T, x', rfl, hT, rfl, y⟩ := y
    rw [enD_at] at hi
    cases c : ds'[i]? with
    | none =>
      rw [c] at hi
      cases hi
    | some d' =>
      rw [c] at hi
      cases hi
      obtain ⟨v, hv, hvd⟩ := hd.at c
      rw [y vs (SqL.of (x _ _ ha))] at hv
      cases hv
      have x3 := Exh.new (o := .tup [.int (i : Nat), x']) hT
      exact ⟨x3, .t (SqT.of upd_same) (.cons (.i _) (.one (hvd.mono (x.tp.trans x3.tp))))⟩
theorem el_steps {h : HistS} (w : WF h) (ha : EvD M0 K te Δ H (dHist h)) : ElD M0 K (tCall (sp_steps_list K) [] E0 (tCons te tNil)) Δ H ((steps h).map dStep) := fun σ H1 c r1 e1 s1 hc Q q => by
  refine (ea_cons ha ea_nil) σ H1 c r1 e1 s1 hc _ fun xs H2 ds c2 p2 r2 s2 hc2 hxs => ?_
  subst p2
  rw [List.append_nil]
  refine ⟨h, w, hxs, fun p H' vs ds pd hp x h1 h2 => ?_⟩
  exact q p H' vs ds c2 pd (r2.ex.free hp) h1 h2 (r2.trans x.rf) trivial hc2
theorem len_world_bars (h : sp_world_bars K vs H Q E) : vs.length = 2 := by
  obtain ⟨_, _, _, hd, _⟩ := h
  exact hd.length
theorem world_at {n k : Nat} {t : Nat → Int} (h : k < n) : atI ((List.range n).map fun k => fr (t k)) (k : Int) = some (fr (t k)) := atI_nat (by rw [List.getElem?_map, List.getElem?_range h]; rfl)
theorem rd_world_bars (kx : Kx K) (h : sp_world_bars K vs H Q E) : t_world_bars K { nx := fun _ H' => Q .non H', rt := Q } (start N_world_bars vs) H := by
  obtain ⟨h, t, w, hd, q⟩ := h
  have wst := ws w
  refine sq (s_for (M := M0) (c := 0) (it_enL (el_steps w (ed_var rfl))) (EnvD.st hd) trivial (by decide) fun H2 ds c' pd r2 e2 _ _ => ?_)
  subst pd
  refine ⟨fun i σ' H' => Exh H2 H' ∧ EnvD K σ' H' [some (dHist h), some (dWorld h.ev.length t), none, none, none, none] ∧ ∀ j s, j < i → (steps h)[j]? = some s → t s.2.1 ≤ t s.1 + s.2.2, ⟨Exh.refl _, e2, fun j s hj => absurd hj (Nat.not_lt_zero _)⟩, fun _ _ _ h => h.1, ?_, ?_⟩
  · rintro i d σ' H' H3 v hdi ⟨x', e', hf⟩ x3 hv
    rw [enD_at, List.getElem?_map] at hdi
    cases hs : (steps h)[i]? with
    | none =>
      rw [hs] at hdi
      cases hdi
    | some s =>
      rw [hs] at hdi
      cases hdi
      obtain ⟨x, y, wt⟩ := s
      obtain ⟨hx, hy, _⟩ := wst.at hs
      have hx : x < h.ev.length := hx
      have hy : y < h.ev.length := hy
      refine gNest (is := [3, 4, 5]) (ds := [.i (x : Int), .i (y : Int), fr wt]) hv rfl (e'.tp x3.tp) fun σ4 e4 => ?_
      refine s_if0 (k := decide (t x + wt < t y)) (et_B (ed_call (ea_cons (ed_call (ea_cons (w_ixv (ed_var (d := .t ((List.range h.ev.length).map fun k => fr (t k))) rfl) (ed_var (d := .i (x : Int)) rfl) (world_at hx)) (ea_cons (ed_var rfl) ea_nil)) (CallD.of fun xs H1 Q E r hx q => ⟨_, _, hx, q⟩)) (ea_cons (w_ixv (ed_var (d := .t ((List.range h.ev.length).map fun k => fr (t k))) rfl) (ed_var (d := .i (y : Int)) rfl) (world_at hy)) ea_nil)) (CallD.of fun xs H1 Q E r hx q => ⟨_, _, hx, q⟩))) e4 (fun hlt H5 x5 e5 => ?_) fun hlt H5 x5 e5 => ?_
      · refine s_ret0 (P := fun d => (d = .n ∧ Fits (steps h) t) ∨ ∃ k : Nat, d = dInt k ∧ ¬ Fits (steps h) t) ((ed_var (d := .i (i : Int)) rfl).imp fun d e => .inr ⟨i, e, fun f => ?_⟩) e5 (q.le (((r2.ex.trans x').trans x3).trans x5))
        have h1 := f (x, y, wt) (List.mem_of_getElem? hs)
        have h1 : t y ≤ t x + wt := h1
        have h2 := of_decide_eq_true hlt
        omega
      · refine ⟨(x'.trans x3).trans x5, (((e5.drop 2).drop 3).drop 4).drop 5, fun j s hj hsj => ?_⟩
        by_cases c : j = i
        · subst c
          rw [hs] at hsj
          cases hsj
          have h2 := of_decide_eq_false hlt
          show t y ≤ t x + wt
          omega
        · exact hf j s (by omega) hsj
  · rintro σ' H' ⟨x', e', hf⟩
    rw [enD_length, List.length_map] at hf
    dsimp only
    refine s_ret0 (P := fun d => (d = .n ∧ Fits (steps h) t) ∨ ∃ k : Nat, d = dInt k ∧ ¬ Fits (steps h) t) (ed_non.imp fun d e => .inl ⟨e, fun s hs => ?_⟩) e' (q.le (r2.ex.trans x'))
    obtain ⟨j, hj, e⟩ := List.getElem_of_mem hs
    exact hf j s hj (by rw [List.getElem?_eq_getElem hj, e])
theorem len_lets_world (h : sp_lets_world K vs H Q E) : vs.length = 2 := by
  obtain ⟨_, _, _, hd, _⟩ := h
  exact hd.length
theorem rd_lets_world (kx : Kx K) (h : sp_lets_world K vs H Q E) : t_lets_world K E { nx := fun _ H' => Q .non H', rt := Q } (start N_lets_world vs) H := by
  obtain ⟨h, t, w, hd, q, qe⟩ := h
  have wl := w.len
  refine sq (s_need (b := true) (ed_call (ea_cons (ed_var rfl) ea_nil) (CallD.of fun xs H1 Q E r hx q => ⟨h.ev.length, t, by omega, hx, q⟩)) ed_str (w_neg ed_int) (EnvD.st hd) (fun _ H1 x1 e1 => ?_) fun z => by cases z)
  dsimp only
  have wlen : ∀ (Δ : List (Option PyD)) (H : Hp), Δ[1]? = some (some (dWorld h.ev.length t)) → EvD M0 K (tCB (bLen K) (tCons (tVar 1) tNil)) Δ H (dInt h.ev.length) := fun Δ H hv => by
    have := w_len (M := M0) (K := K) (H := H) (Δ := Δ) (ds := (List.range h.ev.length).map fun k => fr (t k)) (ed_var (i := 1) hv)
    rw [List.length_map, List.length_range] at this
    exact this
  refine sq (s_need (b := true) ((w_eqI (wlen _ _ rfl) (w_many (h := h) (ed_var rfl))).is (by rw [decide_eq_true rfl])) ed_str (w_neg ed_int) e1 (fun _ H2 x2 e2 => ?_) fun z => by cases z)
  dsimp only
  refine sq (s_asg0 (P := fun d => (d = .n ∧ Fits (steps h) t) ∨ ∃ k : Nat, d = dInt k ∧ ¬ Fits (steps h) t) (ev_call (n := 0) (m := 0) (ea_cons (ed_var rfl) (ea_cons (ed_var rfl) ea_nil)) fun ds p => by subst p; exact CallD.of fun xs H1 Q E r hx q => ⟨h, t, w, hx, q⟩) e2 fun σ3 H3 d3 p3 x3 e3 => ?_)
  dsimp only
  rcases p3 with ⟨rfl, f⟩ | ⟨k, rfl, nf⟩
  · refine sq (s_need (b := true) (w_isT (ed_var rfl)) ed_str (ed_var rfl) e3 (fun _ H4 x4 e4 => ?_) fun z => by cases z)
    dsimp only
    exact s_ret0 (P := (· = dInt h.ev.length)) (wlen _ _ rfl) e4 ((q f).le (((x1.trans x2).trans x3).trans x4))
  · exact sq (s_need (b := false) (w_isFI (ed_var (d := .i (k : Int)) rfl)) ed_str (ed_var rfl) e3 (fun z => by cases z) fun _ => (qe nf).on ((x1.trans x2).trans x3))
end
end K27
/-! The readings keep the promises: going on from an event. -/
namespace K27
open PySem PySem.Spec PyProof.Rows L2 KM
def intsV (ns : List Nat) : List V := ns.map fun k : Nat => V.int (k : Int)
/-- the steps' numbers by the event they come from, as they are collected -/
structure BI (H0 H : Hp) (p : Addr) (st : Steps) (kvs : List (Key × V)) (j : Nat) : Prop where
  at_ : H p = some (.dK kvs)
  len : kvs.length ≤ j
  all : ∀ k v, valV kvs k = some v → ∃ (l : Addr) (ns : List Nat) (x : Nat), k = .inl (x : Int) ∧ v = .ref l ∧ H0 l = none ∧ l ≠ p ∧ H l = some (.lst (intsV ns)) ∧ ns.length ≤ j ∧ ∀ i ∈ ns, ∃ s, st[i]? = some s ∧ s.1 = x
  inj : ∀ k k' l, valV kvs k = some (.ref l) → valV kvs k' = some (.ref l) → k = k'
theorem BI.on {H0 H H' : Hp} {p : Addr} {st : Steps} {kvs : List (Key × V)} {j : Nat} (b : BI H0 H p st kvs j) (x : Exh H H') : BI H0 H' p st kvs j := ⟨x _ _ b.at_, b.len, fun k v h => by
  obtain ⟨l, ns, y, h1, h2, h3, h4, h5, h6⟩ := b.all k v h
  exact ⟨l, ns, y, h1, h2, h3, h4, x _ _ h5, h6⟩, b.inj⟩
theorem intsV_snoc (ns : List Nat) (i : Nat) : intsV ns ++ [V.int (i : Int)] = intsV (ns ++ [i]) := by
  unfold intsV
  rw [List.map_append]
  rfl
theorem BI.more {H0 H : Hp} {p l : Addr} {st : Steps} {kvs : List (Key × V)} {j i x : Nat} {ns : List Nat} {s : KM.Step} (b : BI H0 H p st kvs j) (hv : valV kvs (.inl (x : Int)) = some (.ref l)) (hl : H l = some (.lst (intsV ns))) (hs : st[i]? = some s) (hx : s.1 = x) : BI H0 (upd H l (.lst (intsV (ns ++ [i])))) p st kvs (j + 1) := by
  obtain ⟨l', ns', x', e1, e2, e3, e4, e5, e6, e7⟩ := b.all _ _ hv
  cases e2
  have ex : x' = x := by
    injection e1 with e1
    omega
  subst ex
  have en : intsV ns' = intsV ns := by
    rw [hl] at e5
    injection e5 with e5
    injection e5 with e5
    exact e5.symm
  have en : ns' = ns := by
    unfold intsV at en
    refine (List.map_inj_right ?_).mp en
    intro a c h
    have h : V.int (a : Int) = V.int (c : Int) := h
    injection h with h
    omega
  subst en
  refine ⟨by rw [upd_ne fun z => e4 z.symm]; exact b.at_, Nat.le_succ_of_le b.len, fun k v h => ?_, b.inj⟩
  obtain ⟨l2, ns2, y, h1, h2, h3, h4, h5, h6, h7⟩ := b.all k v h
  subst h2
  by_cases c : l2 = l
  · subst c
    have ek := b.inj _ _ _ h hv
    have ey : y = x' := by
      rw [h1] at ek
      injection ek with ek
      omega
    subst ey
    refine ⟨l2, ns' ++ [i], y, h1, rfl, h3, h4, upd_same, by rw [List.length_append, List.length_singleton]; omega, fun m hm => ?_⟩
    rcases List.mem_append.mp hm with hm | hm
    · exact e7 m hm
    · rw [List.mem_singleton.mp hm]
      exact ⟨s, hs, hx⟩
  · exact ⟨l2, ns2, y, h1, rfl, h3, h4, by rw [upd_ne c]; exact h5, by omega, h7⟩
theorem BI.put {H0 H : Hp} {p l : Addr} {st : Steps} {kvs : List (Key × V)} {j x : Nat} (b : BI H0 H p st kvs j) (hv : valV kvs (.inl (x : Int)) = none) (h0 : H0 l = none) (hp : l ≠ p) (hl : H l = some (.lst [])) (hn : ∀ k, valV kvs k ≠ some (.ref l)) : BI H0 (upd H p (.dK (putK kvs (.inl (x : Int)) (.ref l)))) p st (putK kvs (.inl (x : Int)) (.ref l)) (j + 1) := by
  refine ⟨upd_same, ?_, fun k v h => ?_, fun k k' l' h1 h2 => ?_⟩
  · have := length_putK kvs (.inl (x : Int)) (.ref l)
    have := b.len
    omega
  · rw [valV_put] at h
    by_cases c : k = .inl (x : Int)
    · rw [if_pos c] at h
      cases h
      exact ⟨l, [], x, c, rfl, h0, hp, by rw [upd_ne hp]; exact hl, Nat.zero_le _, fun i hi => by cases hi⟩
    · rw [if_neg c] at h
      obtain ⟨l2, ns2, y, e1, e2, e3, e4, e5, e6, e7⟩ := b.all k v h
      exact ⟨l2, ns2, y, e1, e2, e3, e4, by rw [upd_ne e4]; exact e5, by omega, e7⟩
  · rw [valV_put] at h1 h2
    by_cases c : k = .inl (x : Int)
    · rw [if_pos c] at h1
      cases h1
      by_cases c2 : k' = .inl (x : Int)
      · rw [c, c2]
      · rw [if_neg c2] at h2
        exact absurd h2 (hn k')
    · rw [if_neg c] at h1
      by_cases c2 : k' = .inl (x : Int)
      · rw [if_pos c2] at h2
        cases h2
        exact absurd h1 (hn k)
      · rw [if_neg c2] at h2
        exact b.inj _ _ _ h1 h2
section
variable {K : PySem.W.Frag} {vs : List V} {H H' H0 : Hp} {Q : VK} {E : XK} {n : Nat} {st : Steps} {Δ : List (Option PyD)} {te td ty tx tb tw ta : TE} {σ : L2.St} {D : Ends} {d e : PyD}
theorem len_steps_from (h : sp_steps_from K vs H Q E) : vs.length = 1 := by
  obtain ⟨_, _, hd, _⟩ := h
  exact hd.length
theorem rd_steps_from (kx : Kx K) (h : sp_steps_from K vs H Q E) : t_steps_from K { nx := fun _ H' => Q .non H', rt := Q } (start N_steps_from vs) H := by
  obtain ⟨h, w, hd, q⟩ := h
  have e0 := EnvD.st (N := N_steps_from) hd
  have sl := steps_len w
  refine sq ?_
  intro p hp
  have x1 : Exh H (upd H p (.dK [])) := Exh.new hp
  have e1 := (e0.tp x1.tp).set (i := 1) (v := .ref p) (.r _)
  refine sq (s_for (M := M0) (c := 0) (it_enT (ea_cons (ed_call (d := .t ((steps h).map dStep)) (ea_cons (ed_var rfl) ea_nil) (CallD.of fun xs H1 Q E r hx q => ⟨h, w, hx, q⟩)) ea_nil)) e1 trivial (by decide) fun H2 ds c' pd r2 e2 _ _ => ?_)
  subst pd
  have b2 : BI H H2 p (steps h) [] 0 := ⟨r2.ex _ _ upd_same, Nat.le_refl _, fun k v z => (by cases z), fun k k' l z => (by cases z)⟩
  refine ⟨fun i σ' H' => Exh H H' ∧ Tp H2 H' ∧ EnvD K σ' H' [some (dHist h), some (.r (.ref p)), none, none, none, none] ∧ ∃ kvs, BI H H' p (steps h) kvs i, ⟨x1.trans r2.ex, Tp.refl _, e2, _, b2⟩, fun _ _ _ h => h.2.1, ?_, ?_⟩
  · rintro i d σ' H' H3 v hdi ⟨x', t', e', kvs, b'⟩ x3 hv
    rw [enD_at, List.getElem?_map] at hdi
    cases hs : (steps h)[i]? with
    | none =>
      rw [hs] at hdi
      cases hdi
    | some s =>
      rw [hs] at hdi
      cases hdi
      have hi := (List.getElem?_eq_some_iff.mp hs).1
      obtain ⟨x, y, wt⟩ := s
      refine gNest (is := [3, 4, 5]) (ds := [.i (x : Int), .i (y : Int), fr wt]) hv rfl (e'.tp x3.tp) fun σ4 e4 => ?_
      have b3 := b'.on x3
      obtain ⟨v1, hv1, hd1⟩ := e4.at_ 1 (.r (.ref p)) rfl
      cases hd1.raw
      obtain ⟨v2, hv2, hd2⟩ := e4.at_ 2 (.i (i : Int)) rfl
      cases hd2.int
      obtain ⟨v3, hv3, hd3⟩ := e4.at_ 3 (.i (x : Int)) rfl
      cases hd3.int
      refine ⟨.ref p, hv1, p, rfl, .inl ⟨kvs, .inl b3.at_⟩, ?_⟩
      refine ⟨.int (x : Int), hv3, ?_⟩
      refine ⟨by decide, fun l hl => ?_⟩
      have x5 : Exh H3 (upd H3 l (.lst [])) := Exh.new hl
      have b5 := b3.on x5
      have bl := b5.len
      refine ⟨kvs, .inl (x : Int), b5.at_, rfl, small1000 (by omega), fun v hv5 => ?_, fun hv5 => ?_⟩
      · obtain ⟨l', ns, x9, k1, k2, k3, k4, k5, k6, k7⟩ := b5.all _ _ hv5
        subst k2
        have ex : x9 = x := by
          injection k1 with k1
          omega
        subst ex
        refine ⟨.inl ⟨rfl, _, SqL.of k5⟩, ?_⟩
        refine ⟨.int (i : Int), hv2, ?_⟩
        refine ⟨l', intsV ns, _, rfl, rfl, k5, small1000 (by unfold intsV; rw [List.length_map]; omega), ?_⟩
        rw [intsV_snoc]
        have b6 := b5.more hv5 k5 hs rfl
        have lf : H l' = none := k3
        have tl : Tp (upd H3 l (.lst [])) (upd (upd H3 l (.lst [])) l' (.lst (intsV (ns ++ [i])))) := Tp.updL k5
        exact ⟨((x'.trans x3).trans x5).mut lf, ((t'.trans x3.tp).trans x5.tp).trans tl, ((((e4.tp x5.tp).tp tl).drop 2).drop 3 |>.drop 4).drop 5, kvs, b6⟩
      · have pn : l ≠ p := fun z => by
          subst z
          rw [b3.at_] at hl
          cases hl
        have hn : ∀ k, valV kvs k ≠ some (.ref l) := fun k z => by
          obtain ⟨l', ns, x', k1, k2, k3, k4, k5, k6, k7⟩ := b3.all _ _ z
          cases k2
          rw [k5] at hl
          cases hl
        have hf : H l = none := (x'.trans x3).free hl
        have b6 := b5.put hv5 hf pn upd_same hn
        have t6 : Tp (upd H3 l (.lst [])) (upd (upd H3 l (.lst [])) p (.dK (putK kvs (.inl (x : Int)) (.ref l)))) := Tp.updK b5.at_
        have hl6 : upd (upd H3 l (.lst [])) p (.dK (putK kvs (.inl (x : Int)) (.ref l))) l = some (.lst []) := by
          rw [upd_ne pn]
          exact upd_same
        refine ⟨.inl ⟨rfl, _, SqL.of hl6⟩, ?_⟩
        refine ⟨.int (i : Int), hv2, ?_⟩
        refine ⟨l, [], _, rfl, rfl, hl6, by decide, ?_⟩
        have hvl : valV (putK kvs (.inl (x : Int)) (.ref l)) (.inl (x : Int)) = some (.ref l) := by
          rw [valV_put, if_pos rfl]
        have hl7 : upd (upd H3 l (.lst [])) p (.dK (putK kvs (.inl (x : Int)) (.ref l))) l = some (.lst (intsV [])) := hl6
        -- one number alone
        have b7 : BI H (upd (upd (upd H3 l (.lst [])) p (.dK (putK kvs (.inl (x : Int)) (.ref l)))) l (.lst (intsV ([] ++ [i])))) p (steps h) (putK kvs (.inl (x : Int)) (.ref l)) (i + 1) := by
          refine ⟨by rw [upd_ne fun z => pn z.symm]; exact upd_same, b6.len, fun k v hk => ?_, b6.inj⟩
          obtain ⟨l2, ns2, y2, h1, h2, h3, h4, h5, h6, h7⟩ := b6.all k v hk
          subst h2
          by_cases c : l2 = l
          · subst c
            have ek := b6.inj _ _ _ hk hvl
            have ey : y2 = x := by
              rw [h1] at ek
              injection ek with ek
              omega
            subst ey
            refine ⟨l2, [i], y2, h1, rfl, h3, h4, upd_same, by rw [List.length_singleton]; omega, fun m hm => ?_⟩
            rw [List.mem_singleton.mp hm]
            exact ⟨_, hs, rfl⟩
          · exact ⟨l2, ns2, y2, h1, rfl, h3, h4, by rw [upd_ne c]; exact h5, h6, h7⟩
        have tl := Tp.updL (o := .lst (intsV ([] ++ [i]))) hl6
        have hp0 : H p = none := hp
        exact ⟨(((x'.trans x3).trans x5).mut hp0).mut hf, (((t'.trans x3.tp).trans x5.tp).trans t6).trans tl, (((((e4.tp x5.tp).tp t6).tp tl).drop 2).drop 3 |>.drop 4).drop 5, _, b7⟩
  · rintro σ' H' ⟨x', t', e', kvs, b'⟩
    dsimp only
    refine s_ret0 (P := (· = .r (.ref p))) (ed_var rfl) e' fun v H4 d pd x4 hv => ?_
    subst pd
    cases hv.raw
    have b4 := b'.on x4
    refine q p H4 kvs hp (x'.trans x4) ⟨b4.at_, fun x v hv => ?_⟩
    obtain ⟨l, ns, y, h1, h2, h3, h4, h5, h6, h7⟩ := b4.all _ _ hv
    have ey : y = x := by
      injection h1 with h1
      omega
    subst ey
    exact ⟨l, ns, h2, h5, h7⟩
end
end K27
/-! The readings keep the promises: going on from an event, on; reach. -/
namespace K27
open PySem PySem.Spec PyProof.Rows L2 KM
def intsP (ns : List Nat) : List PyData := ns.map fun k : Nat => PyData.int (k : Int)
theorem intsP_lay : ∀ ns : List Nat, PyData.canLayAll0 (intsP ns) = true
  | [] => rfl
  | n :: ns => by
    show PyData.canLayAll0 (.int (n : Int) :: intsP ns) = true
    rw [PyData.canLayAll0, intsP_lay ns]
    simp [PyData.canLay0]
theorem intsP_depth : ∀ ns : List Nat, PyData.depthAll (intsP ns) ≤ 1
  | [] => by
    show PyData.depthAll [] ≤ 1
    simp [PyData.depthAll]
  | n :: ns => by
    show PyData.depthAll (.int (n : Int) :: intsP ns) ≤ 1
    have := intsP_depth ns
    simp [PyData.depthAll, PyData.depth]
    omega
theorem intsP_shaped (ns : List Nat) : SeqAt.shaped (.list (intsP ns)) = true := by
  unfold SeqAt.shaped
  rw [Bool.and_eq_true]
  refine ⟨by rw [PyData.canLay0]; exact intsP_lay ns, decide_eq_true ?_⟩
  have := intsP_depth ns
  rw [PyData.depth]
  omega
section
variable {K : PySem.W.Frag} {vs : List V} {H H' H0 HB : Hp} {Q : VK} {E : XK} {n : Nat} {st : Steps} {Δ : List (Option PyD)} {te td ty tx tv tb tw ta : TE} {σ : L2.St} {D : Ends} {d e : PyD}
theorem intsP_dp : ∀ ns : List Nat, DpAll K H (intsV ns) (intsP ns)
  | [] => .nil
  | n :: ns => .cons (.int _) (intsP_dp ns)
/-- xs != [] -/
theorem w_neNil {qa : Addr} {ws : List Nat} (ho : EvD M0 K te Δ H (.r (.ref qa))) (hl : H qa = some (.lst (intsV ws))) : EvD M0 K (tOp (rNeD K) te (tLst tNil)) Δ H (.b (!ws.isEmpty)) := fun σ H1 c r1 e1 s1 hc Q q => by
  refine ho σ H1 c r1 e1 s1 hc _ fun x H2 d c2 p2 r2 s2 hc2 hx => ?_
  subst p2
  cases hx.raw
  refine ⟨by decide, fun l hlf => ?_⟩
  have x3 : Exh H2 (upd H2 l (.lst [])) := Exh.new hlf
  have h3 := x3 _ _ ((r1.trans r2).ex _ _ hl)
  refine ⟨.list (intsP ws), .list [], .lst (SqL.of h3) (intsP_dp ws), .lst (SqL.of upd_same) .nil, intsP_shaped ws, intsP_shaped [], ?_⟩
  have : (!PyData.eqv (.list (intsP ws)) (.list [])) = !ws.isEmpty := by
    rw [PyData.eqv]
    cases ws with
    | nil =>
      show (!PyData.eqvAll [] []) = false
      rw [PyData.eqvAll]
      rfl
    | cons a ws =>
      show (!PyData.eqvAll (.int (a : Int) :: intsP ws) []) = true
      rw [PyData.eqvAll]
      rfl
  rw [this]
  exact q _ _ _ c2 rfl (r2.trans x3.rf) trivial hc2 (.b _)
theorem intsV_flat : ∀ ns : List Nat, (intsV ns).all flatV = true
  | [] => rfl
  | n :: ns => intsV_flat ns
theorem intsV_in {y : Nat} : ∀ {ns : List Nat}, inV (.int (y : Int)) (intsV ns) = decide (y ∈ ns)
  | [] => rfl
  | n :: ns => by
    show (eqV (.int (n : Int)) (.int (y : Int)) || inV (.int (y : Int)) (intsV ns)) = _
    rw [intsV_in]
    show (((n : Int) == (y : Int)) || decide (y ∈ ns)) = _
    by_cases c : n = y
    · subst c
      simp
    · have h1 : ((n : Int) == (y : Int)) = false := beq_eq_false_iff_ne.mpr (by omega)
      rw [h1, Bool.false_or, decide_eq_decide]
      exact ⟨fun z => List.mem_cons_of_mem _ z, fun z => (List.mem_cons.mp z).elim (fun z => absurd z.symm c) id⟩
/-- y not in xs -/
theorem w_notIn {qa : Addr} {ws : List Nat} {y : Nat} (hy : EvD M0 K ty Δ H (dInt y)) (ho : EvD M0 K te Δ H (.r (.ref qa))) (hl : H qa = some (.lst (intsV ws))) : EvD M0 K (tOp (rIn K true) ty te) Δ H (.b (!decide (y ∈ ws))) := ed_op hy ho fun x z H1 Q r hx hz q => by
  cases hx.int
  cases hz.raw
  refine ⟨qa, _, rfl, .inl (SqL.of (r.ex _ _ hl)), rfl, intsV_flat ws, ?_⟩
  rw [intsV_in]
  exact q _ H1 _ rfl (Exh.refl _) (.b _)
/-- the state while going on -/
structure Go (K : PySem.W.Frag) (HB H : Hp) (a1 a2 qa : Addr) (n : Nat) (st : Steps) (t : Nat → Int) (x : Nat) (ws : List Nat) (d : Nat → Option Int) : Prop where
  ex : Exh HB H
  q0 : HB qa = none
  n1 : qa ≠ a1
  n2 : qa ≠ a2
  ql : H qa = some (.lst (intsV ws))
  s1 : ∃ kv, DicI K H a1 n (fun k => (d k).map fr) kv
  s2 : ∃ kv g, DicI K H a2 n g kv
  sq : SQ n st t x d
  nd : ws.Nodup
  wl : ∀ y ∈ ws, y < n ∧ (d y).isSome = true
variable {a1 a2 qa : Addr} {t : Nat → Int} {x : Nat} {ws : List Nat} {dd : Nat → Option Int}
theorem Go.on (g : Go K HB H a1 a2 qa n st t x ws dd) (xx : Exh H H') : Go K HB H' a1 a2 qa n st t x ws dd := by
  obtain ⟨k1, h1⟩ := g.s1
  obtain ⟨k2, g2, h2⟩ := g.s2
  exact ⟨g.ex.trans xx, g.q0, g.n1, g.n2, xx _ _ g.ql, ⟨k1, h1.mono xx.tp (xx _ _ h1.at_)⟩, ⟨k2, g2, h2.mono xx.tp (xx _ _ h2.at_)⟩, g.sq, g.nd, g.wl⟩
theorem map_pt {d : Nat → Option Int} {y : Nat} {z : Int} : (fun k => (pt d y (some z) k).map fr) = ptN (fun k => (d k).map fr) y (some (fr z)) := by
  funext k
  unfold pt ptN
  by_cases c : k = y
  · rw [if_pos c, if_pos c]
    rfl
  · rw [if_neg c, if_neg c]
theorem pt_some {d : Nat → Option Int} {y k : Nat} {z : Int} (h : (d k).isSome = true) : (pt d y (some z) k).isSome = true := by
  unfold pt
  by_cases c : k = y
  · rw [if_pos c]
    rfl
  · rw [if_neg c]
    exact h
theorem Go.setS (g : Go K HB H a1 a2 qa n st t x ws dd) (hb : HB a1 = none) (ne : a1 ≠ a2) {kv : List (Key × V)} (hk : H a1 = some (.dK kv)) {y : Nat} {z : Int} {v : V} (hy : y < n) (hv : Dt K H v (fr z)) (sq : SQ n st t x (pt dd y (some z))) :
    Go K HB (upd H a1 (.dK (putK kv (.inl (y : Int)) v))) a1 a2 qa n st t x ws (pt dd y (some z)) := by
  obtain ⟨k1, h1⟩ := g.s1
  obtain ⟨k2, g2, h2⟩ := g.s2
  have ek : k1 = kv := by
    have := h1.at_
    rw [hk] at this
    cases this
    rfl
  subst ek
  have tk := Tp.updK (o := .dK (putK k1 (.inl (y : Int)) v)) hk
  have hp := h1.put hy hv
  rw [← map_pt] at hp
  exact ⟨g.ex.mut hb, g.q0, g.n1, g.n2, by rw [upd_ne g.n1]; exact g.ql, ⟨_, hp⟩, ⟨k2, g2, h2.mono tk (by rw [upd_ne fun z => ne z.symm]; exact h2.at_)⟩, sq, g.nd, fun u hu => ⟨(g.wl u hu).1, pt_some (g.wl u hu).2⟩⟩
theorem Go.setC (g : Go K HB H a1 a2 qa n st t x ws dd) (hb : HB a2 = none) (ne : a1 ≠ a2) {kv : List (Key × V)} (hk : H a2 = some (.dK kv)) {y : Nat} {d : PyD} {v : V} (hy : y < n) (hv : Dt K H v d) :
    Go K HB (upd H a2 (.dK (putK kv (.inl (y : Int)) v))) a1 a2 qa n st t x ws dd := by
  obtain ⟨k1, h1⟩ := g.s1
  obtain ⟨k2, g2, h2⟩ := g.s2
  have ek : k2 = kv := by
    have := h2.at_
    rw [hk] at this
    cases this
    rfl
  subst ek
  have tk := Tp.updK (o := .dK (putK k2 (.inl (y : Int)) v)) hk
  exact ⟨g.ex.mut hb, g.q0, g.n1, g.n2, by rw [upd_ne g.n2]; exact g.ql, ⟨k1, h1.mono tk (by rw [upd_ne ne]; exact h1.at_)⟩, ⟨_, _, h2.put hy hv⟩, g.sq, g.nd, g.wl⟩
theorem Go.list (g : Go K HB H a1 a2 qa n st t x ws dd) {ws' : List Nat} (nd : ws'.Nodup) (wl : ∀ y ∈ ws', y < n ∧ (dd y).isSome = true) : Go K HB (upd H qa (.lst (intsV ws'))) a1 a2 qa n st t x ws' dd := by
  obtain ⟨k1, h1⟩ := g.s1
  obtain ⟨k2, g2, h2⟩ := g.s2
  have tk := Tp.updL (o := .lst (intsV ws')) g.ql
  exact ⟨g.ex.mut g.q0, g.q0, g.n1, g.n2, upd_same, ⟨k1, h1.mono tk (by rw [upd_ne fun z => g.n1 z.symm]; exact h1.at_)⟩, ⟨k2, g2, h2.mono tk (by rw [upd_ne fun z => g.n2 z.symm]; exact h2.at_)⟩, g.sq, nd, wl⟩
theorem nat_lt : ∀ {n : Nat} {l : List Nat}, l.Nodup → (∀ y ∈ l, y < n) → l.length ≤ n := fun {n l} nd h => by
  have := keys_lt (k := n) (l := l.map fun y : Nat => (Sum.inl (y : Int) : Key)) ?_ ?_
  · rw [List.length_map] at this
    exact this
  · refine List.pairwise_map.mpr (nd.imp fun {a b} hab e => hab ?_)
    injection e with e
    omega
  · intro p hp
    obtain ⟨y, hy, rfl⟩ := List.mem_map.mp hp
    exact ⟨y, h y hy, rfl⟩
theorem len_going_on (h : sp_going_on K vs H Q E) : vs.length = 2 := by
  obtain ⟨_, _, _, _, _, _, hd, _⟩ := h
  exact hd.length
theorem rd_going_on (kx : Kx K) (h : sp_going_on K vs H Q E) : t_going_on K { nx := fun _ H' => Q .non H', rt := Q } (start N_going_on vs) H := by
  obtain ⟨h, x, t, w, hx, fit, hd, q⟩ := h
  have wst := ws w
  have hl := w.len
  have e := EnvD.st (N := N_going_on) hd
  obtain ⟨v0, hv0, hd0⟩ := e.at_ 0 (dHist h) rfl
  refine sq ⟨v0, hv0, h, w, .one hd0, fun v1 H1 d1 p1 x1 hv1 => ⟨v0, hv0, h, w, .one (hd0.mono x1.tp), fun pb HB kb hpb xB by_ => ⟨v1, .ref pb, rfl, ?_⟩⟩⟩
  subst p1
  have x0 : Exh H HB := x1.trans xB
  have eB := ((e.tp x0.tp).set (i := 2) (hv1.mono xB.tp)).set (i := 3) (v := .ref pb) (.r _)
  generalize hσB : List.set (List.set (L2.start N_going_on vs) 2 (some v1)) 3 (some (.ref pb)) = σB at eB ⊢
  dsimp only
  generalize hst : steps h = st at wst fit eB by_
  generalize hnn : h.ev.length = n at wst hx q
  have hl : n ≤ 20 := by omega
  obtain ⟨vx, hvx, hdx⟩ := eB.at_ 1 (dInt x) rfl
  cases hdx.int
  refine sq ?_
  intro a1 ha1
  refine ⟨.int (x : Int), hvx, ?_⟩
  refine ⟨upd_same, [(.inl (x : Int), .ref (He.ga K "NOUGHT"))], rfl, Nat.le_of_ble_eq_true rfl, ?_⟩
  intro a2 ha2
  refine ⟨_, _, rfl, ?_⟩
  have xa : Exh HB (upd HB a1 (.dK [])) := Exh.new ha1
  have xb : Exh HB (upd (upd HB a1 (.dK [])) a1 (.dK (mergeK [] [(.inl (x : Int), .ref (He.ga K "NOUGHT"))]))) := xa.mut ha1
  have dk0 : DicI K (upd HB a1 (.dK [])) a1 n (fun _ => none) [] := DicI.empty upd_same
  have dk1 := dk0.put (d := fr 0) hx (v := .ref (He.ga K "NOUGHT")) (.t (kx.nought _) (.cons (.i _) (.one (.i _))))
  have ef : ptN (fun _ => (none : Option PyD)) x (some (fr 0)) = fun k => (pt (fun _ => none) x (some (0 : Int)) k).map fr := by
    rw [map_pt]
    rfl
  rw [ef] at dk1
  have hb2 : HB a2 = none := xb.free ha2
  have n12 : a1 ≠ a2 := fun z => by
    subst z
    rw [upd_same] at ha2
    cases ha2
  generalize hH3 : upd (upd HB a1 (.dK [])) a1 (.dK (mergeK [] [(.inl (x : Int), .ref (He.ga K "NOUGHT"))])) = H3 at ha2 xb ⊢
  have dk1 : DicI K H3 a1 n (fun k => (pt (fun _ => none) x (some (0 : Int)) k).map fr) _ := hH3 ▸ dk1
  have xc : Exh H3 (upd H3 a2 (.dK [])) := Exh.new ha2
  have dk2 := dk1.mono xc.tp (xc _ _ dk1.at_)
  have dc2 : DicI K (upd H3 a2 (.dK [])) a2 n (fun _ => none) [] := DicI.empty upd_same
  have e4 := ((eB.tp (xb.trans xc).tp).set (i := 4) (v := .ref a1) (.r _)).set (i := 5) (v := .ref a2) (.r _)
  generalize upd H3 a2 (.dK []) = H4 at xc dk2 dc2 e4 ⊢
  have x4 : Exh HB H4 := xb.trans xc
  dsimp only
  refine sq (s_asgB (M := M0) (c := 0) (el_lst (ea_cons (ed_var (d := dInt x) rfl) ea_nil)) e4 trivial (by decide) fun σ5 H5 q0 c5 b5 e5 _ _ => ?_)
  obtain ⟨us5, hus5, hds5⟩ := b5.at_
  have hus : us5 = intsV [x] := by
    obtain ⟨v, rfl, hv⟩ := hds5.one'
    rw [hv.int]
    rfl
  subst hus
  have x5 := b5.ex
  have g0 : Go K HB H5 a1 a2 q0 n st t x [x] (pt (fun _ => none) x (some 0)) := by
    refine ⟨x4.trans x5, x4.free b5.fr, fun z => ?_, fun z => ?_, hus5, ⟨_, dk2.mono x5.tp (x5 _ _ dk2.at_)⟩, ⟨_, _, dc2.mono x5.tp (x5 _ _ dc2.at_)⟩, SQ.init hx, List.nodup_cons.mpr ⟨by simp, List.nodup_nil⟩, fun y hy => ?_⟩
    · have := b5.fr
      rw [z, dk2.at_] at this
      cases this
    · have := b5.fr
      rw [z, dc2.at_] at this
      cases this
    · rw [List.mem_singleton.mp hy]
      exact ⟨hx, by unfold pt; rw [if_pos rfl]; rfl⟩
  dsimp only
  have cont : ∀ σ' H', (∃ qa ws d, EnvD K σ' H' [some (dHist h), some (dInt x), some (.t (st.map dStep)), some (.r (.ref pb)), some (.r (.ref a1)), some (.r (.ref a2)), some (.r (.ref qa)), none, none, none, none] ∧ Go K HB H' a1 a2 qa n st t x ws d) →
      tRet (tTup (tCons (tVar 4) (tCons (tVar 5) tNil))) { nx := fun x H' => Q V.non H', rt := Q } σ' H' := by
    rintro σ' H' ⟨qa, ws, d, e', g'⟩
    refine s_ret0 (P := (· = .t [.r (.ref a1), .r (.ref a2)])) (ed_tup (ea_cons (ed_var rfl) (ea_cons (ed_var rfl) ea_nil))) e' fun v H6 d6 p6 x6 hv => ?_
    subst p6
    have g6 := g'.on x6
    obtain ⟨k1, h1⟩ := g6.s1
    exact q v H6 a1 a2 d k1 (x0.trans g6.ex) hv h1
  refine sq ⟨fun m σ' H' => ∃ qa ws d, EnvD K σ' H' [some (dHist h), some (dInt x), some (.t (st.map dStep)), some (.r (.ref pb)), some (.r (.ref a1)), some (.r (.ref a2)), some (.r (.ref qa)), none, none, none, none] ∧ Go K HB H' a1 a2 qa n st t x ws d ∧ m = 2 * pots n st t x d + ws.length,
    ⟨_, q0, [x], _, e5, g0, rfl⟩, ?_⟩
  rintro m σ6 H6 ⟨qa, ws, d, e6, g6, rfl⟩
  refine (et_test (w_neNil (ed_var (i := 6) rfl) g6.ql)) σ6 H6 0 (Rf.refl _) e6 trivial (by decide) _ fun b H7 c7 pb7 r7 _ _ => ?_
  subst pb7
  have g7 := g6.on r7.ex
  have e7 := e6.tp r7.tup
  cases ws with
  | nil => exact iteF (cont σ6 H7 ⟨qa, [], d, e7, g7⟩)
  | cons y0 ws =>
    have nd7 := List.nodup_cons.mp g7.nd
    have hy0 := g7.wl y0 (List.mem_cons_self ..)
    have wl7 : ∀ y ∈ ws, y < n ∧ (d y).isSome = true := fun y hy => g7.wl y (List.mem_cons_of_mem _ hy)
    refine iteT ⟨fun σ' H' => ∃ qa ws' d', EnvD K σ' H' [some (dHist h), some (dInt x), some (.t (st.map dStep)), some (.r (.ref pb)), some (.r (.ref a1)), some (.r (.ref a2)), some (.r (.ref qa)), none, none, none, none] ∧ Go K HB H' a1 a2 qa n st t x ws' d' ∧ 2 * pots n st t x d' + ws'.length < 2 * pots n st t x d + (y0 :: ws).length,
      fun σ' H' ⟨qa, ws', d', e', g', hm⟩ => ⟨_, hm, qa, ws', d', e', g', rfl⟩, ?_⟩
    obtain ⟨vq, hvq, hdq⟩ := e7.at_ 6 (.r (.ref qa)) rfl
    cases hdq.raw
    refine sq ⟨.ref qa, hvq, qa, .int (y0 : Int), intsV ws, rfl, SqL.of g7.ql, ?_, fun q1 hq1 => ?_⟩
    · have := nat_lt nd7.2 fun y hy => (wl7 y hy).1
      unfold intsV
      rw [List.length_map]
      omega
    have x8 : Exh H7 (upd H7 q1 (.lst (intsV ws))) := Exh.new hq1
    have g8 : Go K HB (upd H7 q1 (.lst (intsV ws))) a1 a2 q1 n st t x ws d := by
      have g := g7.on x8
      obtain ⟨k1, h1⟩ := g7.s1
      obtain ⟨k2, g2, h2⟩ := g7.s2
      refine ⟨g.ex, g7.ex.free hq1, fun z => ?_, fun z => ?_, upd_same, g.s1, g.s2, g.sq, nd7.2, wl7⟩
      · rw [z, h1.at_] at hq1
        cases hq1
      · rw [z, h2.at_] at hq1
        cases hq1
    have e8 := ((e7.tp x8.tp).set (i := 7) (v := .int (y0 : Int)) (.i _)).set (i := 6) (v := .ref q1) (.r _)
    generalize upd H7 q1 (.lst (intsV ws)) = H8 at x8 g8 e8 ⊢
    dsimp only
    -- the list of steps from here
    have key : ∀ (lx : Addr) (ns : List Nat) (σ9 : L2.St) (H9 : Hp), Exh H8 H9 → EnvD K σ9 H9 [some (dHist h), some (dInt x), some (.t (st.map dStep)), some (.r (.ref pb)), some (.r (.ref a1)), some (.r (.ref a2)), some (.r (.ref q1)), some (dInt y0), none, none, none] → H9 lx = some (.lst (intsV ns)) → lx ≠ a1 → lx ≠ a2 → lx ≠ q1 → (∀ k ∈ ns, ∃ s, st[k]? = some s ∧ s.1 = y0) →
        ∀ Pz : L2.St → Hp → Prop, (∀ σ' H', (∃ ws' d', EnvD K σ' H' [some (dHist h), some (dInt x), some (.t (st.map dStep)), some (.r (.ref pb)), some (.r (.ref a1)), some (.r (.ref a2)), some (.r (.ref q1)), none, none, none, none] ∧ Go K HB H' a1 a2 q1 n st t x ws' d' ∧ 2 * pots n st t x d' + ws'.length < 2 * pots n st t x d + (y0 :: ws).length) → Pz σ' H') →
        ∃ W : Nat → Nat → L2.St → Hp → Prop, (∃ m, W 0 m σ9 H9) ∧ ∀ i m σ H, W i m σ H → ((Itl K lx).stop i H ∧ Pz σ H) ∨ ((Itl K lx).go i H ∧ ∃ N : L2.St → Hp → Prop, (∀ σ' H', N σ' H' → ∃ m', m' < m ∧ W (i + 1) m' σ' H') ∧ ∀ x H', (Itl K lx).yld i H x H' → gName 8 x σ H' fun σ2 H2 =>
          (tSeq (tAsg (tOp (rIxT K) (tOp (rIxT K) (tVar 2) (tVar 8)) (tC (V.int 1))) (gName 9))
                        (tSeq
                          (tAsg
                            (tCall (sp_added K) [] E0
                              (tCons (tDGet (tVar 4) (tVar 7))
                                (tCons (tOp (rIxT K) (tOp (rIxT K) (tVar 2) (tVar 8)) (tC (V.int 2))) tNil)))
                            (gName 10))
                          (tIfS
                            (tOr (tB (tDNotIn (tVar 9) (tVar 4)))
                              (tB
                                (tCall (sp_is_below K) [] E0 (tCons (tVar 10) (tCons (tDGet (tVar 4) (tVar 9)) tNil)))))
                            (tSeq (sDPut (tVar 4) (tVar 9) (tVar 10))
                              (tSeq (sDPut (tVar 5) (tVar 9) (tVar 8))
                                (tIfS (tTest (tOp (rIn K true) (tVar 9) (tVar 6)))
                                  (tDrop (tBM K "list" rAppend (tVar 6) (tCons (tVar 9) tNil))) tNext)))
                            tNext))) { nx := N, rt := Q, ct := N, bk := Pz } σ2 H2) := by
      intro lx ns σ9 H9 x9 e9 hlx n1 n2 n3 hns Pz hPz
      refine for_list (K := K) (a := lx) (xs := intsV ns) (D := { nx := Pz, rt := Q }) (fun i σ' H' => H' lx = some (.lst (intsV ns)) ∧ ∃ ws' d', EnvD K σ' H' [some (dHist h), some (dInt x), some (.t (st.map dStep)), some (.r (.ref pb)), some (.r (.ref a1)), some (.r (.ref a2)), some (.r (.ref q1)), some (dInt y0), none, none, none] ∧ Go K HB H' a1 a2 q1 n st t x ws' d' ∧ (d' y0).isSome = true ∧ 2 * pots n st t x d' + ws'.length < 2 * pots n st t x d + (y0 :: ws).length)
        ⟨hlx, ws, d, e9, g8.on x9, hy0.2, by rw [List.length_cons]; omega⟩ (fun i σ' H' _ p => SqL.of p.1) ?_ ?_
      · rintro i xv σ' H' hxi ⟨hl', ws', d', e', g', hd', hm⟩
        obtain ⟨k, hk, rfl⟩ : ∃ k, k ∈ ns ∧ V.int (k : Int) = xv := by
          have := List.mem_of_getElem? hxi
          obtain ⟨k, hk, e⟩ := List.mem_map.mp this
          exact ⟨k, hk, e⟩
        obtain ⟨s, hs, hs1⟩ := hns k hk
        obtain ⟨sx, y, wt⟩ := s
        have hs1 : sx = y0 := hs1
        subst hs1
        obtain ⟨_, hy, _⟩ := wst.at hs
        have hy : y < n := hy
        have ea := e'.set (i := 8) (v := .int (k : Int)) (.i _)
        refine sq (s_asg0 (P := (· = dInt y)) (w_ix (w_ixv (ed_var rfl) (ed_var (d := dInt k) rfl) (atI_map (f := dStep) hs)) rfl) ea fun σa Ha da pa xa eb => ?_)
        subst pa
        have ga := g'.on xa
        obtain ⟨a, had⟩ := Option.isSome_iff_exists.mp hd'
        obtain ⟨k1, h1⟩ := ga.s1
        dsimp only
        refine sq (s_asg0 (P := (· = fr (a + wt))) (ed_call (ea_cons (w_dget h1 (fun z => z) (ed_var rfl) (ed_var (d := dInt sx) rfl) (d := fr a) (by rw [had]; rfl)) (ea_cons (w_ix (w_ixv (ed_var rfl) (ed_var (d := dInt k) rfl) (atI_map (f := dStep) hs)) rfl) ea_nil)) (CallD.of fun xs H1 Q E r hx q => ⟨_, _, hx, q⟩)) eb fun σc Hc dc pc xc2 ec => ?_)
        subst pc
        have gc := ga.on xc2
        obtain ⟨k3, h3⟩ := gc.s1
        have hlc := xc2 _ _ (xa _ _ hl')
        dsimp only
        have tst : EtD M0 K (tOr (tB (tDNotIn (tVar 9) (tVar 4))) (tB (tCall (sp_is_below K) [] E0 (tCons (tVar 10) (tCons (tDGet (tVar 4) (tVar 9)) tNil))))) [some (dHist h), some (dInt x), some (.t (st.map dStep)), some (.r (.ref pb)), some (.r (.ref a1)), some (.r (.ref a2)), some (.r (.ref q1)), some (dInt sx), some (dInt k), some (dInt y), some (fr (a + wt))] Hc (match d' y with
          | none => true
          | some z => decide (a + wt < z)) := by
          have t1 : EtD M0 K (tB (tDNotIn (tVar 9) (tVar 4))) [some (dHist h), some (dInt x), some (.t (st.map dStep)), some (.r (.ref pb)), some (.r (.ref a1)), some (.r (.ref a2)), some (.r (.ref q1)), some (dInt sx), some (dInt k), some (dInt y), some (fr (a + wt))] Hc (!((d' y).map fr).isSome) := et_B (w_dnin h3 (fun z => z) (ed_var rfl) (ed_var (d := dInt y) rfl))
          cases hdy : d' y with
          | none =>
            rw [hdy] at t1
            exact (et_or (a := true) (b := true) t1 fun z => by cases z).is rfl
          | some z =>
            rw [hdy] at t1
            exact (et_or (a := false) (b := decide (a + wt < z)) t1 fun _ => et_B (ed_call (ea_cons (ed_var rfl) (ea_cons (w_dget h3 (fun z => z) (ed_var rfl) (ed_var (d := dInt y) rfl) (d := fr z) (by rw [hdy]; rfl)) ea_nil)) (CallD.of fun xs H1 Q E r hx q => ⟨_, _, hx, q⟩))).is (by rw [Bool.false_or])
        refine s_if0 tst ec (fun hb Hd xd ed => ?_) fun hb Hd xd ed => ?_
        · have hlt : ∀ z, d' y = some z → a + wt < z := fun z hz => by
            rw [hz] at hb
            exact of_decide_eq_true hb
          obtain ⟨sq', ps'⟩ := SQ.upd wst fit g'.sq (List.mem_of_getElem? hs) had hlt
          have sq' : SQ n st t x (pt d' y (some (a + wt))) := sq'
          have ps' : pots n st t x (pt d' y (some (a + wt))) + 1 ≤ pots n st t x d' := ps'
          have h4 := h3.mono xd.tp (xd _ _ h3.at_)
          have gd := gc.on xd
          refine sq (s_dput (M := M0) (c := 0) (n := 0) (P := (· = fr (a + wt))) h4 (fun z => z) (ed_var rfl) (ed_var (d := dInt y) rfl) (ed_var rfl) hy (by omega) ed trivial (by decide) fun He Hf df vf cf pf rf hvf hkf eHf _ ef _ _ => ?_)
          subst pf
          have gf := (gd.on rf.ex).setS (xb.free ha2 |> fun _ => ha1) n12 hkf hy hvf sq'
          rw [← eHf] at gf
          have hlf : Hf lx = some (.lst (intsV ns)) := by
            rw [eHf, upd_ne n1]
            exact rf.ex _ _ (xd _ _ hlc)
          obtain ⟨k5, g5, h5⟩ := gf.s2
          dsimp only
          refine sq (s_dput (M := M0) (c := 0) (n := 0) (P := (· = dInt k)) h5 (fun z => z) (ed_var rfl) (ed_var (d := dInt y) rfl) (ed_var rfl) hy (by omega) ef trivial (by decide) fun Hg Hh dh vh ch ph rh hvh hkh eHh _ eh _ _ => ?_)
          subst ph
          have gh := (gf.on rh.ex).setC hb2 n12 hkh hy hvh
          rw [← eHh] at gh
          have hlh : Hh lx = some (.lst (intsV ns)) := by
            rw [eHh, upd_ne n2]
            exact rh.ex _ _ hlf
          dsimp only
          refine s_if0 (et_test (w_notIn (ed_var (d := dInt y) rfl) (ed_var (i := 6) rfl) gh.ql)) eh (fun hb Hi xi ei => ?_) fun hb Hi xi ei => ?_
          · have hni : y ∉ ws' := by
              intro z
              rw [decide_eq_true z] at hb
              cases hb
            have gi := gh.on xi
            obtain ⟨v6, hv6, hd6⟩ := ei.at_ 6 (.r (.ref q1)) rfl
            cases hd6.raw
            obtain ⟨v9, hv9, hd9⟩ := ei.at_ 9 (dInt y) rfl
            cases hd9.int
            refine ⟨.ref q1, hv6, .inl ⟨rfl, _, SqL.of gi.ql⟩, .int (y : Int), hv9, q1, _, _, rfl, rfl, gi.ql, ?_, ?_⟩
            · have := nat_lt gi.nd fun y hy => (gi.wl y hy).1
              refine small1000 ?_
              unfold intsV
              rw [List.length_map]
              omega
            · rw [intsV_snoc]
              have wl' : ∀ u ∈ ws' ++ [y], u < n ∧ (pt d' y (some (a + wt)) u).isSome = true := fun u hu => by
                rcases List.mem_append.mp hu with hu | hu
                · exact gi.wl u hu
                · rw [List.mem_singleton.mp hu]
                  exact ⟨hy, by unfold pt; rw [if_pos rfl]; rfl⟩
              have gj := gi.list (ws' := ws' ++ [y]) (List.nodup_append.mpr ⟨gi.nd, List.nodup_cons.mpr ⟨by simp, List.nodup_nil⟩, fun u hu v hv => by rw [List.mem_singleton.mp hv]; intro z; rw [z] at hu; exact hni hu⟩) wl'
              refine ⟨by rw [upd_ne n3]; exact xi _ _ hlh, _, _, (((ei.tp (Tp.updL gi.ql)).drop 8).drop 9).drop 10, gj, pt_some hd', ?_⟩
              rw [List.length_append, List.length_singleton]
              omega
          · exact ⟨xi _ _ hlh, _, _, ((ei.drop 8).drop 9).drop 10, gh.on xi, pt_some hd', by omega⟩
        · exact ⟨xd _ _ hlc, ws', d', ((ed.drop 8).drop 9).drop 10, gc.on xd, hd', hm⟩
      · rintro σ' H' ⟨_, ws', d', e', g', _, hm⟩
        exact hPz σ' H' ⟨ws', d', e'.drop 7, g', hm⟩
    -- the way to that list
    obtain ⟨v3, hv3, hd3⟩ := e8.at_ 3 (.r (.ref pb)) rfl
    cases hd3.raw
    obtain ⟨v7, hv7, hd7⟩ := e8.at_ 7 (dInt y0) rfl
    cases hd7.int
    have hpb8 := g8.ex _ _ by_.1
    refine ⟨.ref pb, hv3, pb, rfl, .inl ⟨kb, .inl hpb8⟩, .int (y0 : Int), hv7, by decide, fun l0 hl0 => ?_⟩
    have x9 : Exh H8 (upd H8 l0 (.lst [])) := Exh.new hl0
    have hpb9 := x9 _ _ hpb8
    refine ⟨valV kb (.inl (y0 : Int)), DGet.k (k := .inl (y0 : Int)) hpb9, ?_⟩
    have ax : ∀ lx, HB lx ≠ none → lx ≠ a1 ∧ lx ≠ a2 ∧ lx ≠ q1 := fun lx hlx => ⟨fun z => hlx (z ▸ ha1), fun z => hlx (z ▸ hb2), fun z => hlx (z ▸ g8.q0)⟩
    obtain ⟨k1, h1⟩ := g8.s1
    obtain ⟨k2, g2, h2⟩ := g8.s2
    cases hval : valV kb (.inl (y0 : Int)) with
    | none =>
      refine ⟨l0, rfl, ⟨[], SqL.of upd_same⟩, ?_⟩
      refine key l0 [] _ _ x9 ((e8.tp x9.tp)) upd_same (fun z => ?_) (fun z => ?_) (fun z => ?_) (fun k hk => by cases hk) _ fun σ' H' p => ?_
      · rw [z, h1.at_] at hl0
        cases hl0
      · rw [z, h2.at_] at hl0
        cases hl0
      · rw [z, g8.ql] at hl0
        cases hl0
      · obtain ⟨ws', d', r⟩ := p
        exact ⟨q1, ws', d', r⟩
    | some v =>
      obtain ⟨lx, ns, rfl, hlx, hns⟩ := by_.2 y0 v hval
      have hlx9 := x9 _ _ (g8.ex _ _ hlx)
      obtain ⟨n1, n2, n3⟩ := ax lx (by rw [hlx]; exact fun z => by cases z)
      refine ⟨lx, rfl, ⟨_, SqL.of hlx9⟩, ?_⟩
      refine key lx ns _ _ x9 ((e8.tp x9.tp)) hlx9 n1 n2 n3 hns _ fun σ' H' p => ?_
      obtain ⟨ws', d', r⟩ := p
      exact ⟨q1, ws', d', r⟩
theorem len_reach_clever (h : sp_reach_clever K vs H Q E) : vs.length = 2 := by
  obtain ⟨_, _, _, _, hd, _⟩ := h
  exact hd.length
theorem rd_reach_clever (kx : Kx K) (h : sp_reach_clever K vs H Q E) : t_reach_clever K E { nx := fun _ H' => Q .non H', rt := Q } (start N_reach_clever vs) H := by
  obtain ⟨h, x, w, hx, hd, q, qe⟩ := h
  have wl := w.len
  have e := EnvD.st (N := N_reach_clever) hd
  refine sq (s_drop0 (P := (· = .n)) (ed_call (ea_cons (ed_var rfl) (ea_cons (ed_var rfl) ea_nil)) (CallD.of fun xs H1 Q E r hxs q => ⟨h, x, hx, hxs, q⟩)) e fun H1 d1 p1 x1 e1 => ?_)
  dsimp only [tSeq, tDrop, tCall]
  refine (ea_cons (M := M0) (K := K) (H := H1) (ed_var (i := 0) (d := dHist h) rfl) ea_nil) _ H1 0 (Rf.refl _) e1 trivial (by decide) _ fun xs H2 ds c2 p2 r2 _ _ hxs => ?_
  subst p2
  rw [List.append_nil]
  refine ⟨h, w, hxs, fun v3 H3 d3 ⟨t, fit⟩ x3 hv3 => ?_, (qe.on x1).on r2.ex⟩
  have e3 := e1.tp (r2.ex.trans x3).tp
  have x03 : Exh H H3 := (x1.trans r2.ex).trans x3
  obtain ⟨v0, hv0, hd0⟩ := e3.at_ 0 (dHist h) rfl
  obtain ⟨v1, hv1, hd1⟩ := e3.at_ 1 (dInt x) rfl
  refine ⟨v0, hv0, v0, hv0, v1, hv1, h, x, t, w, hx, fit, .cons hd0 (.one hd1), fun v H4 a1 a2 f kvs x4 hv hk => ?_⟩
  obtain ⟨a, us, rfl, hsq, hus⟩ := hv.tup
  obtain ⟨u1, u2, rfl, hu1, hu2⟩ := hus.two'
  cases hu1.raw
  refine ⟨a, _, 0, .ref a1, rfl, rfl, hsq, rfl, ?_⟩
  refine ⟨h, a1, f, kvs, by omega, .cons (hd0.mono x4.tp) (.one (.r _)), hk, fun v5 H5 d5 p5 x5 hv5 => ?_⟩
  exact q v5 H5 d5 ⟨⟨t, fit⟩, _, p5, by rw [List.length_map, List.length_range]⟩ ((x03.trans x4).trans x5) hv5
theorem len_reach (h : sp_reach K vs H Q E) : vs.length = 3 := by
  obtain ⟨_, _, _, _, _, _, hd, _⟩ := h
  exact hd.length
theorem rd_reach (kx : Kx K) (h : sp_reach K vs H Q E) : t_reach K E { nx := fun _ H' => Q .non H', rt := Q } (start N_reach vs) H := by
  obtain ⟨h, x, y, w, hx, hy, hd, q, qe⟩ := h
  have e := EnvD.st (N := N_reach) hd
  refine sq (s_drop0 (P := (· = .n)) (ed_call (ea_cons (ed_var rfl) (ea_cons (ed_var rfl) ea_nil)) (CallD.of fun xs H1 Q E r hxs q => ⟨h, x, hx, hxs, q⟩)) e fun H1 d1 p1 x1 e1 => ?_)
  dsimp only
  refine sq (s_drop0 (P := (· = .n)) (ed_call (ea_cons (ed_var rfl) (ea_cons (ed_var rfl) ea_nil)) (CallD.of fun xs H1 Q E r hxs q => ⟨h, y, hy, hxs, q⟩)) e1 fun H2 d2 p2 x2 e2 => ?_)
  obtain ⟨v0, hv0, hd0⟩ := e2.at_ 0 (dHist h) rfl
  obtain ⟨v1, hv1, hd1⟩ := e2.at_ 1 (dInt x) rfl
  obtain ⟨v2, hv2, hd2⟩ := e2.at_ 2 (dInt y) rfl
  cases hd2.int
  refine ⟨v0, hv0, v1, hv1, h, x, w, hx, .cons hd0 (.one hd1), fun v3 H3 d3 ⟨⟨t, fit⟩, ds, p3, hl⟩ x3 hv3 => ?_, (qe.on x1).on x2⟩
  subst p3
  refine ⟨.int (y : Int), hv2, ?_⟩
  obtain ⟨a, us, rfl, hsq, hus⟩ := hv3.tup
  obtain ⟨u, hu⟩ : ∃ u, us[y]? = some u := ⟨us[y]'(by rw [hus.length, hl]; exact hy), List.getElem?_eq_getElem _⟩
  obtain ⟨du, _, hdu⟩ := hus.at' hu
  exact ⟨a, us, (y : Int), u, rfl, rfl, hsq, atI_nat hu, q u H3 du ⟨t, fit⟩ ((x1.trans x2).trans x3) hdu⟩
end
end K27
/-! The readings keep the promises: draws. -/
namespace K27
open PySem PySem.Spec PyProof.Rows L2 KM
def intsZ (ns : List Int) : List PyData := ns.map PyData.int
theorem intsZ_lay : ∀ ns : List Int, PyData.canLayAll0 (intsZ ns) = true
  | [] => rfl
  | n :: ns => by
    show PyData.canLayAll0 (.int n :: intsZ ns) = true
    rw [PyData.canLayAll0, intsZ_lay ns]
    simp [PyData.canLay0]
theorem intsZ_depth : ∀ ns : List Int, PyData.depthAll (intsZ ns) ≤ 1
  | [] => by
    show PyData.depthAll [] ≤ 1
    simp [PyData.depthAll]
  | n :: ns => by
    show PyData.depthAll (.int n :: intsZ ns) ≤ 1
    have := intsZ_depth ns
    simp [PyData.depthAll, PyData.depth]
    omega
theorem intsZ_shaped (ns : List Int) : SeqAt.shaped (.list (intsZ ns)) = true := by
  unfold SeqAt.shaped
  rw [Bool.and_eq_true]
  refine ⟨by rw [PyData.canLay0]; exact intsZ_lay ns, decide_eq_true ?_⟩
  have := intsZ_depth ns
  rw [PyData.depth]
  omega
section
variable {K : PySem.W.Frag} {vs : List V} {H H' H0 HB : Hp} {Q : VK} {E : XK} {n : Nat} {st : Steps} {Δ : List (Option PyD)} {te td ty tx tv tb tw ta tf tm : TE} {σ : L2.St} {D : Ends} {d e : PyD} {f q : Addr} {ns : List Int}
theorem intsZ_dp : ∀ ns : List Int, DpAll K H (ns.map V.int) (intsZ ns)
  | [] => .nil
  | n :: ns => .cons (.int _) (intsZ_dp ns)
/-- xs != [] -/
theorem w_neNilZ (ho : EvD M0 K te Δ H (.r (.ref q))) (hl : H q = some (.lst (ns.map V.int))) : EvD M0 K (tOp (rNeD K) te (tLst tNil)) Δ H (.b (!ns.isEmpty)) := fun σ H1 c r1 e1 s1 hc Q qq => by
  refine ho σ H1 c r1 e1 s1 hc _ fun x H2 d c2 p2 r2 s2 hc2 hx => ?_
  subst p2
  cases hx.raw
  refine ⟨by decide, fun l hlf => ?_⟩
  have x3 : Exh H2 (upd H2 l (.lst [])) := Exh.new hlf
  have h3 := x3 _ _ ((r1.trans r2).ex _ _ hl)
  refine ⟨.list (intsZ ns), .list [], .lst (SqL.of h3) (intsZ_dp ns), .lst (SqL.of upd_same) .nil, intsZ_shaped ns, intsZ_shaped [], ?_⟩
  have : (!PyData.eqv (.list (intsZ ns)) (.list [])) = !ns.isEmpty := by
    rw [PyData.eqv]
    cases ns with
    | nil =>
      show (!PyData.eqvAll [] []) = false
      rw [PyData.eqvAll]
      rfl
    | cons a ws =>
      show (!PyData.eqvAll (.int a :: intsZ ws) []) = true
      rw [PyData.eqvAll]
      rfl
  rw [this]
  exact qq _ _ _ c2 rfl (r2.trans x3.rf) trivial hc2 (.b _)
theorem len_law_feed (h : sp_law_feed K vs H Q E) : vs.length = 1 := by
  obtain ⟨_, _, rfl, _⟩ := h
  rfl
theorem rd_law_feed (kx : Kx K) (h : sp_law_feed K vs H Q E) : t_law_feed K { nx := fun _ H' => Q .non H', rt := Q } (start N_law_feed vs) H := by
  obtain ⟨a, ns, rfl, hs, hl, qq⟩ := h
  refine ⟨.ref a, rfl, 63, rfl, a, _, rfl, hs, fun p hp => ?_⟩
  have ec : cutV (ns.map V.int) none (some 63) = ns.map V.int := by
    unfold cutV
    rw [HT.sIx_none]
    show List.take (HT.sIx _ _ (some ((63 : Nat) : Int)) - 0) (List.drop 0 _) = _
    rw [HT.sIx_nat, List.length_map, List.drop_zero, Nat.sub_zero, Nat.min_eq_right hl]
    exact List.take_of_length_le (by rw [List.length_map]; exact Nat.le_refl _)
  rw [ec]
  refine ⟨p, _, rfl, .inl (SqL.of upd_same), fun q hq => ?_⟩
  refine ⟨Nat.le_of_ble_eq_true rfl, fun f hf => ?_⟩
  have x1 : Exh H (upd H p (.lst (ns.map V.int))) := Exh.new hp
  have x2 : Exh (upd H p (.lst (ns.map V.int))) (upd (upd H p (.lst (ns.map V.int))) q (.lst (ns.map V.int))) := Exh.new hq
  have x3 := Exh.new (o := .lst [.ref q, .int 0, .int 0, .int 0]) hf
  refine qq f q _ ((x1.trans x2).free hf) (x1.free hq) ((x1.trans x2).trans x3) ⟨0, 0, upd_same, ?_, Int.le_refl _, Int.le_refl _, hl⟩
  exact x3 _ _ upd_same
/-- feed[i] = z -/
theorem s_setF {i : Nat} {xs : List V} {z : Int} (hv : Δ[0]? = some (some (.r (.ref f)))) (hf : H f = some (.lst xs)) (hi : i < xs.length) (h : EvD M0 K te Δ H (.i z)) (e : EnvD K σ H Δ)
    (k : ∀ H1, Exh H H1 → H1 f = some (.lst xs) → EnvD K σ (upd H1 f (.lst (xs.set i (.int z)))) Δ → D.nx σ (upd H1 f (.lst (xs.set i (.int z))))) : tAsg te (gSub (tVar 0) (tC (.int (i : Int))) rSetL) D σ H := by
  refine h σ H 0 (Rf.refl _) e trivial (by decide) _ fun v H1 d c1 p1 r1 _ _ hvz => ?_
  subst p1
  cases hvz.int
  have e1 := e.tp r1.tup
  obtain ⟨v0, h0, hd0⟩ := e1.at_ 0 _ hv
  cases hd0.raw
  have hf1 := r1.ex _ _ hf
  refine ⟨.ref f, h0, f, xs, (i : Int), i, rfl, rfl, hf1, ?_, k H1 r1.ex hf1 (e1.tp (Tp.updL hf1))⟩
  unfold ixN
  rw [if_pos (by omega), if_pos (by omega)]
  rfl
/-- feed[i] -/
theorem w_fi {c0 dd kk : Int} {i : Int} (hv : Δ[0]? = some (some (.r (.ref f)))) (hf : H f = some (.lst [.ref q, .int c0, .int dd, .int kk])) (hi : atI [PyD.r (.ref q), .i c0, .i dd, .i kk] i = some d) : EvD M0 K (tOp (rIxL K) (tVar 0) (tC (.int i))) Δ H d :=
  ed_op (ed_var hv) ed_int (rop_ixL hf (fun z => z) (.cons (.r _) (.cons (.i _) (.cons (.i _) (.one (.i _))))) hi)
theorem w_pow {a b : Int} (ha : EvD M0 K ta Δ H (.i a)) (hb : EvD M0 K tb Δ H (.i b)) (hc : CPow a b) : EvD M0 K (tOp oPow ta tb) Δ H (.i (a ^ b.toNat)) := ed_op ha hb (rop_I hc fun _ _ => .i _)
theorem ints_dts : ∀ ns : List Int, Dts K H (ns.map V.int) (ns.map PyD.i)
  | [] => .nil
  | n :: ns => .cons (.i _) (ints_dts ns)
theorem len_law_draw (h : sp_law_draw K vs H Q E) : vs.length = 2 := by
  obtain ⟨_, _, _, _, _, ⟨_, _, _, rfl⟩, hd, _⟩ := h
  exact hd.length
theorem rd_law_draw (kx : Kx K) (h : sp_law_draw K vs H Q E) : t_law_draw K { nx := fun _ H' => Q .non H', rt := Q } (start N_law_draw vs) H := by
  obtain ⟨f, q, ns, c, ds, ⟨m, m0, m1, rfl⟩, hd, ⟨d0, k0, hf, hq, hd0, hk0, hl⟩, hc, qq⟩ := h
  have hc : c + 1 ≤ 100000 := hc
  have e := EnvD.st (N := N_law_draw) hd
  have qf : q ≠ f := fun z => by
    rw [z, hf] at hq
    injection hq with hq
    injection hq with hq
    cases ns with
    | nil => cases hq
    | cons a r =>
      injection hq with hq
      cases hq
  have fin : ∀ v k d' k' c' H', 0 ≤ k → k < m → c' ≤ c + 1 → Rf (· = f) H H' → H' f = some (.lst [.ref q, .int (c' : Nat), .int d', .int k']) → 0 ≤ d' → 0 ≤ k' → Dt K H' v (.i k) → Q v H' := fun v k d' k' c' H' h0 h1 h2 r hf' hd' hk' hv => by
    refine qq v (.i k) H' c' ⟨_, m, k, rfl, rfl, h0, h1⟩ r ⟨d', k', hf', r.keep _ _ qf hq, hd', hk', hl⟩ h2 hv
  refine sq (s_setF (f := f) (i := 1) (z := (c : Int) + 1) rfl hf (Nat.le_of_ble_eq_true rfl) (w_add (w_fi rfl hf rfl) ed_int) e fun H1 x1 hf1 e1 => ?_)
  have r1 : Rf (· = f) H (upd H1 f (.lst [.ref q, .int ((c + 1 : Nat) : Int), .int d0, .int k0])) := ⟨fun a o ha h => by
    rw [upd_ne ha]
    exact x1 _ _ h, x1.tp.trans (Tp.updL hf1)⟩
  have e1 : EnvD K _ (upd H1 f (.lst [.ref q, .int ((c + 1 : Nat) : Int), .int d0, .int k0])) _ := e1
  dsimp only
  show tSeq _ _ _ _ (upd H1 f (.lst [.ref q, .int ((c + 1 : Nat) : Int), .int d0, .int k0]))
  have hf2 : upd H1 f (.lst [.ref q, .int ((c + 1 : Nat) : Int), .int d0, .int k0]) f = some (.lst [.ref q, .int ((c + 1 : Nat) : Int), .int d0, .int k0]) := upd_same
  generalize upd H1 f (.lst [.ref q, .int ((c + 1 : Nat) : Int), .int d0, .int k0]) = H2 at r1 e1 hf2 ⊢
  refine sq ⟨fun w σ' H' => ∃ d k : Int, 0 ≤ d ∧ 0 ≤ k ∧ H' f = some (.lst [.ref q, .int ((c + 1 : Nat) : Int), .int d, .int k]) ∧ Rf (· = f) H H' ∧ EnvD K σ' H' [some (.r (.ref f)), some (.i m), none, none, none] ∧ w = ns.length - k.toNat, ⟨_, d0, k0, hd0, hk0, hf2, r1, e1, rfl⟩, ?_⟩
  rintro w σ3 H3 ⟨d, k, hd3, hk3, hf3, r3, e3, rfl⟩
  have hq3 := r3.keep _ _ qf hq
  have lenq : ∀ (Δ : List (Option PyD)) (H4 : Hp), H4 f = some (.lst [.ref q, .int ((c + 1 : Nat) : Int), .int d, .int k]) → H4 q = some (.lst (ns.map V.int)) → Δ[0]? = some (some (.r (.ref f))) → EvD M0 K (tCB (bLen K) (tCons (tOp (rIxL K) (tVar 0) (tC (.int 0))) tNil)) Δ H4 (.i (ns.length : Int)) := fun Δ H4 h4 hq4 hv => by
    have := ed_cb (M := M0) (K := K) (H := H4) (Δ := Δ) (ea_cons (w_fi (i := 0) (d := .r (.ref q)) hv h4 rfl) ea_nil) (rc_lenL fun H5 r5 => r5.ex _ _ hq4)
    rw [List.length_map] at this
    exact this
  have tst := et_and (M := M0) (K := K) (H := H3) (Δ := [some (.r (.ref f)), some (.i m), none, none, none]) (et_test (w_eqI (w_fi (f := f) (i := 2) (d := .i d) rfl hf3 rfl) (ed_int (z := 0)))) fun _ => et_test (w_lt (w_fi (f := f) (i := 3) (d := .i k) rfl hf3 rfl) (lenq _ _ hf3 hq3 rfl))
  refine tst σ3 H3 0 (Rf.refl _) e3 trivial (by decide) _ fun b H4 c4 pb r4 _ _ => ?_
  subst pb
  have hf4 := r4.ex _ _ hf3
  have hq4 := r4.ex _ _ hq3
  have e4 := e3.tp r4.tup
  have r04 : Rf (· = f) H H4 := r3.trans r4.ex.rf
  by_cases hb : d = 0 ∧ k < (ns.length : Int)
  · rw [decide_eq_true hb.1, decide_eq_true hb.2]
    refine iteT ⟨fun σ' H' => ∃ d' : Int, 0 ≤ d' ∧ H' f = some (.lst [.ref q, .int ((c + 1 : Nat) : Int), .int d', .int (k + 1)]) ∧ Rf (· = f) H H' ∧ EnvD K σ' H' [some (.r (.ref f)), some (.i m), none, none, none], fun σ' H' ⟨d', h1, h2, h3, h4⟩ => ⟨ns.length - (k + 1).toNat, by omega, d', k + 1, h1, by omega, h2, h3, h4, rfl⟩, ?_⟩
    obtain ⟨z, hz⟩ : ∃ z, ns[k.toNat]? = some z := ⟨ns[k.toNat]'(by omega), List.getElem?_eq_getElem (by omega)⟩
    have ek : k = (k.toNat : Int) := by omega
    refine sq (s_asg0 (P := (· = .i (z.natAbs : Int))) (w_abs (ed_op (w_fi (f := f) (i := 0) (d := .r (.ref q)) rfl hf4 rfl) (w_fi (f := f) (i := 3) (d := .i k) rfl hf4 rfl) (rop_ixL hq4 (fun z => z) (ints_dts ns) (by rw [ek]; exact atI_map hz)))) e4 fun σ5 H5 d5 p5 x5 e5 => ?_)
    subst p5
    dsimp only
    have hf5 := x5 _ _ hf4
    have e10 : ((10 : Int) ^ (18 : Int).toNat) = 1000000000000000000 := by decide
    refine sq (s_setF (f := f) (i := 2) (z := (z.natAbs : Int) * (if decide ((10 : Int) ^ (18 : Int).toNat ≤ (z.natAbs : Int)) = true then 1 else 0)) rfl hf5 (Nat.le_of_ble_eq_true rfl) (w_mul (ed_var rfl) (w_intB (w_ge (ed_var rfl) (w_pow ed_int ed_int ⟨by decide, by decide, by decide⟩))) (mul64r (by split <;> decide) (by split <;> decide))) e5 fun H6 x6 hf6 e6 => ?_)
    have t6 : 0 ≤ (z.natAbs : Int) * (if decide ((10 : Int) ^ (18 : Int).toNat ≤ (z.natAbs : Int)) = true then 1 else 0) := Int.mul_nonneg (by omega) (by split <;> decide)
    generalize (z.natAbs : Int) * (if decide ((10 : Int) ^ (18 : Int).toNat ≤ (z.natAbs : Int)) = true then 1 else 0) = d' at e6 t6 ⊢
    have r6 : Rf (· = f) H (upd H6 f (.lst [.ref q, .int ((c + 1 : Nat) : Int), .int d', .int k])) := ⟨fun a o ha h => by
      rw [upd_ne ha]
      exact x6 _ _ (x5 _ _ (r04.keep _ _ ha h)), ((r04.tup.trans x5.tp).trans x6.tp).trans (Tp.updL hf6)⟩
    have e6 : EnvD K _ (upd H6 f (.lst [.ref q, .int ((c + 1 : Nat) : Int), .int d', .int k])) _ := e6
    have hf7 : upd H6 f (.lst [.ref q, .int ((c + 1 : Nat) : Int), .int d', .int k]) f = some (.lst [.ref q, .int ((c + 1 : Nat) : Int), .int d', .int k]) := upd_same
    dsimp only
    show tAsg _ _ _ _ (upd H6 f (.lst [.ref q, .int ((c + 1 : Nat) : Int), .int d', .int k]))
    generalize upd H6 f (.lst [.ref q, .int ((c + 1 : Nat) : Int), .int d', .int k]) = H7 at r6 e6 hf7 ⊢
    refine s_setF (f := f) (i := 3) (z := k + 1) rfl hf7 (Nat.le_of_ble_eq_true rfl) (w_add (w_fi rfl hf7 rfl) ed_int) e6 fun H8 x8 hf8 e8 => ⟨d', t6, upd_same, ⟨fun a o ha h => ?_, (r6.tup.trans x8.tp).trans (Tp.updL hf8)⟩, e8.drop 2⟩
    rw [upd_ne ha]
    exact x8 _ _ (r6.keep _ _ ha h)
  · have hb2 : (decide (d = 0) && decide (k < (ns.length : Int))) = false := by
      rw [Bool.and_eq_false_iff]
      by_cases c1 : d = 0
      · exact .inr (decide_eq_false fun c2 => hb ⟨c1, c2⟩)
      · exact .inl (decide_eq_false c1)
    rw [hb2]
    refine iteF ?_
    dsimp only
    have cm : ∀ i : Int, CDiv i m := fun i => ⟨m0, by omega⟩
    refine sq (s_if0 (k := decide (0 < d)) (et_test (w_gt (w_fi (f := f) (i := 2) (d := .i d) rfl hf4 rfl) ed_int)) e4 (fun hk H5 x5 e5 => ?_) fun hk H5 x5 e5 => ?_)
    · have hf5 := x5 _ _ hf4
      refine sq (s_asg0 (P := (· = .i (d % m))) (w_mod (w_fi (f := f) (i := 2) (d := .i d) rfl hf5 rfl) (ed_var rfl) m0) e5 fun σ6 H6 d6 p6 x6 e6 => ?_)
      subst p6
      dsimp only
      have hf6 := x6 _ _ hf5
      refine sq (s_setF (f := f) (i := 2) (z := d / m) rfl hf6 (Nat.le_of_ble_eq_true rfl) (w_div (w_fi (f := f) (i := 2) (d := .i d) rfl hf6 rfl) (ed_var rfl) (cm _)) e6 fun H7 x7 hf7 e7 => ?_)
      dsimp only
      refine s_ret0 (P := (· = .i (d % m))) (ed_var rfl) e7 fun v H8 d8 p8 x8 hv => ?_
      subst p8
      refine fin v (d % m) (d / m) k (c + 1) H8 (Int.emod_nonneg _ (by omega)) (Int.emod_lt_of_pos _ m0) (Nat.le_refl _) ⟨fun a o ha h => x8 _ _ ?_, (((r04.tup.trans x5.tp).trans x6.tp).trans x7.tp).trans ((Tp.updL hf7).trans x8.tp)⟩ (x8 _ _ upd_same) (Int.ediv_nonneg hd3 (by omega)) hk3 hv
      rw [upd_ne ha]
      exact x7 _ _ (x6 _ _ (x5 _ _ (r04.keep _ _ ha h)))
    · dsimp only [tNext]
      have hf5 := x5 _ _ hf4
      have hq5 := x5 _ _ hq4
      have cell : Ev M0 K (tIf (tTest (tOp (rNeD K) (tOp (rIxL K) (tVar 0) (tC (.int 0))) (tLst tNil))) (tOp (rIxL K) (tOp (rIxL K) (tVar 0) (tC (.int 0))) (tOp oMod (tOp (rIxL K) (tVar 0) (tC (.int 1))) (tCB (bLen K) (tCons (tOp (rIxL K) (tVar 0) (tC (.int 0))) tNil)))) (tC (.int 5))) [some (.r (.ref f)), some (.i m), none, none, none] H5 0 (fun d => ∃ z, d = .i z) := by
        refine ev_if (et_test (w_neNilZ (w_fi (f := f) (i := 0) (d := .r (.ref q)) rfl hf5 rfl) hq5)) (fun hne => ?_) fun _ => ed_int.imp fun d e => ⟨5, e⟩
        have hn : 0 < ns.length := by
          cases ns with
          | nil => cases hne
          | cons a r => exact Nat.succ_pos _
        obtain ⟨z, hz⟩ : ∃ z, ns[(((c + 1 : Nat) : Int) % (ns.length : Int)).toNat]? = some z := ⟨ns[(((c + 1 : Nat) : Int) % (ns.length : Int)).toNat]'(by
          have h1 := Int.emod_nonneg ((c + 1 : Nat) : Int) (show (ns.length : Int) ≠ 0 by omega)
          have h2 := Int.emod_lt_of_pos ((c + 1 : Nat) : Int) (show 0 < (ns.length : Int) by omega)
          omega), List.getElem?_eq_getElem _⟩
        have ek : (((c + 1 : Nat) : Int) % (ns.length : Int)) = ((((c + 1 : Nat) : Int) % (ns.length : Int)).toNat : Int) := by
          have h1 := Int.emod_nonneg ((c + 1 : Nat) : Int) (show (ns.length : Int) ≠ 0 by omega)
          omega
        refine (ed_op (w_fi (f := f) (i := 0) (d := .r (.ref q)) rfl hf5 rfl) (w_mod (w_fi (f := f) (i := 1) (d := .i ((c + 1 : Nat) : Int)) rfl hf5 rfl) (lenq _ _ hf5 hq5 rfl) (by omega)) (rop_ixL hq5 (fun z => z) (ints_dts ns) (d := .i z) ?_)).imp fun d e => ⟨z, e⟩
        rw [ek]
        exact atI_map hz
      refine sq (s_asg0 cell e5 fun σ6 H6 d6 ⟨z, p6⟩ x6 e6 => ?_)
      subst p6
      have hf6 := x6 _ _ hf5
      dsimp only
      have cc : (((c + 1 : Nat) : Int)) ≤ 100000 := by omega
      have cc0 : 0 ≤ (((c + 1 : Nat) : Int)) := by omega
      generalize hC : (((c + 1 : Nat) : Int)) = C at cc cc0 hf6
      have z1 := Int.emod_nonneg z (show (1000003 : Int) ≠ 0 by decide)
      have z2 := Int.emod_lt_of_pos z (show (0 : Int) < 1000003 by decide)
      have z3 : 613 * C * (C + 7) ≤ 61300000 * 100007 := Int.mul_le_mul (by omega) (by omega) (by omega) (by omega)
      have z4 : 0 ≤ 613 * C * (C + 7) := Int.mul_nonneg (by omega) (by omega)
      refine sq (s_asg0 (P := (· = .i ((z % 1000003 + 613 * C * (C + 7) + 17) ^ (5 : Int).toNat % 2147483647))) (w_mod (w_pow (w_add (w_add (w_mod (ed_var rfl) ed_int (by decide)) (w_mul (w_mul ed_int (w_fi (f := f) (i := 1) (d := .i C) rfl hf6 rfl) (mul64l (by decide) (by decide))) (w_add (w_fi (f := f) (i := 1) (d := .i C) rfl hf6 rfl) ed_int) (.inr ⟨by omega, by omega⟩))) ed_int) ed_int ⟨by decide, by decide, by omega⟩) ed_int (by decide)) e6 fun σ7 H7 d7 p7 x7 e7 => ?_)
      have y1 := Int.emod_nonneg ((z % 1000003 + 613 * C * (C + 7) + 17) ^ (5 : Int).toNat) (show (2147483647 : Int) ≠ 0 by decide)
      have y2 := Int.emod_lt_of_pos ((z % 1000003 + 613 * C * (C + 7) + 17) ^ (5 : Int).toNat) (show (0 : Int) < 2147483647 by decide)
      generalize (z % 1000003 + 613 * C * (C + 7) + 17) ^ (5 : Int).toNat % 2147483647 = Y at p7 y1 y2
      subst p7
      have hf7 := x7 _ _ hf6
      dsimp only
      refine s_ret0 (P := (· = .i ((Y + 4099 * C) ^ (5 : Int).toNat % 2147483587 / 7 % m))) (w_mod (w_div (w_mod (w_pow (w_add (ed_var rfl) (w_mul ed_int (w_fi (f := f) (i := 1) (d := .i C) rfl hf7 rfl) (.inl ⟨by decide, by decide⟩))) ed_int ⟨by decide, by decide, by omega⟩) ed_int (by decide)) ed_int ⟨by decide, by decide⟩) (ed_var rfl) m0) e7 fun v H8 d8 p8 x8 hv => ?_
      subst p8
      refine fin v _ d k (c + 1) H8 (Int.emod_nonneg _ (by omega)) (Int.emod_lt_of_pos _ m0) (Nat.le_refl _) ⟨fun a o ha h => x8 _ _ (x7 _ _ (x6 _ _ (x5 _ _ (r04.keep _ _ ha h)))), (((r04.tup.trans x5.tp).trans x6.tp).trans x7.tp).trans x8.tp⟩ ?_ hd3 hk3 hv
      have := x8 _ _ hf7
      rw [← hC] at this
      exact this
theorem len_law_frac (h : sp_law_frac K vs H Q E) : vs.length = 2 := by
  obtain ⟨_, _, _, _, _, _, hd, _⟩ := h
  exact hd.length
theorem rd_law_frac (kx : Kx K) (h : sp_law_frac K vs H Q E) : t_law_frac K { nx := fun _ H' => Q .non H', rt := Q } (start N_law_frac vs) H := by
  obtain ⟨a, b, z, h0, h1, hz, hd, qq⟩ := h
  have e := EnvD.st (N := N_law_frac) hd
  obtain ⟨q1, q2⟩ := ratio_eq h0 hz
  refine sq (s_asgT0 (is := [0, 1]) (ds := [.i a, .i b]) (ev_if ((et_test (w_gt (ed_var rfl) ed_int)).is (b := true) (decide_eq_true h0)) (fun _ => ed_tup (ea_cons (ed_var rfl) (ea_cons (ed_var rfl) ea_nil))) fun z => by cases z) rfl e fun σ1 H1 x1 e1 => ?_)
  dsimp only
  refine sq (s_par (M := M0) (c := 0) (n := 0) (PA := (· = [.i (a.natAbs : Int), .i b])) (ea_cons (w_abs (ed_var rfl)) (ea_cons (ed_var rfl) ea_nil)) (fun ds p => ⟨_, _, p⟩) e1 trivial (by decide) fun σ2 H2 d e c' p r2 e2 _ _ => ?_)
  have p : [d, e] = [.i (a.natAbs : Int), .i b] := p
  cases p
  dsimp only
  refine sq ⟨fun m σ H' => Exh H H' ∧ ∃ x y : Int, 0 ≤ x ∧ 0 ≤ y ∧ Nat.gcd x.toNat y.toNat = Nat.gcd a.natAbs b.natAbs ∧ m = y.toNat ∧ EnvD K σ H' [some (.i a), some (.i b), some (.i x), some (.i y)], ⟨b.toNat, x1.trans r2.ex, (a.natAbs : Int), b, by omega, by omega, by rw [Int.toNat_natCast]; congr 1; omega, rfl, e2⟩, ?_⟩
  rintro m σ H' ⟨x0, x, y, hx, hy, hg, rfl, e'⟩
  have ht : EtD M0 K (tTest (tOp oGt (tVar 3) (tC (.int 0)))) [some (.i a), some (.i b), some (.i x), some (.i y)] H' (decide (0 < y)) := et_test (w_gt (ed_var rfl) ed_int)
  refine ht σ H' 0 (Rf.refl _) e' trivial (by decide) _ fun b' H2 c2 p2 r2 _ _ => ?_
  subst p2
  by_cases c : 0 < y
  · rw [decide_eq_true c]
    refine iteT ⟨fun σ' H3 => Exh H H3 ∧ EnvD K σ' H3 [some (.i a), some (.i b), some (.i y), some (.i (x % y))], fun σ' H3 ⟨x3, e3⟩ => ⟨(x % y).toNat, ?_, x3, y, x % y, hy, Int.emod_nonneg _ (by omega), (gcd_turn hx c).trans hg, rfl, e3⟩, ?_⟩
    · have := Int.emod_lt_of_pos x c
      have := Int.emod_nonneg x (show y ≠ 0 by omega)
      omega
    · refine s_par (M := M0) (c := 0) (n := 0) (PA := (· = [.i y, .i (x % y)])) (ea_cons (ed_var rfl) (ea_cons (w_mod (ed_var rfl) (ed_var rfl) c) ea_nil)) (fun ds p => ⟨_, _, p⟩) (e'.tp r2.tup) trivial (by decide) fun σ' H3 d e c' p r3 e3 _ _ => ⟨(x0.trans r2.ex).trans r3.ex, ?_⟩
      have p : [d, e] = [.i y, .i (x % y)] := p
      cases p
      exact e3
  · rw [decide_eq_false c]
    refine iteF ?_
    have y0 : y = 0 := by omega
    subst y0
    have gp : 0 < Nat.gcd a.natAbs b.natAbs := Nat.gcd_pos_of_pos_right _ (by omega)
    have gl : Nat.gcd a.natAbs b.natAbs ≤ b.natAbs := Nat.gcd_le_right _ (by omega)
    have hg : Nat.gcd x.toNat 0 = Nat.gcd a.natAbs b.natAbs := hg
    rw [Nat.gcd_zero_right] at hg
    have ex : x = ((Nat.gcd a.natAbs b.natAbs : Nat) : Int) := by omega
    have cd : ∀ i : Int, CDiv i x := fun i => ⟨by omega, by omega⟩
    dsimp only
    refine s_ret0 (P := (· = fr z)) ((ed_tup (ea_cons (w_div (ed_var rfl) (ed_var rfl) (cd _)) (ea_cons (w_div (ed_var rfl) (ed_var rfl) (cd _)) ea_nil))).is ?_) (e'.tp r2.tup) (qq.le (x0.trans r2.ex))
    rw [ex, q1, q2]
    rfl
end
end K27
/-! The readings keep the promises: fields that are drawn. -/
namespace K27
open PySem PySem.Spec PyProof.Rows L2 KM
section
variable {M : Md} {K : PySem.W.Frag} {vs : List V} {H H' H0 HB : Hp} {Q : VK} {E : XK} {n : Nat} {st : Steps} {Δ : List (Option PyD)} {te td ty tx tv tb tw ta tf tm : TE} {σ : L2.St} {D : Ends} {d e : PyD} {f q : Addr} {ns : List Int}
theorem cutV_drop {xs : List V} {k : Nat} (h : k ≤ xs.length) : cutV xs (some (k : Int)) none = xs.drop k := by
  unfold cutV
  rw [HT.sIx_nat, HT.sIx_none, Nat.min_eq_left h]
  exact List.take_of_length_le (by rw [List.length_drop]; exact Nat.le_refl _)
theorem Dts.drop : ∀ {vs : List V} {ds : List PyD} (k : Nat), Dts K H vs ds → Dts K H (vs.drop k) (ds.drop k)
  | _, _, 0, h => h
  | [], [], k + 1, _ => .nil
  | [], _ :: _, k + 1, h => by cases h
  | _ :: _, [], k + 1, h => by cases h
  | v :: vs, d :: ds, k + 1, h => by
    cases h with
    | cons _ hs => exact Dts.drop k hs
/-- t[k:] -/
theorem w_slT {ds : List PyD} {k : Nat} (h : EvD M K te Δ H (.t ds)) (h0 : 0 < k) (h1 : k ≤ ds.length) : EvD M K (tSl (rSlT K) te (tPart (tC (.int (k : Int)))) tNoPart) Δ H (.t (ds.drop k)) := fun σ H1 c r1 e1 s1 hc Q q => by
  refine h σ H1 c r1 e1 s1 hc _ fun x H2 d c2 p2 r2 s2 hc2 hx => ?_
  subst p2
  obtain ⟨a, vs, rfl, hs, hd⟩ := hx.tup
  have hl := hd.length
  refine ⟨(k : Int), rfl, a, vs, rfl, hs, fun ⟨z, _⟩ => ?_, fun p hp => ?_⟩
  · rw [HT.sIx_nat] at z
    omega
  · rw [cutV_drop (by omega)]
    have x3 := Exh.new (o := .tup (vs.drop k)) hp
    exact q _ _ _ c2 rfl (r2.trans x3.rf) (M.mono _ _ _ x3 s2) hc2 (.t (SqT.of upd_same) ((hd.drop k).mono x3.tp))
/-- tuple(xs), xs a list that stands -/
theorem w_tupV {l : Addr} {us : List V} {ds : List PyD} (ho : EvD M K te Δ H (.r (.ref l))) (nf : ¬ M.F l) (hl : H l = some (.lst us)) (hd : Dts K H us ds) : EvD M K (tCB (bTuple K) (tCons te tNil)) Δ H (.t ds) := fun σ H1 c r1 e1 s1 hc Q q => by
  refine ho σ H1 c r1 e1 s1 (by omega) _ fun x H2 d c2 p2 r2 s2 hc2 hx => ?_
  subst p2
  cases hx.raw
  have h2 := (r1.trans r2).keep _ _ nf hl
  refine ⟨l, us, rfl, .inl ⟨SqL.of h2, fun p hp => ?_⟩⟩
  have x3 := Exh.new (o := .tup us) hp
  exact q _ _ (.t ds) c2 rfl (r2.trans x3.rf) (M.mono _ _ _ x3 s2) hc2 (.t (SqT.of upd_same) ((hd.mono (r1.trans r2).tup).mono x3.tp))
theorem Bld.tup {l : Addr} {ds : List PyD} (b : Bld M K H0 H l ds) (ho : EvD M K te Δ H (.r (.ref l))) : EvD M K (tCB (bTuple K) (tCons te tNil)) Δ H (.t ds) := by
  obtain ⟨us, h1, h2⟩ := b.at_
  exact w_tupV ho b.nf h1 h2
theorem Bld.len {l : Addr} {ds : List PyD} (b : Bld M K H0 H l ds) (ho : EvD M K te Δ H (.r (.ref l))) : EvD M K (tCB (bLen K) (tCons te tNil)) Δ H (.i (ds.length : Int)) := by
  obtain ⟨us, h1, h2⟩ := b.at_
  have := ed_cb (M := M) (K := K) (H := H) (Δ := Δ) (ea_cons ho ea_nil) (rc_lenL fun H5 r5 => r5.keep _ _ b.nf h1)
  rw [h2.length] at this
  exact this
theorem Bld.ix {l : Addr} {ds : List PyD} {n : Nat} {P2 P : PyD → Prop} {tj : TE} (b : Bld M K H0 H l ds) (ho : EvD M K te Δ H (.r (.ref l))) (hj : Ev M K tj Δ H n P2) (hx : ∀ e, P2 e → ∃ i d, e = .i i ∧ atI ds i = some d ∧ P d) : Ev M K (tOp (rIxL K) te tj) Δ H n P := by
  obtain ⟨us, h1, h2⟩ := b.at_
  refine (ev_op (n := 0) (m := n) ho hj fun d e pd pe => ?_).imp (m := n) (fun d p => p) (by omega)
  subst pd
  obtain ⟨i, d, rfl, ha, pd⟩ := hx e pe
  exact fun x y H1 Q r hx hy q => rop_ixL (M := M) h1 b.nf h2 ha x y H1 Q r hx hy fun v H2 u pu => q v H2 u (by rw [pu]; exact pd)
theorem len_law_rates (h : sp_law_rates K vs H Q E) : vs.length = 2 := by
  obtain ⟨_, _, _, _, _, _, _, hd, _⟩ := h
  exact hd.length
def pickF (nm : PySem.Str) : PyD → Option PyD
  | .t [.s x, a, b] => if x = nm then some (.t [a, b]) else none
  | _ => none
theorem pick_hd : ∀ {hs : List (House PySem.Str)} {x : House PySem.Str}, (hs.map (·.name)).Nodup → x ∈ hs → ((hs.map dHouse).filterMap (pickF x.name))[0]? = some (.t [fr x.slow, fr x.fast])
  | [], x, _, h => by cases h
  | q :: hs, x, nd, h => by
    rw [List.map_cons] at nd
    obtain ⟨n1, n2⟩ := List.nodup_cons.mp nd
    rw [List.map_cons, List.filterMap_cons]
    have ep : pickF x.name (dHouse q) = if q.name = x.name then some (PyD.t [fr q.slow, fr q.fast]) else none := rfl
    rw [ep]
    rcases List.mem_cons.mp h with e | h
    · subst e
      rw [if_pos rfl]
      rfl
    · rw [if_neg (fun z : q.name = x.name => n1 (by rw [z]; exact List.mem_map_of_mem h))]
      exact pick_hd n2 h
theorem rd_law_rates (kx : Kx K) (h : sp_law_rates K vs H Q E) : t_law_rates K { nx := fun _ H' => Q .non H', rt := Q } (start N_law_rates vs) H := by
  obtain ⟨f, hs, qq, r, w, hm, wh, hd, q⟩ := h
  have el : ElD M0 K (tLc (iTup K (tOp (rIxT K) (tVar 0) (tC (.int 0)))) (gName 4) (tTest (tOp rEq (tOp (rIxT K) (tVar 4) (tC (.int 0))) (tVar 1))) (tSl (rSlT K) (tVar 4) (tPart (tC (.int 1))) tNoPart) [4]) ([dFld f, .s hs.name].map some ++ List.replicate (N_law_rates.length - [dFld f, .s hs.name].length) none) H ((f.homes.map dHouse).filterMap (pickF hs.name)) := by
    refine el_lcF (it_tupD (ds := f.homes.map dHouse) (w_ix (ed_var (d := dFld f) rfl) rfl)) (fun _ _ _ r => r.tup) (by rw [List.length_map]; exact Nat.le_trans w.len (by decide)) fun d hd => ?_
    obtain ⟨x, _, rfl⟩ := List.mem_map.mp hd
    refine ⟨decide (x.name = hs.name), _, tg_name (by decide), et_test (w_eqS (w_ix (ed_var rfl) rfl) (ed_var rfl)), fun hb => if_neg (of_decide_eq_false hb), fun hb => ⟨_, if_pos (of_decide_eq_true hb), ?_⟩⟩
    exact w_slT (k := 1) (ds := [.s x.name, fr x.slow, fr x.fast]) (ed_var rfl) (by decide) (Nat.le_of_ble_eq_true rfl)
  refine sq (s_asgT0 (is := [2, 3]) (ds := [fr hs.slow, fr hs.fast]) (ev_lstIx (n := 0) (m := 0) el ed_int fun ds e p1 p2 => ⟨0, .t [fr hs.slow, fr hs.fast], p2, by rw [p1]; exact atI_nat (k := 0) (pick_hd w.nd hm), rfl⟩) rfl (EnvD.st hd) fun σ1 H1 x1 e1 => ?_)
  dsimp only
  refine s_ret0 (P := (· = .t [.i qq, .i r])) ((ed_tup (ea_cons (w_div (w_mul (w_ix (ed_var rfl) rfl) ed_int (mul64r (by decide) (by decide))) (w_ix (ed_var rfl) rfl) (fdd _)) (ea_cons (w_div (w_mul (w_ix (ed_var rfl) rfl) ed_int (mul64r (by decide) (by decide))) (w_ix (ed_var rfl) rfl) (fdd _)) ea_nil))).is ?_) e1 (q.le x1)
  rw [quarter wh.sl, quarter wh.fa]
theorem len_law_open (h : sp_law_open K vs H Q E) : vs.length = 4 := by
  obtain ⟨_, _, _, _, _, _, _, _, _, _, hd, _⟩ := h
  exact hd.length
theorem rd_law_open (kx : Kx K) (h : sp_law_open K vs H Q E) : t_law_open K { nx := fun _ H' => Q .non H', rt := Q } (start N_law_open vs) H := by
  obtain ⟨f, sends, l, us, nm, now, hb, hsl, hl, hus, hd, q⟩ := h
  refine sq (s_asgB (M := M0) (c := 0) (el_lst ea_nil) (EnvD.st hd) trivial (by decide) fun σ1 H1 p c1 b1 e1 _ _ => ?_)
  dsimp only
  have x1 := b1.ex
  refine sq (s_for (M := M0) (c := 0) (it_list (a := l) (vs := us) (ds := sends.map dSend) (ed_var (i := 1) rfl) fun H2 r2 => ⟨r2.ex _ _ (x1 _ _ hl), hus.mono (x1.trans r2.ex).tp⟩) e1 trivial (by decide) fun H2 ds c' pd r2 e2 _ _ => ?_)
  subst pd
  refine ⟨fun i σ' H' => EnvD K σ' H' [some (dFld f), some (.r (.ref l)), some (.s nm), some (.i now), some (.r (.ref p)), none, none, none, none, none] ∧ Tp H2 H' ∧ ∃ ks : List Nat, Bld M0 K H H' p (ks.map dInt) ∧ ks.length ≤ i ∧ ∀ k ∈ ks, OkDeed f sends now (.hear k), ⟨e2, Tp.refl _, [], b1.on r2, Nat.le_refl _, fun k hk => by cases hk⟩, fun i σ' H' ⟨_, t, ks, b, _⟩ => ⟨t, b.ex _ _ hl⟩, ?_, ?_⟩
  · rintro i d σ' H' H3 v hdi ⟨e', t', ks, b', hk', hok⟩ x3 hv
    rw [List.getElem?_map] at hdi
    cases hs : sends[i]? with
    | none =>
      rw [hs] at hdi
      cases hdi
    | some s =>
      rw [hs] at hdi
      cases hdi
      have hi := (List.getElem?_eq_some_iff.mp hs).1
      obtain ⟨k, lk, z⟩ := s
      have hlk : lk < f.links.length := hb _ (List.mem_of_getElem? hs)
      obtain ⟨L, hL⟩ : ∃ L, f.links[lk]? = some L := ⟨f.links[lk], List.getElem?_eq_getElem hlk⟩
      refine gTup_ok (is := [5, 6, 7]) (ds := [dInt k, dInt lk, .i z]) hv rfl (e'.tp x3.tp) fun σ4 e4 => ?_
      have lnk : ∀ (Δ : List (Option PyD)) (H4 : Hp), Δ[0]? = some (some (dFld f)) → Δ[6]? = some (some (dInt lk)) → EvD M0 K (tOp (rIxT K) (tOp (rIxT K) (tVar 0) (tC (.int 1))) (tVar 6)) Δ H4 (dLnk L) := fun Δ H4 h0 h6 => w_ixv (w_ix (i := 1) (d := .t (f.links.map dLnk)) (ed_var h0) rfl) (ed_var h6) (atI_map (f := dLnk) hL)
      refine sq (s_asgT0 (is := [8, 9]) (ds := [fr L.least, dOpt L.most]) (w_slT (k := 2) (ds := [.s L.src, .s L.dst, fr L.least, dOpt L.most]) (lnk _ _ rfl rfl) (by decide) (Nat.le_of_ble_eq_true rfl)) rfl e4 fun σ5 H5 x5 e5 => ?_)
      dsimp only
      have b5 := (b'.onX x3).onX x5
      have t5 := (t'.trans x3.tp).trans x5.tp
      have skip : ∀ H6 σ6, Exh H5 H6 → EnvD K σ6 H6 (setN (setN [some (dFld f), some (.r (.ref l)), some (.s nm), some (.i now), some (.r (.ref p)), none, none, none, none, none] [5, 6, 7] [dInt k, dInt lk, .i z]) [8, 9] [fr L.least, dOpt L.most]) → EnvD K σ6 H6 [some (dFld f), some (.r (.ref l)), some (.s nm), some (.i now), some (.r (.ref p)), none, none, none, none, none] ∧ Tp H2 H6 ∧ ∃ ks : List Nat, Bld M0 K H H6 p (ks.map dInt) ∧ ks.length ≤ i + 1 ∧ ∀ k ∈ ks, OkDeed f sends now (.hear k) := fun H6 σ6 x6 e6 =>
        ⟨((((e6.drop 5).drop 6).drop 7).drop 8).drop 9, t5.trans x6.tp, ks, b5.onX x6, by omega, hok⟩
      refine s_if0 (et_and (et_test (w_eqS (w_ix (lnk _ _ rfl rfl) rfl) (ed_var rfl))) fun _ => et_test (w_ge (w_mul (w_sub (ed_var (d := .i now) rfl) (ed_var (d := .i z) rfl)) (w_ix (ed_var (d := fr L.least) rfl) rfl) (fdm _ _)) (w_ix (ed_var (d := fr L.least) rfl) rfl))) e5 (fun hc H6 x6 e6 => ?_) fun hc H6 x6 e6 => skip H6 _ x6 e6
      rw [Bool.and_eq_true] at hc
      have h1 := (open_ge (now - z) L.least).mp (of_decide_eq_true hc.2)
      have app : ∀ H7, Exh H5 H7 → (∀ m, L.most = some m → 120 * (now - z) ≤ m) → EnvD K σ5 H7 (setN (setN [some (dFld f), some (.r (.ref l)), some (.s nm), some (.i now), some (.r (.ref p)), none, none, none, none, none] [5, 6, 7] [dInt k, dInt lk, .i z]) [8, 9] [fr L.least, dOpt L.most]) → tDrop (tBM K "list" rAppend (tVar 4) (tCons (tVar 5) tNil)) { nx := fun σ' H' => EnvD K σ' H' [some (dFld f), some (.r (.ref l)), some (.s nm), some (.i now), some (.r (.ref p)), none, none, none, none, none] ∧ Tp H2 H' ∧ ∃ ks : List Nat, Bld M0 K H H' p (ks.map dInt) ∧ ks.length ≤ i + 1 ∧ ∀ k ∈ ks, OkDeed f sends now (.hear k), rt := Q } σ5 H7 := fun H7 x7 hmo e7 => by
        refine s_appB (M := M0) (c := 0) (n := 0) (P := (· = dInt k)) (b5.onX x7) (ed_var rfl) (ed_var rfl) ?_ e7 trivial (by decide) fun H8 H9 d v c' pd r8 hv hex b9 e9 _ _ => ⟨((((e9.drop 5).drop 6).drop 7).drop 8).drop 9, ?_, ks ++ [k], ?_, ?_, ?_⟩
        · rw [List.length_map]
          omega
        · obtain ⟨ws, hw, rfl⟩ := hex
          exact ((t5.trans x7.tp).trans r8.tup).trans (Tp.updL hw)
        · rw [List.map_append]
          rw [pd] at b9
          exact b9
        · rw [List.length_append, List.length_singleton]
          omega
        · intro j hj
          rcases List.mem_append.mp hj with hj | hj
          · exact hok j hj
          · rw [List.mem_singleton.mp hj]
            exact ⟨lk, z, L, List.mem_of_getElem? hs, hL, h1, hmo⟩
      cases hmo : L.most with
      | none =>
        rw [hmo] at e6
        refine s_if0 (k := true) ((et_or (a := true) (b := true) (et_test (w_isT (ed_var rfl))) fun z => by cases z).is rfl) e6 (fun _ H7 x7 e7 => ?_) fun z => by cases z
        exact app H7 (x6.trans x7) (fun m hm => by rw [hmo] at hm; cases hm) (by rw [hmo]; exact e7)
      | some m =>
        rw [hmo] at e6
        refine s_if0 (et_or (a := false) (et_test (w_isF (ds := [.i (fn m), .i (fd m)]) (ed_var rfl))) fun _ => et_test (w_le (w_mul (w_sub (ed_var (d := .i now) rfl) (ed_var (d := .i z) rfl)) (w_ix (ed_var (d := fr m) rfl) rfl) (fdm _ _)) (w_ix (ed_var (d := fr m) rfl) rfl))) e6 (fun hc2 H7 x7 e7 => ?_) fun hc2 H7 x7 e7 => skip H7 _ (x6.trans x7) (by rw [hmo]; exact e7)
        rw [Bool.false_or] at hc2
        exact app H7 (x6.trans x7) (fun m' hm => by
          rw [hmo] at hm
          cases hm
          exact (open_le (now - z) m).mp (of_decide_eq_true hc2)) (by rw [hmo]; exact e7)
  · rintro σ' H' ⟨e', _, ks, b', hkl, hok⟩
    rw [List.length_map] at hkl
    dsimp only
    exact s_retB (PA := fun ds => ∃ ks : List Nat, ds = ks.map dInt ∧ ks.length ≤ sends.length ∧ ∀ k ∈ ks, OkDeed f sends now (.hear k)) b' rfl e' ⟨ks, rfl, hkl, hok⟩ q rfl
end
end K27
/-! The readings keep the promises: fields that are drawn, on. -/
namespace K27
open PySem PySem.Spec PyProof.Rows L2 KM
theorem map_eraseIdx {α β : Type} (g : α → β) : ∀ (l : List α) (k : Nat), (l.map g).eraseIdx k = (l.eraseIdx k).map g
  | [], _ => rfl
  | a :: l, 0 => rfl
  | a :: l, k + 1 => by
    show g a :: (l.map g).eraseIdx k = g a :: (l.eraseIdx k).map g
    rw [map_eraseIdx g l k]
theorem nd_eraseIdx {α : Type} {l : List α} {k : Nat} {x : α} (nd : l.Nodup) (h : l[k]? = some x) : x ∉ l.eraseIdx k := fun z => by
  obtain ⟨i, hi, e⟩ := List.mem_eraseIdx_iff_getElem?.mp z
  exact hi (nd_ix nd e h)
theorem range_ne {n : Nat} {i : Nat} {d : PyD} (h : ((List.range n).map fun k : Nat => PyD.i (k : Int))[i]? = some d) : i < n ∧ d = .i (i : Int) := by
  have hi := (List.getElem?_eq_some_iff.mp h).1
  rw [List.length_map, List.length_range] at hi
  rw [List.getElem?_map, List.getElem?_range hi] at h
  cases h
  exact ⟨hi, rfl⟩
section
variable {M : Md} {K : PySem.W.Frag} {vs : List V} {H H' H0 HB : Hp} {Q : VK} {E : XK} {n : Nat} {st : Steps} {Δ : List (Option PyD)} {te td ty tx tv tb tw ta tf tm : TE} {σ : L2.St} {D : Ends} {d e : PyD} {f q : Addr} {ns : List Int} {c : Nat}
theorem strs_dts : ∀ ns : List PySem.Str, Dts K H (ns.map V.str) (ns.map PyD.s)
  | [] => .nil
  | n :: ns => .cons (.s _) (strs_dts ns)
/-- a draw below m -/
theorem ev_draw {m : Int} (hf : EvD (MF f q ns) K tf Δ H (.r (.ref f))) (hm : EvD (MF f q ns) K tm Δ H (.i m)) (h0 : 0 < m) (h1 : m ≤ 1000) : Ev (MF f q ns) K (tCall (sp_law_draw K) [] E0 (tCons tf (tCons tm tNil))) Δ H 1 (fun d => ∃ k, d = .i k ∧ 0 ≤ k ∧ k < m) := fun σ H1 c r1 e1 s1 hc Q qq => by
  refine (ea_cons hf (ea_cons hm ea_nil)) σ H1 c r1 e1 s1 (by omega) _ fun xs H2 ds c2 p2 r2 s2 hc2 hxs => ?_
  subst p2
  rw [List.append_nil]
  refine ⟨f, q, ns, c2, _, ⟨m, h0, h1, rfl⟩, hxs, s2, by omega, fun v d H' c' ⟨f', m', k, e1, e2, e3, e4⟩ r s hc' hv => ?_⟩
  have em : m' = m := by
    injection e1 with _ e1
    injection e1 with e1
    injection e1 with e1
    exact e1.symm
  subst em
  exact qq v H' d c' ⟨k, e2, e3, e4⟩ (r2.trans r) s (by omega) hv
theorem rf_none {M : Md} {p : Addr} (r : Rf M.F H H') (s : M.Rs H' c) (h : H' p = none) : H p = none := by
  cases z : H p with
  | none => rfl
  | some o =>
    by_cases f : M.F p
    · exact absurd h (M.live _ _ _ f s)
    · rw [r.keep _ _ f z] at h
      cases h
/-- names drawn from a pool: a sorted list of them -/
theorem ev_names {lp : Addr} {ps0 : List PySem.Str} (hp : H lp = some (.lst (ps0.map V.str))) (hH0 : H0 lp = none) (r0 : Rf (MF f q ns).F H0 H) (s0 : ∃ c, (MF f q ns).Rs H0 c) (nd0 : ps0.Nodup) (l0 : ps0.length = 6) (s : (MF f q ns).Rs H c) (hc : c + 10 ≤ CM) (e : EnvD K σ H [some (.r (.ref f)), some (.i 4), some (.r (.ref lp)), none, none, none, none, none, none, none, none, none, none, none, none])
    (k : ∀ H' p (ys : List PySem.Str) c', Bld (MF f q ns) K H0 H' p (ys.map PyD.s) → ys ≠ [] → ys.length ≤ 4 → ys.Nodup → (∀ y ∈ ys, y ∈ ps0) → Tp H H' → (MF f q ns).Rs H' c' → c' ≤ c + 10 → Q (.ref p) H') :
    tCB (rSortedS K) (tCons (tLc (iRng1 (tCons (tOp oAdd (tC (.int 1)) (tCall (sp_law_draw K) [] E0 (tCons (tVar 0) (tCons (tVar 1) tNil)))) tNil)) (gName 9) tYes (tBM K "list" rPopAt (tVar 2) (tCons (tCall (sp_law_draw K) [] E0 (tCons (tVar 0) (tCons (tCB (bLen K) (tCons (tVar 2) tNil)) tNil))) tNil)) [9]) tNil) σ H Q := by
  dsimp only [tCB, tCons, tNil]
  refine (it_rng1 (M := MF f q ns) (K := K) (H := H) (n := 1) (PA := fun ds => ∃ j : Nat, 1 ≤ j ∧ j ≤ 4 ∧ ds = (List.range j).map fun k : Nat => PyD.i (k : Int)) ((ev_cons (n := 1) (m := 0) (ev_op (n := 0) (m := 1) (P := fun d => ∃ j, d = .i j ∧ 1 ≤ j ∧ j ≤ 4) (ed_int (z := 1)) (ev_draw (ed_var (i := 0) rfl) (ed_var (i := 1) (d := .i 4) rfl) (by decide) (by decide)) fun d e pd pe => ?_) ea_nil).imp ?_)) σ H c (Rf.refl _) e s (by omega) _ fun J H2 ds c2 pa jd r2 s2 hc2 => ?_
  · obtain ⟨k, rfl, k0, k1⟩ := pe
    subst pd
    exact fun x y H1 Q r hx hy qq => rop_I0 (M := MF f q ns) (K := K) (H := H) (fun H1 _ => .i (1 + k)) x y H1 Q r hx hy fun v H2 u pu => qq v H2 u ⟨1 + k, pu, by omega, by omega⟩
  · rintro ds ⟨d, r, rfl, ⟨j, rfl, j1, j4⟩, rfl⟩
    exact ⟨j, rfl, by omega, by omega, j.toNat, by omega, by omega, rfl⟩
  obtain ⟨j, j1, j4, rfl⟩ := pa
  intro Dl hD
  have nFl : ¬ (MF f q ns).F lp := fun z => absurd hH0 (by obtain ⟨c0, s0⟩ := s0; exact (MF f q ns).live _ _ _ z s0)
  have nFD : ¬ (MF f q ns).F Dl := fun z => absurd hD ((MF f q ns).live _ _ _ z s2)
  have r02 := r0.trans r2
  have hD0 : H0 Dl = none := rf_none r02 s2 hD
  have lD : lp ≠ Dl := fun z => by
    have := r2.keep _ _ nFl hp
    rw [z, hD] at this
    cases this
  refine ⟨fun i m H' => m = j - i ∧ i ≤ j ∧ (∃ c', c' ≤ c2 + i ∧ (MF f q ns).Rs H' c') ∧ Tp H H' ∧ Rf (MF f q ns).F H0 H' ∧ ∃ ps as : List PySem.Str, H' lp = some (.lst (ps.map V.str)) ∧ H' Dl = some (.lst (as.map V.str)) ∧ as.length = i ∧ ps.length = 6 - i ∧ ps.Nodup ∧ as.Nodup ∧ (∀ x ∈ as, x ∉ ps) ∧ (∀ x ∈ ps, x ∈ ps0) ∧ ∀ x ∈ as, x ∈ ps0,
    ⟨j, by simp, Nat.zero_le _, ⟨c2, Nat.le_refl _, (MF f q ns).mono _ _ _ (Exh.new hD) s2⟩, r2.tup.trans (Exh.new hD).tp, r02.trans (Exh.new hD).rf, ps0, [], ?_, upd_same, rfl, l0, nd0, List.nodup_nil, fun x hx => (by cases hx), fun x hx => hx, fun x hx => by cases hx⟩, ?_⟩
  · rw [upd_ne lD]
    exact r2.keep _ _ nFl hp
  rintro i m H3 ⟨rfl, hi, ⟨c3, hc3, s3⟩, t3, r03, ps, as, hps, has, las, lps, ndp, nda, dis, sub, sub2⟩
  by_cases hlt : i < j
  · refine .inr ⟨jd.go i H3 (by rw [List.length_map, List.length_range]; exact hlt) trivial, _, fun H' p' => ⟨j - (i + 1), by omega, rfl, hlt, p'⟩, fun x H4 y => ?_⟩
    obtain ⟨x4, hx⟩ := jd.yld i H3 x H4 (.i (i : Int)) trivial (by rw [List.getElem?_map, List.getElem?_range hlt]; rfl) y
    have e4 := ((e.tp (t3.trans x4.tp)).wipe [9]).set (i := 9) hx
    refine ⟨(Wp.start σ [9]).set (i := 9) (by decide), ?_⟩
    dsimp only [tYes]
    rw [if_pos rfl]
    have hps4 := x4 _ _ hps
    have has4 := x4 _ _ has
    have s4 := (MF f q ns).mono _ _ _ x4 s3
    obtain ⟨v2, hv2, hd2⟩ := e4.at_ 2 (.r (.ref lp)) rfl
    cases hd2.raw
    refine ⟨.ref lp, hv2, .inl ⟨rfl, _, SqL.of hps4⟩, ?_⟩
    have hlen : EvD (MF f q ns) K (tCB (bLen K) (tCons (tVar 2) tNil)) ((wipeD [some (.r (.ref f)), some (.i 4), some (.r (.ref lp)), none, none, none, none, none, none, none, none, none, none, none, none] [9]).set 9 (some (.i (i : Int)))) H4 (.i (ps.length : Int)) := by
      have := ed_cb (M := MF f q ns) (K := K) (H := H4) (ea_cons (ed_var (i := 2) (d := .r (.ref lp)) (Δ := (wipeD [some (.r (.ref f)), some (.i 4), some (.r (.ref lp)), none, none, none, none, none, none, none, none, none, none, none, none] [9]).set 9 (some (.i (i : Int)))) rfl) ea_nil) (rc_lenL fun H5 r5 => r5.keep _ _ nFl hps4)
      rw [List.length_map] at this
      exact this
    refine (ev_draw (f := f) (q := q) (ns := ns) (ed_var (i := 0) rfl) hlen (by omega) (by omega)) _ H4 c3 (Rf.refl _) e4 s4 (by omega) _ fun v H5 d c5 ⟨k, p5, k0, k1⟩ r5 s5 hc5 hv => ?_
    subst p5
    cases hv.int
    have hps5 := r5.keep _ _ nFl hps4
    have has5 := r5.keep _ _ nFD has4
    obtain ⟨x0, hx0⟩ : ∃ x0, ps[k.toNat]? = some x0 := ⟨ps[k.toNat]'(by omega), List.getElem?_eq_getElem (by omega)⟩
    have hk : k.toNat < ps.length := by omega
    refine ⟨lp, ps.map V.str, k, k.toNat, .str x0, rfl, rfl, hps5, by omega, by omega, ?_, by rw [List.getElem?_map, hx0]; rfl, ?_⟩
    · refine (ixN_seq ?_).1
      unfold ixN
      rw [List.length_map, if_pos k0, if_pos k1]
    rw [map_eraseIdx]
    have t6 := Tp.updL (o := .lst ((ps.eraseIdx k.toNat).map V.str)) hps5
    have has6 : upd H5 lp (.lst ((ps.eraseIdx k.toNat).map V.str)) Dl = some (.lst (as.map V.str)) := by
      rw [upd_ne fun z => lD z.symm]
      exact has5
    have t7 := Tp.updL (o := .lst ((as ++ [x0]).map V.str)) has6
    have e7 : as.map V.str ++ [V.str x0] = (as ++ [x0]).map V.str := by rw [List.map_append]; rfl
    have hpx : x0 ∈ ps := List.mem_of_getElem? hx0
    refine ⟨as.map V.str, has6, small1000 (by rw [List.length_map]; omega), ⟨c5, by omega, ?_⟩, ?_, ?_, ps.eraseIdx k.toNat, as ++ [x0], ?_, ?_, ?_, ?_, ?_, ?_, ?_, ?_, ?_⟩
    · obtain ⟨c0, s0⟩ := s0
      exact (MF f q ns).fresh _ _ _ _ _ _ s0 hD0 ((MF f q ns).fresh _ _ _ _ _ _ s0 hH0 s5)
    · rw [e7]
      exact (((t3.trans x4.tp).trans r5.tup).trans t6).trans t7
    · rw [e7]
      refine ⟨fun a o ha h => ?_, (((r03.tup.trans x4.tp).trans r5.tup).trans t6).trans t7⟩
      rw [upd_ne (ne_of_none h hD0), upd_ne (ne_of_none h hH0)]
      exact r5.keep _ _ ha (x4 _ _ (r03.keep _ _ ha h))
    · rw [upd_ne lD, upd_same]
    · rw [e7, upd_same]
    · rw [List.length_append, las]
      rfl
    · rw [List.length_eraseIdx, if_pos hk]
      omega
    · exact ndp.sublist (List.eraseIdx_sublist ..)
    · exact List.nodup_append.mpr ⟨nda, List.nodup_cons.mpr ⟨by simp, List.nodup_nil⟩, fun a ha b hb => by
        rw [List.mem_singleton.mp hb]
        intro z
        rw [z] at ha
        exact dis _ ha hpx⟩
    · intro x hx
      rcases List.mem_append.mp hx with hx | hx
      · exact fun z => dis x hx ((List.eraseIdx_sublist ..).subset z)
      · rw [List.mem_singleton.mp hx]
        exact nd_eraseIdx ndp hx0
    · exact fun x hx => sub x ((List.eraseIdx_sublist ..).subset hx)
    · intro x hx
      rcases List.mem_append.mp hx with hx | hx
      · exact sub2 x hx
      · rw [List.mem_singleton.mp hx]
        exact sub x0 hpx
  · have e : i = j := by omega
    subst e
    refine .inl ⟨by have := jd.stop H3 trivial; rw [List.length_map, List.length_range] at this; exact this, ?_⟩
    refine ⟨Dl, as, rfl, SqL.of has, by omega, fun ys p perm _ hp => ?_⟩
    have x4 := Exh.new (o := .lst (ys.map V.str)) hp
    have hp0 : H0 p = none := rf_none r03 s3 hp
    refine k _ p ys c3 ⟨hp0, r03.trans x4.rf, ⟨_, upd_same, strs_dts ys⟩, fun z => absurd hp ((MF f q ns).live _ _ _ z s3), s0⟩ (fun z => ?_) ?_ (perm.nodup_iff.mpr nda) (fun y hy => sub2 y (perm.mem_iff.mp hy)) (t3.trans x4.tp) ((MF f q ns).mono _ _ _ x4 s3) (by omega)
    · have := perm.length_eq
      rw [z, las] at this
      have : (0 : Nat) = i := this
      omega
    · have := perm.length_eq
      omega
/-- two lists, and a third: each by itself -/
structure Fl (M : Md) (K : PySem.W.Frag) (H0 H : Hp) (np hp lp : Addr) (ys : List PySem.Str) (hs : List (House PySem.Str)) (ls : List (Lnk PySem.Str)) : Prop where
  nb : Bld M K H0 H np (ys.map PyD.s)
  hb : Bld M K H0 H hp (hs.map dHouse)
  lb : Bld M K H0 H lp (ls.map dLnk)
  n1 : np ≠ hp
  n2 : np ≠ lp
  n3 : hp ≠ lp
variable {np hp lp : Addr} {ys : List PySem.Str} {hs : List (House PySem.Str)} {ls : List (Lnk PySem.Str)}
theorem Fl.on (g : Fl M K H0 H np hp lp ys hs ls) (r : Rf M.F H H') : Fl M K H0 H' np hp lp ys hs ls := ⟨g.nb.on r, g.hb.on r, g.lb.on r, g.n1, g.n2, g.n3⟩
theorem Fl.addH (g : Fl M K H0 H np hp lp ys hs ls) {x : House PySem.Str} {v : V} {us : List V} (hu : H hp = some (.lst us)) (b : Bld M K H0 (upd H hp (.lst (us ++ [v]))) hp (hs.map dHouse ++ [dHouse x])) : Fl M K H0 (upd H hp (.lst (us ++ [v]))) np hp lp ys (hs ++ [x]) ls := by
  have t := Tp.updL (o := .lst (us ++ [v])) hu
  refine ⟨g.nb.other g.hb.fr (fun z => g.n1 z.symm) t, ?_, g.lb.other g.hb.fr g.n3 t, g.n1, g.n2, g.n3⟩
  rw [List.map_append]
  exact b
theorem Fl.addL (g : Fl M K H0 H np hp lp ys hs ls) {x : Lnk PySem.Str} {v : V} {us : List V} (hu : H lp = some (.lst us)) (b : Bld M K H0 (upd H lp (.lst (us ++ [v]))) lp (ls.map dLnk ++ [dLnk x])) : Fl M K H0 (upd H lp (.lst (us ++ [v]))) np hp lp ys hs (ls ++ [x]) := by
  have t := Tp.updL (o := .lst (us ++ [v])) hu
  refine ⟨g.nb.other g.lb.fr (fun z => g.n2 z.symm) t, g.hb.other g.lb.fr (fun z => g.n3 z.symm) t, ?_, g.n1, g.n2, g.n3⟩
  rw [List.map_append]
  exact b
theorem rop_mul {a b : Int} {P : PyD → Prop} (hc : CMul a b) (hp : P (.i (a * b))) : RopD M K oMul H (.i a) (.i b) P := fun x y H1 Q r hx hy q => rop_I (M := M) (K := K) (H := H) hc (fun H1 _ => .i (a * b)) x y H1 Q r hx hy fun v H2 u pu => q v H2 u (by rw [pu]; exact hp)
/-- e.append(x), by what the state is -/
theorem s_appX {l : Addr} {ds : List PyD} {P : PyD → Prop} (b : Bld M K H0 H l ds) (ho : EvD M K ta Δ H (.r (.ref l))) (h : Ev M K te Δ H n P) (hz : ds.length < 100000) (e : EnvD K σ H Δ) (s : M.Rs H c) (hc : c + n ≤ CM)
    (k : ∀ H1 us v d c', P d → Rf M.F H H1 → H1 l = some (.lst us) → Tp H1 (upd H1 l (.lst (us ++ [v]))) → Bld M K H0 (upd H1 l (.lst (us ++ [v]))) l (ds ++ [d]) → EnvD K σ (upd H1 l (.lst (us ++ [v]))) Δ → M.Rs (upd H1 l (.lst (us ++ [v]))) c' → c' ≤ c + n → D.nx σ (upd H1 l (.lst (us ++ [v])))) : tDrop (tBM K "list" rAppend ta (tCons te tNil)) D σ H :=
  s_appB b ho h hz e s hc fun H1 H2 d v c' pd r hv ⟨us, hu, e2⟩ b2 ev s2 hc2 => by
    subst e2
    exact k H1 us v d c' pd r hu (Tp.updL hu) b2 ev s2 hc2
end
end K27
/-! The readings keep the promises: the field. -/
namespace K27
open PySem PySem.Spec PyProof.Rows L2 KM
def pool0 : List PySem.Str := ["a", "b", "cy", "mill", "quay", "zzzzzzzz"]
theorem pool_nd : pool0.Nodup := by decide
theorem pool_ok : ∀ x ∈ pool0, PyData.strOk x = true := by decide +kernel
section
variable {K : PySem.W.Frag} {vs : List V} {H H' H0 HB : Hp} {Q : VK} {E : XK} {n : Nat} {Δ : List (Option PyD)} {te td ty tx tv tb tw ta tf tm : TE} {σ : L2.St} {D : Ends} {d e : PyD} {f q : Addr} {ns : List Int} {c : Nat}
/-- draw(m) * int(a != b) -/
theorem ev_drawMul {m : Int} {b : Bool} (hf : EvD (MF f q ns) K tf Δ H (.r (.ref f))) (hm : EvD (MF f q ns) K tm Δ H (.i m)) (h0 : 0 < m) (h1 : m ≤ 1000) (hb : EvD (MF f q ns) K tb Δ H (.b b)) :
    Ev (MF f q ns) K (tOp oMul (tCall (sp_law_draw K) [] E0 (tCons tf (tCons tm tNil))) (tCB bInt (tCons tb tNil))) Δ H 1 (fun d => ∃ k, d = .i k ∧ 0 ≤ k ∧ k < m ∧ (b = false → k = 0)) := by
  refine (ev_op (n := 1) (m := 0) (ev_draw hf hm h0 h1) (w_intB hb) fun d e pd pe => ?_).imp (m := 1) (fun d p => p) (by omega)
  obtain ⟨k, rfl, k0, k1⟩ := pd
  subst pe
  cases b with
  | true => exact rop_mul (.inr ⟨by decide, by decide⟩) ⟨k * 1, rfl, by omega, by omega, fun z => by cases z⟩
  | false => exact rop_mul (.inr ⟨by decide, by decide⟩) ⟨k * 0, rfl, by omega, by omega, fun _ => by omega⟩
theorem ev_slow {b : Bool} (hf : EvD (MF f q ns) K tf Δ H (.r (.ref f))) (hb : EvD (MF f q ns) K tb Δ H (.b b)) :
    Ev (MF f q ns) K (tOp (rIxL K) (tLst (tCons (tTup (tCons (tC (.int 1)) (tCons (tC (.int 1)) tNil))) (tCons (tTup (tCons (tC (.int 3)) (tCons (tC (.int 4)) tNil))) (tCons (tTup (tCons (tC (.int 1)) (tCons (tC (.int 2)) tNil))) tNil)))) (tOp oMul (tCall (sp_law_draw K) [] E0 (tCons tf (tCons (tC (.int 3)) tNil))) (tCB bInt (tCons tb tNil)))) Δ H 1
      (fun d => ∃ q : Int, d = fr (30 * q) ∧ 0 < q ∧ q ≤ 4 ∧ q ∣ 120) := by
  refine (ev_lstIx (n := 0) (m := 1) (PA := (· = [fr 120, fr 90, fr 60])) (el_lst (ea_cons (ed_tup (ea_cons ed_int (ea_cons ed_int ea_nil))) (ea_cons (ed_tup (ea_cons ed_int (ea_cons ed_int ea_nil))) (ea_cons (ed_tup (ea_cons ed_int (ea_cons ed_int ea_nil))) ea_nil)))) (ev_drawMul hf ed_int (by decide) (by decide) hb) fun ds e pd pe => ?_).imp (m := 1) (fun d p => p) (by omega)
  obtain ⟨k, rfl, k0, k1, _⟩ := pe
  subst pd
  have : k = 0 ∨ k = 1 ∨ k = 2 := by omega
  rcases this with rfl | rfl | rfl
  · exact ⟨0, fr 120, rfl, rfl, 4, rfl, by decide, by decide, by decide⟩
  · exact ⟨1, fr 90, rfl, rfl, 3, rfl, by decide, by decide, by decide⟩
  · exact ⟨2, fr 60, rfl, rfl, 2, rfl, by decide, by decide, by decide⟩
theorem ev_fast {b : Bool} (hf : EvD (MF f q ns) K tf Δ H (.r (.ref f))) (hb : EvD (MF f q ns) K tb Δ H (.b b)) :
    Ev (MF f q ns) K (tOp (rIxL K) (tLst (tCons (tTup (tCons (tC (.int 1)) (tCons (tC (.int 1)) tNil))) (tCons (tTup (tCons (tC (.int 5)) (tCons (tC (.int 4)) tNil))) (tCons (tTup (tCons (tC (.int 3)) (tCons (tC (.int 2)) tNil))) (tCons (tTup (tCons (tC (.int 2)) (tCons (tC (.int 1)) tNil))) tNil))))) (tOp oMul (tCall (sp_law_draw K) [] E0 (tCons tf (tCons (tC (.int 4)) tNil))) (tCB bInt (tCons tb tNil)))) Δ H 1
      (fun d => ∃ q : Int, d = fr (30 * q) ∧ 4 ≤ q ∧ q ≤ 8 ∧ q ∣ 120) := by
  refine (ev_lstIx (n := 0) (m := 1) (PA := (· = [fr 120, fr 150, fr 180, fr 240])) (el_lst (ea_cons (ed_tup (ea_cons ed_int (ea_cons ed_int ea_nil))) (ea_cons (ed_tup (ea_cons ed_int (ea_cons ed_int ea_nil))) (ea_cons (ed_tup (ea_cons ed_int (ea_cons ed_int ea_nil))) (ea_cons (ed_tup (ea_cons ed_int (ea_cons ed_int ea_nil))) ea_nil))))) (ev_drawMul hf ed_int (by decide) (by decide) hb) fun ds e pd pe => ?_).imp (m := 1) (fun d p => p) (by omega)
  obtain ⟨k, rfl, k0, k1, _⟩ := pe
  subst pd
  have : k = 0 ∨ k = 1 ∨ k = 2 ∨ k = 3 := by omega
  rcases this with rfl | rfl | rfl | rfl
  · exact ⟨0, fr 120, rfl, rfl, 4, rfl, by decide, by decide, by decide⟩
  · exact ⟨1, fr 150, rfl, rfl, 5, rfl, by decide, by decide, by decide⟩
  · exact ⟨2, fr 180, rfl, rfl, 6, rfl, by decide, by decide, by decide⟩
  · exact ⟨3, fr 240, rfl, rfl, 8, rfl, by decide, by decide, by decide⟩
theorem mod_frac {a b z : Int} (h0 : 0 < b) (h1 : b < 1073741824) (hz : z * b = 120 * a) {M : Md} (ha : EvD M K ta Δ H (.i a)) (hb : EvD M K tb Δ H (.i b)) : EvD M K (tCall (sp_law_frac K) [] E0 (tCons ta (tCons tb tNil))) Δ H (fr z) :=
  ed_call (ea_cons ha (ea_cons hb ea_nil)) (CallD.of fun xs H1 Q E r hx q => ⟨a, b, z, h0, h1, hz, hx, q⟩)
theorem len_law_field (h : sp_law_field K vs H Q E) : vs.length = 2 := by
  obtain ⟨_, _, _, _, _, rfl, hd, _⟩ := h
  exact hd.length
def othF (x : PySem.Str) : PyD → Option PyD
  | .s y => if y = x then none else some (.s y)
  | _ => none
theorem oth_mem {x : PySem.Str} {ys : List PySem.Str} {d : PyD} (h : d ∈ (ys.map PyD.s).filterMap (othF x)) : ∃ y ∈ ys, d = .s y := by
  obtain ⟨e, he, h⟩ := List.mem_filterMap.mp h
  obtain ⟨y, hy, rfl⟩ := List.mem_map.mp he
  have h : (if y = x then none else some (PyD.s y)) = some d := h
  by_cases c : y = x
  · rw [if_pos c] at h
    cases h
  · rw [if_neg c] at h
    cases h
    exact ⟨y, hy, rfl⟩
theorem oth_pos {x : PySem.Str} {ys : List PySem.Str} (nd : ys.Nodup) (hl : 1 < ys.length) : 0 < ((ys.map PyD.s).filterMap (othF x)).length := by
  match ys, nd, hl with
  | a :: b :: r, nd, _ =>
    have hab : a ≠ b := fun z => (List.nodup_cons.mp nd).1 (z ▸ List.mem_cons_self ..)
    by_cases c : a = x
    · have cb : b ≠ x := fun z => hab (c.trans z.symm)
      refine List.length_pos_of_mem (a := .s b) (List.mem_filterMap.mpr ⟨.s b, List.mem_cons_of_mem _ (List.mem_cons_self ..), (show othF x (.s b) = some (.s b) from if_neg cb)⟩)
    · exact List.length_pos_of_mem (a := .s a) (List.mem_filterMap.mpr ⟨.s a, List.mem_cons_self .., (show othF x (.s a) = some (.s a) from if_neg c)⟩)
theorem oth_len {x : PySem.Str} {ys : List PySem.Str} : ((ys.map PyD.s).filterMap (othF x)).length ≤ ys.length := by
  have := List.length_filterMap_le (othF x) (ys.map PyD.s)
  rw [List.length_map] at this
  exact this
theorem atI_lt {α : Type} {xs : List α} {k : Int} (h0 : 0 ≤ k) (h1 : k < xs.length) : ∃ x, atI xs k = some x ∧ x ∈ xs := by
  obtain ⟨x, hx⟩ : ∃ x, xs[k.toNat]? = some x := ⟨xs[k.toNat]'(by omega), List.getElem?_eq_getElem (by omega)⟩
  refine ⟨x, ?_, List.mem_of_getElem? hx⟩
  have ek : k = (k.toNat : Int) := by omega
  rw [ek]
  exact atI_nat hx
theorem rd_law_field (kx : Kx K) (h : sp_law_field K vs H Q E) : t_law_field K { nx := fun _ H' => Q .non H', rt := Q } (start N_law_field vs) H := by
  obtain ⟨f, q, ns, c, ds, rfl, hd, s0, hc, qq⟩ := h
  have s0 : (MF f q ns).Rs H c := s0
  have e := EnvD.st (N := N_law_field) hd
  refine sq (s_asgB (M := MF f q ns) (el_lst (ds := pool0.map PyD.s) (ea_cons ed_str (ea_cons ed_str (ea_cons ed_str (ea_cons ed_str (ea_cons ed_str (ea_cons ed_str ea_nil))))))) e s0 (by omega) fun σ1 H1 lp c1 b1 e1 s1 hc1 => ?_)
  dsimp only
  obtain ⟨us, hus, hds⟩ := b1.at_
  have eus : us = pool0.map V.str := by
    refine List.ext_getElem? fun i => ?_
    rw [List.getElem?_map]
    cases z : pool0[i]? with
    | none =>
      have h1 := List.getElem?_eq_none_iff.mp z
      have h2 := hds.length
      rw [List.length_map] at h2
      exact List.getElem?_eq_none (by omega)
    | some x =>
      obtain ⟨v, hv, hvd⟩ := hds.at (i := i) (d := .s x) (by rw [List.getElem?_map, z]; rfl)
      rw [hv, hvd.str]
      rfl
  subst eus
  refine sq (ev_names (H0 := H) (lp := lp) (ps0 := pool0) hus b1.fr b1.rf ⟨c, s0⟩ pool_nd rfl s1 (by omega) e1 fun H2 np ys c2 nb yne yl ynd ysub t2 s2 hc2 => ?_)
  have e2 := (e1.tp t2).set (i := 3) (v := .ref np) (.r _)
  dsimp only [gName]
  generalize List.set σ1 3 (some (.ref np)) = σ2 at e2 ⊢
  have ypos : 0 < ys.length := List.length_pos_iff.mpr yne
  dsimp only [tSeq, tPar3, tCons, tNil]
  refine (Bld.ix (M := MF f q ns) (n := 1) (P := fun d => ∃ x, d = .s x ∧ x ∈ ys) nb (ed_var (i := 3) rfl) (ev_draw (m := ((ys.map PyD.s).length : Int)) (ed_var (i := 0) rfl) (nb.len (ed_var (i := 3) rfl)) (by rw [List.length_map]; omega) (by rw [List.length_map]; omega)) fun e pe => ?_) σ2 H2 c2 (Rf.refl _) e2 s2 (by omega) _ fun vsrc H3 dsrc c3 psrc r3 s3 hc3 hsrc => ?_
  · obtain ⟨k, rfl, k0, k1⟩ := pe
    obtain ⟨x, hx, hm⟩ := atI_lt k0 k1
    obtain ⟨y, hy, rfl⟩ := List.mem_map.mp hm
    exact ⟨k, .s y, rfl, hx, y, rfl, hy⟩
  obtain ⟨src, rfl, hsrcm⟩ := psrc
  cases hsrc.str
  refine (el_lst (M := MF f q ns) (K := K) (H := H3) (ds := []) (Δ := [some (.r (.ref f)), some (.i 4), some (.r (.ref lp)), some (.r (.ref np)), none, none, none, none, none, none, none, none, none, none, none]) ea_nil) σ2 H3 c3 (Rf.refl _) (e2.tp r3.tup) s3 (by omega) _ fun hp H4 us4 ds4 c4 p4 hp3 h4 hd4 r4 s4 hc4 => ?_
  subst p4
  refine (el_lst (M := MF f q ns) (K := K) (H := H4) (ds := []) (Δ := [some (.r (.ref f)), some (.i 4), some (.r (.ref lp)), some (.r (.ref np)), none, none, none, none, none, none, none, none, none, none, none]) ea_nil) σ2 H4 c4 (Rf.refl _) ((e2.tp r3.tup).tp r4.tup) s4 (by omega) _ fun kp H5 us5 ds5 c5 p5 hp4 h5 hd5 r5 s5 hc5 => ?_
  subst p5
  refine ⟨.str src, .ref hp, .ref kp, rfl, ?_⟩
  have nb3 := nb.on r3
  have hb4 : Bld (MF f q ns) K H H4 hp (([] : List (House PySem.Str)).map dHouse) := (Bld.start hp3 h4 hd4 r4 s3).back nb3.rf (rf_none nb3.rf s3 hp3) ⟨c, s0⟩
  have nb4 := nb3.on r4
  have lb5 : Bld (MF f q ns) K H H5 kp (([] : List (Lnk PySem.Str)).map dLnk) := (Bld.start hp4 h5 hd5 r5 s4).back nb4.rf (rf_none nb4.rf s4 hp4) ⟨c, s0⟩
  have g5 : Fl (MF f q ns) K H H5 np hp kp ys [] [] := by
    refine ⟨nb4.on r5, hb4.on r5, lb5, fun z => ?_, fun z => ?_, fun z => ?_⟩
    · obtain ⟨w, hw, _⟩ := nb3.at_
      rw [z, hp3] at hw
      cases hw
    · obtain ⟨w, hw, _⟩ := nb4.at_
      rw [z, hp4] at hw
      cases hw
    · rw [z, hp4] at h4
      cases h4
  have e5 : EnvD K (List.set (List.set (List.set σ2 4 (some (.str src))) 5 (some (.ref hp))) 6 (some (.ref kp))) H5 [some (.r (.ref f)), some (.i 4), some (.r (.ref lp)), some (.r (.ref np)), some (.s src), some (.r (.ref hp)), some (.r (.ref kp)), none, none, none, none, none, none, none, none] := ((((((e2.tp r3.tup).tp r4.tup).tp r5.tup).set (i := 4) (v := .str src) (.s _)).set (i := 5) (v := .ref hp) (.r _)).set (i := 6) (v := .ref kp) (.r _))
  show tFor _ _ _ _ (List.set (List.set (List.set σ2 4 (some (.str src))) 5 (some (.ref hp))) 6 (some (.ref kp))) H5
  generalize List.set (List.set (List.set σ2 4 (some (.str src))) 5 (some (.ref hp))) 6 (some (.ref kp)) = σ5 at e5 ⊢
  obtain ⟨un, hun, hdn⟩ := g5.nb.at_
  refine s_for (M := MF f q ns) (c := c5) (n := 0) (it_list (a := np) (vs := un) (ds := ys.map PyD.s) (ed_var (i := 3) rfl) fun H6 r6 => ⟨r6.keep _ _ g5.nb.nf hun, hdn.mono r6.tup⟩) e5 s5 (by omega) fun H6 ds6 c6 pd6 r6 e6 s6 hc6 => ?_
  subst pd6
  refine ⟨fun i σ' H' => EnvD K σ' H' [some (.r (.ref f)), some (.i 4), some (.r (.ref lp)), some (.r (.ref np)), some (.s src), some (.r (.ref hp)), some (.r (.ref kp)), none, none, none, none, none, none, none, none] ∧ Tp H6 H' ∧ (∃ c', c' ≤ c6 + 2 * i ∧ (MF f q ns).Rs H' c') ∧ H' np = some (.lst un) ∧ ∃ hs : List (House PySem.Str), Fl (MF f q ns) K H H' np hp kp ys hs [] ∧ hs.map (·.name) = ys.take i ∧ ∀ x ∈ hs, ∃ a r, WFH x a r, ⟨e6, Tp.refl _, ⟨c6, Nat.le_refl _, s6⟩, r6.keep _ _ g5.nb.nf hun, [], g5.on r6, rfl, fun x hx => by cases hx⟩, fun i σ' H' ⟨_, t, _, hu, _⟩ => ⟨t, hu⟩, ?_, ?_⟩
  · rintro i d σ' H7 H8 v hdi ⟨e7, t7, ⟨c7, hc7, s7⟩, hu7, hs, g7, hns, hrt⟩ x8 hv
    rw [List.getElem?_map] at hdi
    cases hyi : ys[i]? with
    | none =>
      rw [hyi] at hdi
      cases hdi
    | some nm =>
      rw [hyi] at hdi
      cases hdi
      have hil := (List.getElem?_eq_some_iff.mp hyi).1
      have e8 := (e7.tp x8.tp).set (i := 7) hv
      have s8 := (MF f q ns).mono _ _ _ x8 s7
      refine sq (s_asg (n := 1) (ev_slow (b := !decide (nm = src)) (ed_var rfl) (w_neS (ed_var rfl) (ed_var rfl))) e8 s8 (by omega) fun σ9 H9 d9 c9 p9 r9 e9 s9 hc9 => ?_)
      obtain ⟨qs, rfl, q0, q4, qd⟩ := p9
      dsimp only
      have g9 := (g7.on x8.rf).on r9
      refine s_appX (n := 1) (P := fun d => ∃ r : Int, d = dHouse ⟨nm, 30 * qs, 30 * r⟩ ∧ 4 ≤ r ∧ r ≤ 8 ∧ r ∣ 120) g9.hb (ed_var rfl) ((ev_tup (ev_cons (n := 0) (m := 1) (ed_var (d := .s nm) rfl) (ev_cons (n := 0) (m := 1) (ed_var (d := fr (30 * qs)) rfl) (ev_cons (n := 1) (m := 0) (ev_fast (b := !decide (nm = src)) (ed_var rfl) (w_neS (ed_var rfl) (ed_var rfl))) ea_nil))) ?_).imp ?_ (by omega)) ?_ e9 s9 (by omega) fun H10 us v d c10 p10 r10 hus t10 b10 e10 s10 hc10 => ?_
      · rintro ds ⟨d1, r1, rfl, _, d2, r2, rfl, _, d3, r3, rfl, _, rfl⟩
        exact Nat.le_of_ble_eq_true rfl
      · rintro d ⟨ds, rfl, d1, r1, rfl, rfl, d2, r2, rfl, rfl, d3, r3, rfl, ⟨r, rfl, hr⟩, rfl⟩
        exact ⟨r, rfl, hr⟩
      · have : hs.length = (ys.take i).length := by rw [← hns, List.length_map]
        rw [List.length_map, this, List.length_take]
        omega
      · obtain ⟨r, rfl, r4', r8', rd⟩ := p10
        have g11 := (g9.on r10).addH (x := ⟨nm, 30 * qs, 30 * r⟩) hus b10
        refine ⟨(e10.drop 7).drop 8, (((t7.trans x8.tp).trans r9.tup).trans r10.tup).trans t10, ⟨c10, by omega, s10⟩, ?_, _, g11, ?_, ?_⟩
        · rw [upd_ne g5.n1]
          exact r10.keep _ _ g5.nb.nf (r9.keep _ _ g5.nb.nf (x8 _ _ hu7))
        · rw [List.map_append, hns, take_snoc hyi]
          rfl
        · intro x hx
          rcases List.mem_append.mp hx with hx | hx
          · exact hrt x hx
          · rw [List.mem_singleton.mp hx]
            exact ⟨qs, r, rfl, rfl, q0, q4, r4', r8', qd, rd⟩
  · rintro σ7 H7 ⟨e7, t7, ⟨c7, hc7, s7⟩, hu7, hs, g7, hns, hrt⟩
    rw [List.length_map] at hc7 hns
    rw [List.take_length] at hns
    have hsl : hs.length = ys.length := by rw [← hns, List.length_map]
    dsimp only
    refine s_for (M := MF f q ns) (c := c7) (n := 1) (it_rng1 (n := 1) (PA := fun ds => ∃ j : Nat, j ≤ 8 ∧ (0 < j → 1 < ys.length) ∧ ds = (List.range j).map fun k : Nat => PyD.i (k : Int)) ((ev_cons (n := 1) (m := 0) (ev_drawMul (m := 9) (b := decide (1 < ((ys.map PyD.s).length : Int))) (ed_var (i := 0) rfl) ed_int (by decide) (by decide) (w_gt (g7.nb.len (ed_var (i := 3) rfl)) ed_int)) ea_nil).imp ?_)) e7 s7 (by omega) fun H8 ds8 c8 ⟨j, hj8, hj1, pd8⟩ r8 e8 s8 hc8 => ?_
    · rintro ds ⟨d, r, rfl, ⟨k, rfl, k0, k9, kb⟩, rfl⟩
      refine ⟨k, rfl, k0, by omega, k.toNat, by omega, fun hk => ?_, rfl⟩
      by_cases c : 1 < ys.length
      · exact c
      · have := kb (decide_eq_false (by rw [List.length_map]; omega))
        omega
    subst pd8
    refine ⟨fun i σ' H' => EnvD K σ' H' [some (.r (.ref f)), some (.i 4), some (.r (.ref lp)), some (.r (.ref np)), some (.s src), some (.r (.ref hp)), some (.r (.ref kp)), none, none, none, none, none, none, none, none] ∧ (∃ c', c' ≤ c8 + 4 * i ∧ (MF f q ns).Rs H' c') ∧ ∃ ls : List (Lnk PySem.Str), Fl (MF f q ns) K H H' np hp kp ys hs ls ∧ ls.length ≤ i, ⟨e8, ⟨c8, Nat.le_refl _, s8⟩, [], g7.on r8, Nat.le_refl _⟩, fun _ _ _ _ => trivial, ?_, ?_⟩
    · rintro i d σ' H9 H10 v hdi ⟨e9, ⟨c9, hc9, s9⟩, ls, g9, hll⟩ x10 hv
      obtain ⟨hij, rfl⟩ := range_ne hdi
      have y1 := hj1 (by omega)
      have e10 := (e9.tp x10.tp).set (i := 9) hv
      have s10 := (MF f q ns).mono _ _ _ x10 s9
      have g10 := g9.on x10.rf
      refine sq (s_asg (n := 1) (Bld.ix (M := MF f q ns) (n := 1) (P := fun d => ∃ x, d = .s x ∧ x ∈ ys) g10.nb (ed_var (i := 3) rfl) (ev_draw (m := ((ys.map PyD.s).length : Int)) (ed_var (i := 0) rfl) (g10.nb.len (ed_var (i := 3) rfl)) (by rw [List.length_map]; omega) (by rw [List.length_map]; omega)) fun e pe => ?_) e10 s10 (by omega) fun σ11 H11 d11 c11 p11 r11 e11 s11 hc11 => ?_)
      · obtain ⟨k, rfl, k0, k1⟩ := pe
        obtain ⟨x, hx, hm⟩ := atI_lt k0 k1
        obtain ⟨y, hy, rfl⟩ := List.mem_map.mp hm
        exact ⟨k, .s y, rfl, hx, y, rfl, hy⟩
      obtain ⟨one, rfl, hone⟩ := p11
      dsimp only
      have g11 := g10.on r11
      obtain ⟨u11, hu11, hd11⟩ := g11.nb.at_
      refine sq (s_asgB (M := MF f q ns) (ds := (ys.map PyD.s).filterMap (othF one)) (el_lcF (it_list (a := np) (vs := u11) (ds := ys.map PyD.s) (ed_var (i := 3) rfl) fun H6 r6 => ⟨r6.keep _ _ g11.nb.nf hu11, hd11.mono r6.tup⟩) (fun H2 H3 r2 r3 => ⟨r3.tup, r3.keep _ _ g11.nb.nf (r2.keep _ _ g11.nb.nf hu11)⟩) (by rw [List.length_map]; omega) fun d hd => ?_) e11 s11 (by omega) fun σ12 H12 rp c12 b12 e12 s12 hc12 => ?_)
      · obtain ⟨y, _, rfl⟩ := List.mem_map.mp hd
        refine ⟨!decide (y = one), _, tg_name (by decide), et_test (w_neS (ed_var rfl) (ed_var rfl)), fun hb => ?_, fun hb => ⟨.s y, ?_, ed_var rfl⟩⟩
        · have : y = one := by
            by_cases c : y = one
            · exact c
            · rw [decide_eq_false c] at hb
              cases hb
          exact if_pos this
        · have : ¬ y = one := by
            intro c
            rw [decide_eq_true c] at hb
            cases hb
          exact if_neg this
      have g12 := g11.on b12.rf
      have rpos := oth_pos (x := one) ynd y1
      have rle := oth_len (x := one) (ys := ys)
      dsimp only
      refine sq (s_asg (n := 1) (ev_draw (m := 5) (ed_var rfl) ed_int (by decide) (by decide)) e12 s12 (by omega) fun σ13 H13 d13 c13 p13 r13 e13 s13 hc13 => ?_)
      obtain ⟨le, rfl, le0, le5⟩ := p13
      have g13 := g12.on r13
      have b13 := b12.on r13
      dsimp only
      refine sq (s_asg (n := 1) (P := fun d => d = .n ∨ ∃ m, d = .i m) ((ev_lstIx (n := 0) (m := 1) (PA := (· = [.i 0, .i 2, .i 5, .i 18, .n])) (el_lst (ea_cons ed_int (ea_cons ed_int (ea_cons ed_int (ea_cons ed_int (ea_cons ed_non ea_nil)))))) (ev_draw (m := 5) (ed_var rfl) ed_int (by decide) (by decide)) fun ds e pd pe => ?_).imp (m := 1) (fun d p => p) (by omega)) e13 s13 (by omega) fun σ14 H14 d14 c14 p14 r14 e14 s14 hc14 => ?_)
      · obtain ⟨k, rfl, k0, k1⟩ := pe
        subst pd
        have : k = 0 ∨ k = 1 ∨ k = 2 ∨ k = 3 ∨ k = 4 := by omega
        rcases this with rfl | rfl | rfl | rfl | rfl
        · exact ⟨0, _, rfl, rfl, .inr ⟨_, rfl⟩⟩
        · exact ⟨1, _, rfl, rfl, .inr ⟨_, rfl⟩⟩
        · exact ⟨2, _, rfl, rfl, .inr ⟨_, rfl⟩⟩
        · exact ⟨3, _, rfl, rfl, .inr ⟨_, rfl⟩⟩
        · exact ⟨4, _, rfl, rfl, .inl rfl⟩
      have g14 := g13.on r14
      have b14 := b13.on r14
      dsimp only
      refine sq (s_asg (n := 0) (P := fun d => ∃ o : Option Int, d = dOpt o) ?_ e14 s14 (by omega) fun σ15 H15 d15 c15 p15 r15 e15 s15 hc15 => ?_)
      · rcases p14 with rfl | ⟨m, rfl⟩
        · exact ev_if ((et_test (w_isT (ed_var rfl))).is rfl) (fun _ => ed_non.imp fun d e => ⟨none, e⟩) fun z => by cases z
        · refine ev_if (b := false) (et_test (w_isFI (ed_var (d := .i m) rfl))) (fun z => by cases z) fun _ => (mod_frac (z := 60 * (le + m)) (by decide) (by decide) (by omega) (w_add (ed_var (d := .i le) rfl) (ed_var (d := .i m) rfl)) ed_int).imp fun d e => ⟨some (60 * (le + m)), e⟩
      obtain ⟨o, rfl⟩ := p15
      have g15 := g14.on r15
      have b15 := b14.on r15
      dsimp only
      refine s_appX (n := 1) (P := fun d => ∃ lk : Lnk PySem.Str, d = dLnk lk) g15.lb (ed_var rfl) ((ev_tup (ev_cons (n := 0) (m := 1) (ed_var (d := .s one) rfl) (ev_cons (n := 1) (m := 0) (Bld.ix (M := MF f q ns) (n := 1) (P := fun d => ∃ x, d = .s x) b15 (ed_var rfl) (ev_draw (m := (((ys.map PyD.s).filterMap (othF one)).length : Int)) (ed_var (i := 0) rfl) (b15.len (ed_var rfl)) (by omega) (by omega)) fun e pe => ?_) (ev_cons (n := 0) (m := 0) (mod_frac (z := 60 * le) (by decide) (by decide) (by omega) (ed_var (d := .i le) rfl) ed_int) (ev_cons (n := 0) (m := 0) (ed_var (d := dOpt o) rfl) ea_nil)))) ?_).imp ?_ (by omega)) ?_ e15 s15 (by omega) fun H16 us v d c16 p16 r16 hus t16 b16 e16 s16 hc16 => ?_
      · obtain ⟨k, rfl, k0, k1⟩ := pe
        obtain ⟨x, hx, hm⟩ := atI_lt k0 k1
        obtain ⟨y, hy, rfl⟩ := oth_mem hm
        exact ⟨k, .s y, rfl, hx, y, rfl⟩
      · rintro ds ⟨d1, r1, rfl, _, d2, r2, rfl, _, d3, r3, rfl, _, d4, r4, rfl, _, rfl⟩
        exact Nat.le_of_ble_eq_true rfl
      · rintro d ⟨ds, rfl, d1, r1, rfl, rfl, d2, r2, rfl, ⟨x, rfl⟩, d3, r3, rfl, rfl, d4, r4, rfl, rfl, rfl⟩
        exact ⟨⟨one, x, 60 * le, o⟩, rfl⟩
      · rw [List.length_map]
        omega
      · obtain ⟨lk, rfl⟩ := p16
        refine ⟨(((((e16.drop 9).drop 10).drop 11).drop 12).drop 13).drop 14, ⟨c16, by omega, s16⟩, _, (g15.on r16).addL hus b16, ?_⟩
        rw [List.length_append, List.length_singleton]
        omega
    · rintro σ9 H9 ⟨e9, ⟨c9, hc9, s9⟩, ls, g9, hll⟩
      rw [List.length_map, List.length_range] at hc9 hll
      dsimp only
      refine s_ret (n := 0) (P := (· = dFld ⟨hs, ls, src⟩)) (ed_tup (ea_cons (g9.hb.tup (ed_var rfl)) (ea_cons (g9.lb.tup (ed_var rfl)) (ea_cons (ed_var rfl) ea_nil)))) e9 s9 (by omega) fun v H10 d c10 p10 r10 hv s10 hc10 => ?_
      refine qq v d H10 c10 ⟨⟨hs, ls, src⟩, p10, ⟨by show (hs.map (·.name)).Nodup; rw [hns]; exact ynd, hrt, by show hs.length ≤ 6; omega, by show ls.length ≤ 20; omega⟩, fun z => ?_, fun x hx => ?_⟩ (g9.hb.rf.trans r10) s10 (by omega) hv
      · have z : hs = [] := z
        rw [z] at hsl
        simp at hsl
        omega
      · refine pool_ok _ (ysub _ ?_)
        rw [← hns]
        exact List.mem_map_of_mem hx
end
end K27
/-! The readings keep the promises: histories near. -/
namespace K27
open PySem PySem.Spec PyProof.Rows L2 KM
mutual
def toP : PyD → PyData
  | .i z => .int z
  | .s x => .str x
  | .n => .none
  | .b k => .bool k
  | .t ds => .tuple (toPs ds)
  | .r _ => .none
def toPs : List PyD → List PyData
  | [] => []
  | d :: ds => toP d :: toPs ds
end
mutual
def okP : PyD → Bool
  | .s x => PyData.strOk x
  | .r _ => false
  | .t ds => okPs ds
  | .i _ => true
  | .n => true
  | .b _ => true
def okPs : List PyD → Bool
  | [] => true
  | d :: ds => okP d && okPs ds
end
mutual
theorem okP_lay : ∀ {d : PyD}, okP d = true → (toP d).canLay0 = true
  | .i z, _ => by simp [toP, PyData.canLay0]
  | .s x, h => by simpa [toP, PyData.canLay0, okP] using h
  | .n, _ => by simp [toP, PyData.canLay0]
  | .b k, _ => by simp [toP, PyData.canLay0]
  | .t ds, h => by
    have := okPs_lay (ds := ds) (by simpa [okP] using h)
    simpa [toP, PyData.canLay0] using this
  | .r v, h => by simp [okP] at h
theorem okPs_lay : ∀ {ds : List PyD}, okPs ds = true → PyData.canLayAll0 (toPs ds) = true
  | [], _ => by simp [toPs, PyData.canLayAll0]
  | d :: ds, h => by
    simp only [okPs, Bool.and_eq_true] at h
    have h1 := okP_lay h.1
    have h2 := okPs_lay h.2
    simp only [toPs, PyData.canLayAll0, h1, h2, Bool.and_self]
end
theorem okPs_map {α : Type} {g : α → PyD} : ∀ {l : List α}, (∀ x ∈ l, okP (g x) = true) → okPs (l.map g) = true
  | [], _ => by simp [okPs]
  | a :: l, h => by
    simp only [List.map_cons, okPs, h a (List.mem_cons_self ..), okPs_map fun x hx => h x (List.mem_cons_of_mem _ hx), Bool.and_self]
section
variable {M : Md} {K : PySem.W.Frag} {vs : List V} {H H' H0 HB : Hp} {Q : VK} {E : XK} {n : Nat} {Δ : List (Option PyD)} {te td ty tx tv tb tw ta ti tf tm : TE} {σ : L2.St} {D : Ends} {d e : PyD} {f q : Addr} {ns : List Int} {c : Nat}
mutual
theorem Dt.dp : ∀ {v : V} {d : PyD}, Dt K H v d → okP d = true → Dp K H v (toP d)
  | _, _, .i z, _ => by simp only [toP]; exact .int z
  | _, _, .s x, _ => by simp only [toP]; exact .str x
  | _, _, .n, _ => by simp only [toP]; exact .non
  | _, _, .b k, _ => by simp only [toP]; exact .bl k
  | _, _, .t h hs, ok => by
    simp only [toP]
    exact .tup h (Dts.dp hs (by simpa [okP] using ok))
  | _, _, .r v, ok => by simp [okP] at ok
theorem Dts.dp : ∀ {vs : List V} {ds : List PyD}, Dts K H vs ds → okPs ds = true → DpAll K H vs (toPs ds)
  | _, _, .nil, _ => by simp only [toPs]; exact .nil
  | _, _, .cons h hs, ok => by
    simp only [okPs, Bool.and_eq_true] at ok
    simp only [toPs]
    exact .cons (Dt.dp h ok.1) (Dts.dp hs ok.2)
end
theorem evt_ok {e : EvtS} (h : PyData.strOk e.house = true) : okP (dEvt e) = true := by
  obtain ⟨hn, st, dd⟩ := e
  have h : PyData.strOk hn = true := h
  have h1 : okP (dDeed dd) = true := by
    cases dd with
    | mark =>
      simp only [dDeed, okP, okPs, Bool.and_true]
      decide +kernel
    | send l =>
      simp only [dDeed, okP, okPs, Bool.and_true]
      decide +kernel
    | hear l =>
      simp only [dDeed, okP, okPs, Bool.and_true]
      decide +kernel
  simp only [dEvt, okP, okPs, h, h1, fr, Bool.and_self]
theorem evt_depth {e : EvtS} : (toP (dEvt e)).depth ≤ 10 := by
  obtain ⟨hn, st, dd⟩ := e
  cases dd <;> simp [dEvt, dDeed, fr, toP, toPs, PyData.depth, PyData.depthAll]
theorem evts_depth : ∀ {l : List EvtS}, PyData.depthAll (toPs (l.map dEvt)) ≤ 10
  | [] => by simp [toPs, PyData.depthAll]
  | e :: l => by
    have h1 := evt_depth (e := e)
    have h2 := evts_depth (l := l)
    simp only [List.map_cons, toPs, PyData.depthAll]
    omega
/-- events != () -/
theorem w_neEv {l : List EvtS} (hok : ∀ e ∈ l, PyData.strOk e.house = true) (ho : EvD M K te Δ H (.t (l.map dEvt))) : EvD M K (tOp (rNeD K) te (tTup tNil)) Δ H (.b (!l.isEmpty)) := fun σ H1 c r1 e1 s1 hc Q q => by
  refine ho σ H1 c r1 e1 s1 hc _ fun x H2 d c2 p2 r2 s2 hc2 hx => ?_
  subst p2
  refine ⟨by decide, fun t ht => ?_⟩
  have x3 : Exh H2 (upd H2 t (.tup [])) := Exh.new ht
  have okk := okPs_map (g := dEvt) (l := l) fun e he => evt_ok (hok e he)
  have dp := (hx.mono x3.tp).dp (by simpa [okP] using okk)
  have hd := evts_depth (l := l)
  refine ⟨toP (.t (l.map dEvt)), .tuple [], dp, .tup (SqT.of upd_same) .nil, ?_, by decide +kernel, ?_⟩
  · unfold SeqAt.shaped
    rw [Bool.and_eq_true]
    refine ⟨okP_lay (by simpa [okP] using okk), decide_eq_true ?_⟩
    simp only [toP, PyData.depth]
    omega
  · have : (!PyData.eqv (toP (.t (l.map dEvt))) (.tuple [])) = !l.isEmpty := by
      cases l with
      | nil => simp [toP, toPs, PyData.eqv, PyData.eqvAll]
      | cons a r => simp [toP, toPs, PyData.eqv, PyData.eqvAll]
    rw [this]
    exact q _ _ _ c2 rfl (r2.trans x3.rf) (M.mono _ _ _ x3 s2) hc2 (.b _)
/-- list(t) -/
theorem el_listT {ds : List PyD} (h : EvD M K te Δ H (.t ds)) : ElD M K (tCB (bList K) (tCons te tNil)) Δ H ds := fun σ H1 c r1 e1 s1 hc Q q => by
  refine h σ H1 c r1 e1 s1 (by omega) _ fun x H2 d c2 p2 r2 s2 hc2 hx => ?_
  subst p2
  obtain ⟨a, vs, rfl, hs, hd⟩ := hx.tup
  refine ⟨a, vs, rfl, .inr hs, fun l hl => ?_⟩
  have x3 := Exh.new (o := .lst vs) hl
  exact q l _ vs ds c2 rfl (rf_none r2 s2 hl) upd_same (hd.mono x3.tp) (r2.trans x3.rf) (M.mono _ _ _ x3 s2) hc2
theorem Dts.set : ∀ {vs : List V} {ds : List PyD} {k : Nat} {v : V} {d : PyD}, Dts K H vs ds → Dt K H v d → Dts K H (vs.set k v) (ds.set k d)
  | _, _, _, _, _, .nil, _ => .nil
  | _, _, 0, _, _, .cons h hs, g => .cons g hs
  | _, _, k + 1, _, _, .cons h hs, g => .cons h (Dts.set hs g)
/-- xs[i] = e -/
theorem s_setB {l : Addr} {ds : List PyD} {k : Nat} {P : PyD → Prop} (b : Bld M K H0 H l ds) (ho : EvD M K ta Δ H (.r (.ref l))) (hi : EvD M K ti Δ H (.i (k : Int))) (hk : k < ds.length) (h : Ev M K te Δ H n P) (e : EnvD K σ H Δ) (s : M.Rs H c) (hc : c + n ≤ CM)
    (kk : ∀ H' d c', P d → Tp H H' → Bld M K H0 H' l (ds.set k d) → EnvD K σ H' Δ → M.Rs H' c' → c' ≤ c + n → D.nx σ H') : tAsg te (gSub ta ti rSetL) D σ H := by
  refine h σ H c (Rf.refl _) e s hc _ fun v H1 d c1 p1 r1 s1 hc1 hv => ?_
  refine ho σ H1 c1 r1 (e.tp r1.tup) s1 (by omega) _ fun x H2 d2 c2 p2 r2 s2 hc2 hx => ?_
  subst p2
  cases hx.raw
  refine hi σ H2 c2 (r1.trans r2) ((e.tp r1.tup).tp r2.tup) s2 (by omega) _ fun y H3 d3 c3 p3 r3 s3 hc3 hy => ?_
  subst p3
  cases hy.int
  have r := (r1.trans r2).trans r3
  have b3 := b.on r
  obtain ⟨us, hu, hd⟩ := b3.at_
  refine ⟨l, us, (k : Int), k, rfl, rfl, hu, ?_, ?_⟩
  · unfold ixN
    rw [if_pos (by omega), if_pos (by rw [hd.length]; omega)]
    rfl
  · exact kk _ d c3 p1 (r.tup.trans (Tp.updL hu)) (b3.set (hd.set (hv.mono (r2.trans r3).tup))) (b3.env (((e.tp r1.tup).tp r2.tup).tp r3.tup)) (b3.rs s3) (by omega)
theorem len_law_barred (h : sp_law_barred K vs H Q E) : vs.length = 2 := by
  obtain ⟨_, _, _, _, _, ⟨_, _, _, rfl⟩, hd, _⟩ := h
  exact hd.length
theorem rd_law_barred (kx : Kx K) (h : sp_law_barred K vs H Q E) : t_law_barred K { nx := fun _ H' => Q .non H', rt := Q } (start N_law_barred vs) H := by
  obtain ⟨f, q, ns, c, ds, ⟨h, n, ⟨w, hn, hok⟩, rfl⟩, hd, s0, hc, qq⟩ := h
  have s0 : (MF f q ns).Rs H c := s0
  have wl := w.len
  have fin : ∀ v (h' : HistS) H' c', okHist h' n → Rf (· = f) H H' → FeedAt f q ns H' c' → c' ≤ c + 10 → Dt K H' v (dHist h') → Q v H' := fun v h' H' c' ok r s hc' hv => by
    refine qq v (dHist h') H' c' (fun f2 h2 n2 ok2 e => ⟨h', rfl, ?_⟩) r s hc' hv
    injection e with _ e
    injection e with e
    injection e with e
    injection e with _ e
    injection e with e
    injection e with e
    have := congrArg List.length e
    rw [List.length_map, List.length_map] at this
    have := ok2.2.1
    have : n2 = n := by omega
    rw [this]
    exact ok
  have evok : ∀ e ∈ h.ev, PyData.strOk e.house = true := fun e he => by
    obtain ⟨k, hk, e2⟩ := List.getElem_of_mem he
    have := (w.ev k e (by rw [List.getElem?_eq_getElem hk, e2])).house
    obtain ⟨x, hx, e3⟩ := List.mem_map.mp this
    rw [← e3]
    exact hok x hx
  refine sq (s_asgT (M := MF f q ns) (n := 0) (is := [2, 3]) (PA := (· = [dFld h.f, .t (h.ev.map dEvt)])) ((ed_var (d := dHist h) rfl).imp fun d e => ⟨_, e, rfl⟩) (fun ds p => by rw [p]; rfl) (EnvD.st hd) s0 (by omega) fun σ1 H1 ds1 c1 p1 r1 e1 s1 hc1 => ?_)
  subst p1
  dsimp only
  refine sq (s_par (M := MF f q ns) (n := 2) (PA := fun ds => ∃ k a : Int, ds = [.i k, .i a] ∧ 0 ≤ a ∧ a < max 1 (h.ev.length : Int)) ((ev_cons (n := 1) (m := 1) (ev_draw (m := 3) (ed_var rfl) ed_int (by decide) (by decide)) (ev_cons (n := 1) (m := 0) (ev_draw (m := max 1 ((h.ev.map dEvt).length : Int)) (ed_var rfl) (w_max ed_int (w_len (ed_var rfl))) (by omega) (by rw [List.length_map]; omega)) ea_nil)).imp ?_) (fun ds ⟨k, a, e, _⟩ => ⟨_, _, e⟩) e1 s1 (by omega) fun σ2 H2 d2 d2' c2 ⟨wy, at_, p2, a0, a1⟩ r2 e2 s2 hc2 => ?_)
  · rintro ds ⟨d1, r1, rfl, ⟨k, rfl, _, _⟩, d2, r2, rfl, ⟨a, rfl, a0, a1⟩, rfl⟩
    rw [List.length_map] at a1
    exact ⟨k, a, rfl, a0, a1⟩
  cases p2
  dsimp only
  refine sq (s_if (M := MF f q ns) (n := 0) (PB := fun b => b = true → h.ev ≠ []) (?_ : EvT _ _ _ _ _ _ _) e2 s2 (by omega) (fun hb H3 c3 r3 e3 s3 hc3 => ?_) fun _ H3 c3 r3 e3 s3 hc3 => ?_)
  · have t := et_and (M := MF f q ns) (K := K) (H := H2) (et_test (w_eqI (ed_var (i := 4) (d := .i wy) (Δ := (((setN ([.r (.ref f), dHist h].map some ++ List.replicate (N_law_barred.length - [PyD.r (.ref f), dHist h].length) none) [2, 3] [dFld h.f, .t (h.ev.map dEvt)]).set 4 (some (.i wy))).set 5 (some (.i at_)))) rfl) (ed_int (z := 0)))) fun _ => et_test (w_neEv evok (ed_var (i := 3) rfl))
    exact fun σ H1 c r e s hc Q q => t σ H1 c r e s hc Q fun b H2 c' p => q b H2 c' fun hb z => by
      subst p
      rw [z] at hb
      simp at hb
  · have hne := hb rfl
    have npos : 0 < h.ev.length := List.length_pos_iff.mpr hne
    have a1 : at_ < (h.ev.length : Int) := by omega
    obtain ⟨A, rfl⟩ := Int.eq_ofNat_of_zero_le a0
    have hA : A < h.ev.length := by omega
    obtain ⟨eA, hEA⟩ : ∃ e, h.ev[A]? = some e := ⟨h.ev[A], List.getElem?_eq_getElem hA⟩
    refine sq (s_asg (M := MF f q ns) (n := 1) (P := fun d => ∃ m, d = .i m) ((ev_op (n := 0) (m := 1) (ed_int (z := 1)) (ev_draw (m := 40) (ed_var rfl) ed_int (by decide) (by decide)) fun d e pd pe => ?_).imp (m := 1) (fun d p => p) (by omega)) e3 s3 (by omega) fun σ4 H4 d4 c4 p4 r4 e4 s4 hc4 => ?_)
    · obtain ⟨k, rfl, _⟩ := pe
      subst pd
      exact fun x y H1 Q r hx hy qx => rop_I0 (M := MF f q ns) (K := K) (H := H3) (fun H1 _ => .i (1 + k)) x y H1 Q r hx hy fun v H2 u pu => qx v H2 u ⟨_, pu⟩
    obtain ⟨more, rfl⟩ := p4
    dsimp only
    refine sq (s_asgB (M := MF f q ns) (el_listT (ds := h.ev.map dEvt) (ed_var rfl)) e4 s4 (by omega) fun σ5 H5 l c5 b5 e5 s5 hc5 => ?_)
    dsimp only
    refine sq (s_for (M := MF f q ns) (n := 0) (it_rng2 (i := A) (j := h.ev.length) (ea_cons (ed_var rfl) (ea_cons ((w_len (ds := h.ev.map dEvt) (ed_var rfl)).is (by rw [List.length_map])) ea_nil)) (by omega) (by omega)) e5 s5 (by omega) fun H6 ds6 c6 pd6 r6 e6 s6 hc6 => ?_)
    subst pd6
    refine ⟨fun i σ' H' => EnvD K σ' H' [some (.r (.ref f)), some (dHist h), some (dFld h.f), some (.t (h.ev.map dEvt)), some (.i wy), some (.i (A : Int)), some (.i more), some (.r (.ref l)), none, none, none, none, none, none, none, none, none] ∧ (∃ c', c' ≤ c6 ∧ (MF f q ns).Rs H' c') ∧ ∃ ev' : List EvtS, Bld (MF f q ns) K H4 H' l (ev'.map dEvt) ∧ ev'.length = h.ev.length ∧ ∀ (k : Nat) (e' : EvtS), ev'[k]? = some e' → ∃ e, h.ev[k]? = some e ∧ e'.house = e.house ∧ e'.deed = e.deed ∧ ∃ q, e'.stamp = 30 * q,
      ⟨e6, ⟨c6, Nat.le_refl _, s6⟩, h.ev, b5.on r6, rfl, fun k e he => ⟨e, he, rfl, rfl, (w.ev k e he).stamp⟩⟩, fun _ _ _ _ => trivial, ?_, ?_⟩
    · rintro i d σ' H7 H8 v hdi ⟨e7, ⟨c7, hc7, s7⟩, ev', b7, hl7, hev⟩ x8 hv
      have hi := (List.getElem?_eq_some_iff.mp hdi).1
      rw [List.length_map, List.length_range] at hi
      rw [List.getElem?_map, List.getElem?_range hi] at hdi
      cases hdi
      have hAi : A + i < h.ev.length := by omega
      obtain ⟨eN, hEN⟩ : ∃ e, h.ev[A + i]? = some e := ⟨h.ev[A + i], List.getElem?_eq_getElem hAi⟩
      obtain ⟨qn, hqn⟩ := (w.ev _ eN hEN).stamp
      have e8 := (e7.tp x8.tp).set (i := 8) hv
      have s8 := (MF f q ns).mono _ _ _ x8 s7
      refine sq (s_asgT (M := MF f q ns) (n := 0) (is := [9, 10, 11]) (PA := (· = [.s eN.house, fr eN.stamp, dDeed eN.deed])) ((w_ixv (ed_var rfl) (ed_var (d := .i ((A + i : Nat) : Int)) rfl) (atI_map (f := dEvt) hEN)).imp fun d e => ⟨_, e, rfl⟩) (fun ds p => by rw [p]; rfl) e8 s8 (by omega) fun σ9 H9 ds9 c9 p9 r9 e9 s9 hc9 => ?_)
      subst p9
      dsimp only
      have b9 := (b7.on x8.rf).on r9
      refine s_if (M := MF f q ns) (n := 0) (et_test (w_eqS (ed_var rfl) (w_ix (w_ixv (ed_var rfl) (ed_var (d := .i (A : Int)) rfl) (atI_map (f := dEvt) hEA)) rfl))) e9 s9 (by omega) (fun _ H10 c10 r10 e10 s10 hc10 => ?_) fun _ H10 c10 r10 e10 s10 hc10 => ?_
      · refine s_setB (n := 0) (k := A + i) (P := (· = dEvt ⟨eN.house, 30 * (qn + more), eN.deed⟩)) (b9.on r10) (ed_var rfl) (ed_var rfl) (by rw [List.length_map]; omega) (ed_tup (ea_cons (ed_var rfl) (ea_cons (mod_frac (a := qn + more) (z := 30 * (qn + more)) (by decide) (by decide) (by omega) (((w_add (w_div (w_mul (w_ix (ed_var (d := fr eN.stamp) rfl) rfl) ed_int (mul64r (by decide) (by decide))) (w_ix (ed_var (d := fr eN.stamp) rfl) rfl) (fdd _)) (ed_var (d := .i more) rfl))).is (by rw [quarter hqn])) ed_int) (ea_cons (ed_var rfl) ea_nil)))) e10 s10 (by omega) fun H11 d c11 p11 t11 b11 e11 s11 hc11 => ⟨(((e11.drop 8).drop 9).drop 10).drop 11, ⟨c11, by omega, s11⟩, ev'.set (A + i) ⟨eN.house, 30 * (qn + more), eN.deed⟩, ?_, by rw [List.length_set]; exact hl7, fun k e' he' => ?_⟩
        · subst p11
          rw [← List.map_set] at b11
          exact b11
        · by_cases ck : A + i = k
          · subst ck
            rw [List.getElem?_set_self (by omega)] at he'
            cases he'
            exact ⟨eN, hEN, rfl, rfl, _, rfl⟩
          · rw [List.getElem?_set_ne ck] at he'
            exact hev k e' he'
      · exact ⟨(((e10.drop 8).drop 9).drop 10).drop 11, ⟨c10, by omega, s10⟩, ev', b9.on r10, hl7, hev⟩
    · rintro σ7 H7 ⟨e7, ⟨c7, hc7, s7⟩, ev', b7, hl7, hev⟩
      dsimp only
      refine s_ret (n := 0) (P := (· = dHist ⟨h.f, ev'⟩)) (ed_tup (ea_cons (ed_var rfl) (ea_cons (b7.tup (ed_var rfl)) ea_nil))) e7 s7 (by omega) fun v H8 d c8 p8 r8 hv s8 hc8 => ?_
      subst p8
      have w' : WF (⟨h.f, ev'⟩ : HistS) := WF.near (f := h.f) (ev := h.ev) w rfl rfl hl7 hev
      refine fin v ⟨h.f, ev'⟩ H8 c8 ⟨w', hl7.trans hn, hok⟩ ((((((r1.trans r2).trans r3).trans r4).trans b7.rf)).trans r8) s8 (by omega) hv
  · dsimp only [tNext]
    refine sq (s_asgB (M := MF f q ns) (el_lst ea_nil) e3 s3 (by omega) fun σ4 H4 l c4 b4 e4 s4 hc4 => ?_)
    dsimp only
    refine sq (s_for (M := MF f q ns) (n := 0) (it_tupD (ds := h.f.links.map dLnk) (w_ix (ed_var (d := dFld h.f) rfl) rfl)) e4 s4 (by omega) fun H5 ds5 c5 pd5 r5 e5 s5 hc5 => ?_)
    subst pd5
    have ll := w.f.lln
    refine ⟨fun i σ' H' => EnvD K σ' H' [some (.r (.ref f)), some (dHist h), some (dFld h.f), some (.t (h.ev.map dEvt)), some (.i wy), some (.i at_), none, none, none, none, none, none, some (.r (.ref l)), none, none, none, none] ∧ Tp H5 H' ∧ (∃ c', c' ≤ c5 ∧ (MF f q ns).Rs H' c') ∧ ∃ ls : List (Lnk PySem.Str), Bld (MF f q ns) K H3 H' l (ls.map dLnk) ∧ ls.length = i,
      ⟨e5, Tp.refl _, ⟨c5, Nat.le_refl _, s5⟩, [], b4.on r5, rfl⟩, fun _ _ _ h => h.2.1, ?_, ?_⟩
    · rintro i d σ' H6 H7 v hdi ⟨e6, t6, ⟨c6, hc6, s6⟩, ls, b6, hl6⟩ x7 hv
      have hi := (List.getElem?_eq_some_iff.mp hdi).1
      rw [List.length_map] at hi
      obtain ⟨L, hL⟩ : ∃ L, h.f.links[i]? = some L := ⟨h.f.links[i], List.getElem?_eq_getElem hi⟩
      rw [List.getElem?_map, hL] at hdi
      cases hdi
      have s7 := (MF f q ns).mono _ _ _ x7 s6
      have b7 := b6.on x7.rf
      refine gTup_ok (is := [13, 14, 15, 16]) (ds := [.s L.src, .s L.dst, fr L.least, dOpt L.most]) hv rfl (e6.tp x7.tp) fun σ8 e8 => ?_
      have app : ∀ (te : TE) (H8 : Hp) (c8 : Nat) (L' : Lnk PySem.Str), Rf (MF f q ns).F H7 H8 → EnvD K σ8 H8 (setN [some (.r (.ref f)), some (dHist h), some (dFld h.f), some (.t (h.ev.map dEvt)), some (.i wy), some (.i at_), none, none, none, none, none, none, some (.r (.ref l)), none, none, none, none] [13, 14, 15, 16] [.s L.src, .s L.dst, fr L.least, dOpt L.most]) → (MF f q ns).Rs H8 c8 → c8 ≤ c5 →
          EvD (MF f q ns) K te (setN [some (.r (.ref f)), some (dHist h), some (dFld h.f), some (.t (h.ev.map dEvt)), some (.i wy), some (.i at_), none, none, none, none, none, none, some (.r (.ref l)), none, none, none, none] [13, 14, 15, 16] [.s L.src, .s L.dst, fr L.least, dOpt L.most]) H8 (dLnk L') →
          tDrop (tBM K "list" rAppend (tVar 12) (tCons te tNil)) { nx := fun σ' H' => EnvD K σ' H' [some (.r (.ref f)), some (dHist h), some (dFld h.f), some (.t (h.ev.map dEvt)), some (.i wy), some (.i at_), none, none, none, none, none, none, some (.r (.ref l)), none, none, none, none] ∧ Tp H5 H' ∧ (∃ c', c' ≤ c5 ∧ (MF f q ns).Rs H' c') ∧ ∃ ls : List (Lnk PySem.Str), Bld (MF f q ns) K H3 H' l (ls.map dLnk) ∧ ls.length = i + 1, rt := Q } σ8 H8 := fun te H8 c8 L' r8 ev8 s8 hc8 hte => by
        refine s_appX (n := 0) (P := (· = dLnk L')) (b7.on r8) (ed_var rfl) hte (by rw [List.length_map]; omega) ev8 s8 (by omega) fun H9 us v d c9 p9 r9 hus t9 b9 e9 s9 hc9 => ⟨(((e9.drop 13).drop 14).drop 15).drop 16, (((t6.trans x7.tp).trans r8.tup).trans r9.tup).trans t9, ⟨c9, by omega, s9⟩, ls ++ [L'], ?_, by rw [List.length_append, hl6]; rfl⟩
        subst p9
        rw [List.map_append]
        exact b9
      refine s_if (M := MF f q ns) (n := 0) (et_test (w_eqI (ed_var (d := .i wy) rfl) ed_int)) e8 s7 (by omega) (fun _ H9 c9 r9 e9 s9 hc9 => ?_) fun _ H9 c9 r9 e9 s9 hc9 => ?_
      · refine app _ H9 c9 ⟨L.src, L.dst, 60 * (fn L.least * 2 / fd L.least + 3), L.most.map fun _ => 11880⟩ r9 e9 s9 (by omega) (ed_tup (ea_cons (ed_var rfl) (ea_cons (ed_var rfl) (ea_cons (mod_frac (z := 60 * (fn L.least * 2 / fd L.least + 3)) (by decide) (by decide) (by omega) (w_add (w_div (w_mul (w_ix (ed_var (d := fr L.least) rfl) rfl) ed_int (mul64r (by decide) (by decide))) (w_ix (ed_var (d := fr L.least) rfl) rfl) (fdd _)) ed_int) ed_int) (ea_cons ?_ ea_nil)))))
        cases hm : L.most with
        | none => exact ev_if ((et_test (w_isT (ed_var rfl))).is rfl) (fun _ => ed_non) fun z => by cases z
        | some m => exact ev_if (b := false) (et_test (w_isF (ds := [.i (fn m), .i (fd m)]) (ed_var rfl))) (fun z => by cases z) fun _ => Ev.is (d := .t [.i 99, .i 1]) (f := fr 11880) (ed_tup (ea_cons ed_int (ea_cons ed_int ea_nil))) rfl
      · exact app _ H9 c9 ⟨L.src, L.dst, L.least, some L.least⟩ r9 e9 s9 (by omega) (ed_tup (ea_cons (ed_var rfl) (ea_cons (ed_var rfl) (ea_cons (ed_var rfl) (ea_cons (ed_var rfl) ea_nil)))))
    · rintro σ6 H6 ⟨e6, t6, ⟨c6, hc6, s6⟩, ls, b6, hl6⟩
      rw [List.length_map] at hl6
      dsimp only
      refine s_ret (n := 0) (P := (· = dHist ⟨⟨h.f.homes, ls, h.f.source⟩, h.ev⟩)) (ed_tup (ea_cons (ed_tup (ea_cons (w_ix (ed_var (d := dFld h.f) rfl) rfl) (ea_cons (b6.tup (ed_var rfl)) (ea_cons (w_ix (ed_var (d := dFld h.f) rfl) rfl) ea_nil)))) (ea_cons (ed_var rfl) ea_nil))) e6 s6 (by omega) fun v H7 d c7 p7 r7 hv s7 hc7 => ?_
      subst p7
      have w' : WF (⟨⟨h.f.homes, ls, h.f.source⟩, h.ev⟩ : HistS) := WF.near (f := h.f) (ev := h.ev) w rfl hl6 rfl fun k e he => ⟨e, he, rfl, rfl, (w.ev k e he).stamp⟩
      exact fin v ⟨⟨h.f.homes, ls, h.f.source⟩, h.ev⟩ H7 c7 ⟨w', hn, hok⟩ ((((r1.trans r2).trans r3).trans b6.rf).trans r7) s7 (by omega) hv
end
end K27
/-! The readings keep the promises: histories that are drawn. -/
namespace K27
open PySem PySem.Spec PyProof.Rows L2 KM
/-- a dict at a that was made behind H0 -/
structure DkA (M : Md) (K : PySem.W.Frag) (H0 H : Hp) (a : Addr) (F : Key → Option PyD) (m : Nat) : Prop where
  fr : H0 a = none
  rf : Rf M.F H0 H
  at_ : ∃ kvs, H a = some (.dK kvs) ∧ DkF K H kvs F ∧ kvs.length ≤ m
  nf : ¬ M.F a
  s0 : ∃ c, M.Rs H0 c
def CkF (cl : PySem.Str → Option (Int × Int)) : Key → Option PyD
  | .inr nm => (cl nm).map fun p => .t [.i p.1, .i p.2]
  | .inl _ => none
theorem CkF_put {cl : PySem.Str → Option (Int × Int)} {nm : PySem.Str} {z s : Int} : ptN (CkF cl) (.inr nm) (some (.t [.i z, .i s])) = CkF (ptN cl nm (some (z, s))) := by
  funext k
  cases k with
  | inl i =>
    show (if (Sum.inl i : Key) = .inr nm then _ else CkF cl (.inl i)) = CkF _ (.inl i)
    rw [if_neg fun z => by cases z]
    rfl
  | inr x =>
    show (if (Sum.inr x : Key) = .inr nm then some (PyD.t [.i z, .i s]) else CkF cl (.inr x)) = ((if x = nm then some (z, s) else cl x).map fun p => PyD.t [.i p.1, .i p.2])
    by_cases c : x = nm
    · rw [if_pos (by rw [c]), if_pos c]
      rfl
    · rw [if_neg fun e => c (by injection e), if_neg c]
      rfl
def dTm (z : Int) : PyD := .t [.i z, .i 1]
theorem fr120 (z : Int) : fr (120 * z) = dTm z := by
  have h1 : gz (120 * z) = 120 := by
    unfold gz
    rw [Int.natAbs_mul]
    exact Nat.gcd_eq_right (Nat.dvd_mul_right 120 z.natAbs)
  have h2 : fn (120 * z) = z := by
    unfold fn
    rw [h1]
    show 120 * z / 120 = z
    omega
  have h3 : fd (120 * z) = 1 := by
    unfold fd
    rw [h1]
    rfl
  unfold fr dTm
  rw [h2, h3]
def ownF (nm : PySem.Str) : PyD → Option PyD
  | .t [.i n, .t (.s src :: _)] => if src = nm then some (.i n) else none
  | _ => none
theorem own_mem {nm : PySem.Str} {ls : List (Lnk PySem.Str)} {d : PyD} (h : d ∈ (enD (ls.map dLnk)).filterMap (ownF nm)) : ∃ k, k < ls.length ∧ d = dInt k := by
  obtain ⟨e, he, h⟩ := List.mem_filterMap.mp h
  obtain ⟨i, hi, e2⟩ := List.getElem_of_mem he
  have hi2 : (enD (ls.map dLnk))[i]? = some e := by rw [List.getElem?_eq_getElem hi, e2]
  rw [enD_at, List.getElem?_map] at hi2
  cases hl : ls[i]? with
  | none =>
    rw [hl] at hi2
    cases hi2
  | some L =>
    rw [hl] at hi2
    have hi2 : some (PyD.t [.i (i : Int), dLnk L]) = some e := hi2
    injection hi2 with hi2
    subst hi2
    have h : (if L.src = nm then some (PyD.i (i : Int)) else none) = some d := h
    by_cases c : L.src = nm
    · rw [if_pos c] at h
      injection h with h
      exact ⟨i, (List.getElem?_eq_some_iff.mp hl).1, h.symm⟩
    · rw [if_neg c] at h
      cases h
theorem own_len {nm : PySem.Str} {ls : List (Lnk PySem.Str)} : ((enD (ls.map dLnk)).filterMap (ownF nm)).length ≤ ls.length := by
  have := List.length_filterMap_le (ownF nm) (enD (ls.map dLnk))
  rw [enD_length, List.length_map] at this
  exact this
theorem map_dInt {ds : List PyD} : (∀ d ∈ ds, ∃ k : Nat, d = dInt k) → ∃ ks : List Nat, ds = ks.map dInt := by
  induction ds with
  | nil => exact fun _ => ⟨[], rfl⟩
  | cons d ds ih =>
    intro h
    obtain ⟨k, rfl⟩ := h d (List.mem_cons_self ..)
    obtain ⟨ks, rfl⟩ := ih fun d hd => h d (List.mem_cons_of_mem _ hd)
    exact ⟨k :: ks, rfl⟩
section
variable {M : Md} {K : PySem.W.Frag} {vs : List V} {H H' H0 HB : Hp} {Q : VK} {E : XK} {n m : Nat} {Δ : List (Option PyD)} {te td ty tx tv tb tw ta ti tf tm : TE} {σ : L2.St} {D : Ends} {d e : PyD} {f q a : Addr} {ns : List Int} {c : Nat} {F : Key → Option PyD} {P P' : PyD → Prop} {k : Key}
theorem DkA.on (b : DkA M K H0 H a F m) (r : Rf M.F H H') : DkA M K H0 H' a F m := by
  obtain ⟨kvs, h1, h2, h3⟩ := b.at_
  exact ⟨b.fr, b.rf.trans r, ⟨kvs, r.keep _ _ b.nf h1, h2.mono r.tup, h3⟩, b.nf, b.s0⟩
theorem DkA.other {p : Addr} {o : HO} (b : DkA M K H0 H a F m) (hp : H0 p = none) (ne : p ≠ a) (t : Tp H (upd H p o)) : DkA M K H0 (upd H p o) a F m := by
  obtain ⟨kvs, h1, h2, h3⟩ := b.at_
  refine ⟨b.fr, ⟨fun x o f h => ?_, b.rf.tup.trans t⟩, ⟨kvs, ?_, h2.mono t, h3⟩, b.nf, b.s0⟩
  · rw [upd_ne (ne_of_none h hp)]
    exact b.rf.keep x o f h
  · rw [upd_ne fun z => ne z.symm]
    exact h1
theorem w_dkin (b : DkA M K H0 H a F m) (hd : EvD M K td Δ H (.r (.ref a))) (hy : EvD M K ty Δ H (keyD k)) : EvD M K (tDIn ty td) Δ H (.b (F k).isSome) := fun σ H1 c r1 e1 s1 hc Q q => by
  refine hy σ H1 c r1 e1 s1 (by omega) _ fun y H2 u c2 p2 r2 s2 hc2 hy => ?_
  refine hd σ H2 c2 (r1.trans r2) (e1.tp r2.tup) s2 (by omega) _ fun x H3 e c3 p3 r3 s3 hc3 hx => ?_
  subst p2 p3
  cases hx.raw
  cases hy.key
  obtain ⟨kvs, h1, h2, h3⟩ := (b.on ((r1.trans r2).trans r3)).at_
  refine ⟨a, _, rfl, DGet.k h1, q _ H3 _ c3 rfl (r2.trans r3) s3 (by omega) ?_⟩
  have : (valV kvs k).isSome = (F k).isSome := by
    cases z : F k with
    | none => rw [(h2.2 k).1 z]; rfl
    | some d =>
      obtain ⟨v, hv, _⟩ := (h2.2 k).2 d z
      rw [hv]
      rfl
  rw [this]
  exact .b _
theorem w_dkget (b : DkA M K H0 H a F m) (hd : EvD M K td Δ H (.r (.ref a))) (hy : EvD M K ty Δ H (keyD k)) (hk : F k = some d) : EvD M K (tDGet td ty) Δ H d := fun σ H1 c r1 e1 s1 hc Q q => by
  refine hd σ H1 c r1 e1 s1 (by omega) _ fun x H2 u c2 p2 r2 s2 hc2 hx => ?_
  refine hy σ H2 c2 (r1.trans r2) (e1.tp r2.tup) s2 (by omega) _ fun y H3 e c3 p3 r3 s3 hc3 hy => ?_
  subst p2 p3
  cases hx.raw
  cases hy.key
  obtain ⟨kvs, h1, h2, h3⟩ := (b.on ((r1.trans r2).trans r3)).at_
  obtain ⟨v, hv, hvd⟩ := (h2.2 k).2 d hk
  exact ⟨a, v, rfl, by rw [← hv]; exact DGet.k h1, q v H3 _ c3 rfl (r2.trans r3) s3 (by omega) hvd⟩
theorem s_dkput (b : DkA M K H0 H a F m) (hm : m ≤ 1000) (hd : EvD M K td Δ H (.r (.ref a))) (hy : EvD M K ty Δ H (keyD k)) (hv : Ev M K tv Δ H n P) (e : EnvD K σ H Δ) (s : M.Rs H c) (hc : c + n ≤ CM)
    (kk : ∀ H1 kvs v d c', P d → Rf M.F H H1 → H1 a = some (.dK kvs) → Tp H1 (upd H1 a (.dK (putK kvs k v))) → DkA M K H0 (upd H1 a (.dK (putK kvs k v))) a (ptN F k (some d)) (m + 1) → EnvD K σ (upd H1 a (.dK (putK kvs k v))) Δ → M.Rs (upd H1 a (.dK (putK kvs k v))) c' → c' ≤ c + n → D.nx σ (upd H1 a (.dK (putK kvs k v)))) : sDPut td ty tv D σ H := by
  refine hv σ H c (Rf.refl _) e s (by omega) _ fun v H1 d c1 p1 r1 s1 hc1 hv => ?_
  refine hd σ H1 c1 r1 (e.tp r1.tup) s1 (by omega) _ fun x H2 u c2 p2 r2 s2 hc2 hx => ?_
  refine hy σ H2 c2 (r1.trans r2) ((e.tp r1.tup).tp r2.tup) s2 (by omega) _ fun y H3 w c3 p3 r3 s3 hc3 hy => ?_
  subst p2 p3
  cases hx.raw
  cases hy.key
  have r := (r1.trans r2).trans r3
  have b3 := b.on r
  obtain ⟨kvs, h1, h2, h3⟩ := b3.at_
  have t := Tp.updK (o := .dK (putK kvs k v)) h1
  have hl := length_putK kvs k v
  obtain ⟨c0, s0⟩ := b.s0
  refine ⟨a, _, rfl, DPut.k h1 (small1000 (by omega)), kk H3 kvs v d c3 p1 r h1 t ⟨b.fr, ⟨fun x o f h => ?_, b3.rf.tup.trans t⟩, ⟨_, upd_same, ((h2.put (hv.mono (r2.trans r3).tup)).mono t), by omega⟩, b.nf, b.s0⟩ (((e.tp r.tup)).tp t) (M.fresh _ _ _ _ _ _ s0 b.fr s3) (by omega)⟩
  rw [upd_ne (ne_of_none h b.fr)]
  exact b3.rf.keep x o f h
theorem RopD.imp {r : R2} (h : RopD M K r H d e P) (k : ∀ d, P d → P' d) : RopD M K r H d e P' := fun x y H1 Q r hx hy q => h x y H1 Q r hx hy fun v H2 u pu => q v H2 u (k u pu)
theorem rop_add {a b : Int} (hp : P (.i (a + b))) : RopD M K oAdd H (.i a) (.i b) P := RopD.imp (P := (· = .i (a + b))) (rop_I0 fun _ _ => .i _) fun _ e => by rw [e]; exact hp
theorem rop_sub {a b : Int} (hp : P (.i (a - b))) : RopD M K oSub H (.i a) (.i b) P := RopD.imp (P := (· = .i (a - b))) (rop_I0 fun _ _ => .i _) fun _ e => by rw [e]; exact hp
/-- a def that draws -/
theorem ev_feed {na : Nat} {args : PyD → List PyD → Prop} {PP : List PyD → PyD → Prop} {tl : TA} {ds : List PyD} (h : EaD (MF f q ns) K tl Δ H ds) (ha : args (.r (.ref f)) ds) : Ev (MF f q ns) K (tCall (spFeed K na args PP) [] E0 tl) Δ H na (fun d => PP ds d) := fun σ H1 c r1 e1 s1 hc Q qq => by
  refine h σ H1 c r1 e1 s1 (by omega) _ fun xs H2 ds' c2 p2 r2 s2 hc2 hxs => ?_
  subst p2
  rw [List.append_nil]
  exact ⟨f, q, ns, c2, _, ha, hxs, s2, by omega, fun v d H' c' p r s hc' hv => qq v H' d c' p (r2.trans r) s (by omega) hv⟩
theorem s_asgBL {tl : TE} {i : Nat} {PA : List PyD → Prop} (h : EvL M K tl Δ H n PA) (e : EnvD K σ H Δ) (s : M.Rs H c) (hc : c + n ≤ CM) (k : ∀ σ' H' p ds c', PA ds → Bld M K H H' p ds → EnvD K σ' H' (Δ.set i (some (.r (.ref p)))) → M.Rs H' c' → c' ≤ c + n → D.nx σ' H') : tAsg tl (gName i) D σ H :=
  s_asgL h e s hc fun σ' H' p vs ds c' pa h0 h1 hd r e' s' hc' => k σ' H' p ds c' pa (Bld.start h0 h1 hd r s) e' s' hc'
theorem ints_of {us : List V} {ks : List Nat} (h : Dts K H us (ks.map dInt)) : us = intsV ks := by
  induction ks generalizing us with
  | nil => exact h.nil'
  | cons k ks ih =>
    cases h with
    | cons h hs =>
      rw [ih hs, h.int]
      rfl
theorem w_neNilB {l : Addr} {ks : List Nat} (b : Bld M K H0 H l (ks.map dInt)) (ho : EvD M K te Δ H (.r (.ref l))) : EvD M K (tOp (rNeD K) te (tLst tNil)) Δ H (.b (!ks.isEmpty)) := fun σ H1 c r1 e1 s1 hc Q q => by
  refine ho σ H1 c r1 e1 s1 hc _ fun x H2 d c2 p2 r2 s2 hc2 hx => ?_
  subst p2
  cases hx.raw
  refine ⟨by decide, fun p hp => ?_⟩
  have x3 : Exh H2 (upd H2 p (.lst [])) := Exh.new hp
  obtain ⟨us, h1, h2⟩ := ((b.on (r1.trans r2)).on x3.rf).at_
  rw [ints_of h2] at h1
  refine ⟨.list (intsP ks), .list [], .lst (SqL.of h1) (intsP_dp ks), .lst (SqL.of upd_same) .nil, intsP_shaped ks, intsP_shaped [], ?_⟩
  have : (!PyData.eqv (.list (intsP ks)) (.list [])) = !ks.isEmpty := by
    rw [PyData.eqv]
    cases ks with
    | nil =>
      show (!PyData.eqvAll [] []) = false
      rw [PyData.eqvAll]
      rfl
    | cons a ws =>
      show (!PyData.eqvAll (.int (a : Int) :: intsP ws) []) = true
      rw [PyData.eqvAll]
      rfl
  rw [this]
  exact q _ _ _ c2 rfl (r2.trans x3.rf) (M.mono _ _ _ x3 s2) hc2 (.b _)
/-- the state of a drawn history -/
structure Dr (M : Md) (K : PySem.W.Frag) (H0 H : Hp) (ck sp ep tp : Addr) (cl : PySem.Str → Option (Int × Int)) (m : Nat) (sd : List (Nat × Nat × Int)) (ev : List EvtS) (nows : List Int) : Prop where
  cb : DkA M K H0 H ck (CkF cl) m
  sb : Bld M K H0 H sp (sd.map dSend)
  eb : Bld M K H0 H ep (ev.map dEvt)
  tb : Bld M K H0 H tp (nows.map dTm)
  n1 : ck ≠ sp
  n2 : ck ≠ ep
  n3 : ck ≠ tp
  n4 : sp ≠ ep
  n5 : sp ≠ tp
  n6 : ep ≠ tp
variable {ck sp ep tp : Addr} {cl : PySem.Str → Option (Int × Int)} {sd : List (Nat × Nat × Int)} {ev : List EvtS} {nows : List Int}
theorem Dr.on (g : Dr M K H0 H ck sp ep tp cl m sd ev nows) (r : Rf M.F H H') : Dr M K H0 H' ck sp ep tp cl m sd ev nows := ⟨g.cb.on r, g.sb.on r, g.eb.on r, g.tb.on r, g.n1, g.n2, g.n3, g.n4, g.n5, g.n6⟩
theorem Dr.addC (g : Dr M K H0 H ck sp ep tp cl m sd ev nows) {kvs kvs' : List (Key × V)} {cl' : PySem.Str → Option (Int × Int)} (hk : H ck = some (.dK kvs)) (b : DkA M K H0 (upd H ck (.dK kvs')) ck (CkF cl') (m + 1)) : Dr M K H0 (upd H ck (.dK kvs')) ck sp ep tp cl' (m + 1) sd ev nows := by
  have t := Tp.updK (o := .dK kvs') hk
  exact ⟨b, g.sb.other g.cb.fr g.n1 t, g.eb.other g.cb.fr g.n2 t, g.tb.other g.cb.fr g.n3 t, g.n1, g.n2, g.n3, g.n4, g.n5, g.n6⟩
theorem Dr.addS (g : Dr M K H0 H ck sp ep tp cl m sd ev nows) {x : Nat × Nat × Int} {us : List V} {v : V} (hu : H sp = some (.lst us)) (b : Bld M K H0 (upd H sp (.lst (us ++ [v]))) sp (sd.map dSend ++ [dSend x])) : Dr M K H0 (upd H sp (.lst (us ++ [v]))) ck sp ep tp cl m (sd ++ [x]) ev nows := by
  have t := Tp.updL (o := .lst (us ++ [v])) hu
  refine ⟨g.cb.other g.sb.fr (fun z => g.n1 z.symm) t, ?_, g.eb.other g.sb.fr g.n4 t, g.tb.other g.sb.fr g.n5 t, g.n1, g.n2, g.n3, g.n4, g.n5, g.n6⟩
  rw [List.map_append]
  exact b
theorem Dr.addE (g : Dr M K H0 H ck sp ep tp cl m sd ev nows) {x : EvtS} {us : List V} {v : V} (hu : H ep = some (.lst us)) (b : Bld M K H0 (upd H ep (.lst (us ++ [v]))) ep (ev.map dEvt ++ [dEvt x])) : Dr M K H0 (upd H ep (.lst (us ++ [v]))) ck sp ep tp cl m sd (ev ++ [x]) nows := by
  have t := Tp.updL (o := .lst (us ++ [v])) hu
  refine ⟨g.cb.other g.eb.fr (fun z => g.n2 z.symm) t, g.sb.other g.eb.fr (fun z => g.n4 z.symm) t, ?_, g.tb.other g.eb.fr g.n6 t, g.n1, g.n2, g.n3, g.n4, g.n5, g.n6⟩
  rw [List.map_append]
  exact b
theorem Dr.addT (g : Dr M K H0 H ck sp ep tp cl m sd ev nows) {x : Int} {us : List V} {v : V} (hu : H tp = some (.lst us)) (b : Bld M K H0 (upd H tp (.lst (us ++ [v]))) tp (nows.map dTm ++ [dTm x])) : Dr M K H0 (upd H tp (.lst (us ++ [v]))) ck sp ep tp cl m sd ev (nows ++ [x]) := by
  have t := Tp.updL (o := .lst (us ++ [v])) hu
  refine ⟨g.cb.other g.tb.fr (fun z => g.n3 z.symm) t, g.sb.other g.tb.fr (fun z => g.n5 z.symm) t, g.eb.other g.tb.fr (fun z => g.n6 z.symm) t, ?_, g.n1, g.n2, g.n3, g.n4, g.n5, g.n6⟩
  rw [List.map_append]
  exact b
abbrev SD (f ck sp ep tp : Addr) (n : Nat) (fl : FldS) (now : Int) (x9 x10 x11 x15 x16 x17 : Option PyD) : List (Option PyD) := [some (.r (.ref f)), some (.i 4), some (dInt n), some (dFld fl), some (.i now), some (.r (.ref ck)), some (.r (.ref sp)), some (.r (.ref ep)), some (.r (.ref tp)), x9, x10, x11, none, none, none, x15, x16, x17, none, none, none]
theorem len_law_drawn (h : sp_law_drawn K vs H Q E) : vs.length = 3 := by
  obtain ⟨_, _, _, _, _, ⟨_, _, _, rfl⟩, hd, _⟩ := h
  exact hd.length
theorem rd_law_drawn (kx : Kx K) (h : sp_law_drawn K vs H Q E) : t_law_drawn K { nx := fun _ H' => Q .non H', rt := Q } (start N_law_drawn vs) H := by
  obtain ⟨f, q, ns, c, ds, ⟨n, n2, n14, rfl⟩, hd, s0, hc, qq⟩ := h
  have s0 : (MF f q ns).Rs H c := s0
  refine sq (s_asg (M := MF f q ns) (n := 200) (P := fun d => ∃ fl : FldS, d = dFld fl ∧ WFF fl ∧ fl.homes ≠ [] ∧ okName fl) (ev_feed (ds := [.r (.ref f), .i 4]) (ea_cons (ed_var rfl) (ea_cons (ed_var rfl) ea_nil)) rfl) (EnvD.st hd) s0 (by omega) fun σ1 H1 d1 c1 ⟨fl, p1, wf, hne, hok⟩ r1 e1 s1 hc1 => ?_)
  subst p1
  dsimp only [tSeq, tAsg, tTup, tCons, tNil]
  intro ck hck
  have xa := Exh.new (o := .dK []) hck
  have ha : upd H1 ck (.dK []) ck = some (.dK []) := upd_same
  generalize upd H1 ck (.dK []) = Ha at xa ha ⊢
  refine ⟨by decide, fun sp hsp => ?_⟩
  have xb := Exh.new (o := .lst []) hsp
  have hb : upd Ha sp (.lst []) sp = some (.lst []) := upd_same
  generalize upd Ha sp (.lst []) = Hb at xb hb ⊢
  refine ⟨by decide, fun ep hep => ?_⟩
  have xc := Exh.new (o := .lst []) hep
  have hcc : upd Hb ep (.lst []) ep = some (.lst []) := upd_same
  generalize upd Hb ep (.lst []) = Hc at xc hcc ⊢
  refine ⟨by decide, fun tp htp => ?_⟩
  have xd := Exh.new (o := .lst []) htp
  have hdd : upd Hc tp (.lst []) tp = some (.lst []) := upd_same
  generalize upd Hc tp (.lst []) = Hd at xd hdd ⊢
  refine ⟨Nat.le_of_lt (small1000 (Nat.le_of_ble_eq_true rfl)), fun T hT => ?_⟩
  have xe := Exh.new (o := .tup [.int 0, .ref ck, .ref sp, .ref ep, .ref tp]) hT
  have hT2 : upd Hd T (.tup [.int 0, .ref ck, .ref sp, .ref ep, .ref tp]) T = some (.tup [.int 0, .ref ck, .ref sp, .ref ep, .ref tp]) := upd_same
  generalize upd Hd T (.tup [.int 0, .ref ck, .ref sp, .ref ep, .ref tp]) = He at xe hT2 ⊢
  have xbe := (xc.trans xd).trans xe
  have xae := xb.trans xbe
  have x1e := xa.trans xae
  have hv : Dt K He (.ref T) (.t [.i 0, .r (.ref ck), .r (.ref sp), .r (.ref ep), .r (.ref tp)]) := .t (SqT.of hT2) (.cons (.i _) (.cons (.r _) (.cons (.r _) (.cons (.r _) (.one (.r _))))))
  have se : (MF f q ns).Rs He c1 := (MF f q ns).mono _ _ _ x1e s1
  have r1e : Rf (MF f q ns).F H He := r1.trans x1e.rf
  have nfr : ∀ {p : Addr} {Hx : Hp}, Exh H1 Hx → Hx p = none → H p = none ∧ ¬ (MF f q ns).F p := fun {p Hx} x h => ⟨rf_none r1 s1 (x.free h), fun z => absurd (x.free h) ((MF f q ns).live _ _ _ z s1)⟩
  have g0 : Dr (MF f q ns) K H He ck sp ep tp (fun _ => none) 0 [] [] [] := by
    obtain ⟨z1, z2⟩ := nfr (Exh.refl _) hck
    obtain ⟨y1, y2⟩ := nfr xa hsp
    obtain ⟨w1, w2⟩ := nfr (xa.trans xb) hep
    obtain ⟨u1, u2⟩ := nfr ((xa.trans xb).trans xc) htp
    refine ⟨⟨z1, r1e, ⟨[], xae _ _ ha, ⟨List.nodup_nil, fun k => ⟨fun _ => rfl, fun d z => ?_⟩⟩, Nat.le_refl _⟩, z2, ⟨c, s0⟩⟩, ⟨y1, r1e, ⟨[], xbe _ _ hb, .nil⟩, y2, ⟨c, s0⟩⟩, ⟨w1, r1e, ⟨[], (xd.trans xe) _ _ hcc, .nil⟩, w2, ⟨c, s0⟩⟩, ⟨u1, r1e, ⟨[], xe _ _ hdd, .nil⟩, u2, ⟨c, s0⟩⟩, fun z => ?_, fun z => ?_, fun z => ?_, fun z => ?_, fun z => ?_, fun z => ?_⟩
    · cases k with
      | inl i => cases z
      | inr x => cases z
    · rw [← z, ha] at hsp
      cases hsp
    · rw [← z, xb _ _ ha] at hep
      cases hep
    · rw [← z, xc _ _ (xb _ _ ha)] at htp
      cases htp
    · rw [← z, hb] at hep
      cases hep
    · rw [← z, xc _ _ hb] at htp
      cases htp
    · rw [← z, hcc] at htp
      cases htp
  refine gTup_ok (is := [4, 5, 6, 7, 8]) hv rfl (e1.tp x1e.tp) fun σ2 e2 => ?_
  have e2 : EnvD K σ2 He (SD f ck sp ep tp n fl 0 none none none none none none) := e2
  refine s_for (M := MF f q ns) (c := c1) (n := 0) (it_rngD (k := n) (ea_cons (ed_var (i := 2) rfl) ea_nil) (by omega)) e2 se (by omega) fun H3 ds3 c3 pd3 r3 e3 s3 hc3 => ?_
  subst pd3
  refine ⟨fun i σ' H' => ∃ (now : Int) (cl : PySem.Str → Option (Int × Int)) (sd : List (Nat × Nat × Int)) (ev : List EvtS) (nows : List Int) (c' : Nat), EnvD K σ' H' (SD f ck sp ep tp n fl now none none none none none none) ∧ (MF f q ns).Rs H' c' ∧ c' ≤ c3 + 8 * i ∧ Dr (MF f q ns) K H H' ck sp ep tp cl i sd ev nows ∧ Drawn fl ev nows cl sd now ∧ ev.length = i ∧ sd.length ≤ i,
    ⟨0, _, [], [], [], c3, e3, s3, Nat.le_refl _, g0.on r3, Drawn.start wf, rfl, Nat.le_refl _⟩, fun _ _ _ _ => trivial, ?_, ?_⟩
  · rintro i d σ' H4 H5 v hdi ⟨now, cl, sd, ev, nows, c4, e4, s4, hc4, g4, DD, hev, hsd⟩ x5 hv
    obtain ⟨hin, rfl⟩ := range_ne hdi
    have e5 : EnvD K _ H5 (SD f ck sp ep tp n fl now (some (.i (i : Int))) none none none none none) := (e4.tp x5.tp).set (i := 9) hv
    have s5 := (MF f q ns).mono _ _ _ x5 s4
    have g5 := g4.on x5.rf
    -- the time
    refine sq (s_asg (n := 1) (P := fun d => ∃ z, d = .i z ∧ now ≤ z) ((ev_op (n := 0) (m := 1) (ed_var (d := .i now) rfl) (ev_lstIx (n := 0) (m := 1) (P := fun d => ∃ z, d = .i z ∧ 0 ≤ z) (PA := (· = [.i 0, .i 0, .i 1, .i 2, .i 3])) (el_lst (ea_cons ed_int (ea_cons ed_int (ea_cons ed_int (ea_cons ed_int (ea_cons ed_int ea_nil)))))) (ev_draw (m := 5) (ed_var rfl) ed_int (by decide) (by decide)) fun ds e pd pe => ?_) fun d e pd pe => ?_).imp (m := 1) (fun d p => p) (by omega)) e5 s5 (by omega) fun σ6 H6 d6 c6 ⟨now', p6, hnow⟩ r6 e6 s6 hc6 => ?_)
    · obtain ⟨k, rfl, k0, k1⟩ := pe
      subst pd
      have : k = 0 ∨ k = 1 ∨ k = 2 ∨ k = 3 ∨ k = 4 := by omega
      rcases this with rfl | rfl | rfl | rfl | rfl
      · exact ⟨0, _, rfl, rfl, _, rfl, by decide⟩
      · exact ⟨1, _, rfl, rfl, _, rfl, by decide⟩
      · exact ⟨2, _, rfl, rfl, _, rfl, by decide⟩
      · exact ⟨3, _, rfl, rfl, _, rfl, by decide⟩
      · exact ⟨4, _, rfl, rfl, _, rfl, by decide⟩
    · obtain ⟨z, rfl, z0⟩ := pe
      subst pd
      exact rop_add ⟨_, rfl, by omega⟩
    subst p6
    have e6 : EnvD K σ6 H6 (SD f ck sp ep tp n fl now' (some (.i (i : Int))) none none none none none) := e6
    have g6 := g5.on r6
    have D6 := DD.later hnow
    dsimp only
    -- the house
    have homes : ∀ (Δ : List (Option PyD)) (Hx : Hp), Δ[3]? = some (some (dFld fl)) → EvD (MF f q ns) K (tOp (rIxT K) (tVar 3) (tC (.int 0))) Δ Hx (.t (fl.homes.map dHouse)) := fun Δ Hx h3 => w_ix (i := 0) (ed_var h3) rfl
    have hpos : 0 < fl.homes.length := List.length_pos_iff.mpr hne
    have hlen := wf.len
    refine sq (s_asg (n := 1) (P := fun d => ∃ x ∈ fl.homes, d = .s x.name) ((ev_op (n := 1) (m := 0) (P1 := fun d => ∃ x ∈ fl.homes, d = dHouse x) (ev_op (n := 0) (m := 1) (homes _ _ rfl) (ev_draw (m := ((fl.homes.map dHouse).length : Int)) (ed_var rfl) (w_len (homes _ _ rfl)) (by rw [List.length_map]; omega) (by rw [List.length_map]; omega)) fun d e pd pe => ?_) ed_int fun d e pd pe => ?_).imp (m := 1) (fun d p => p) (by omega)) e6 s6 (by omega) fun σ7 H7 d7 c7 ⟨x, hx, p7⟩ r7 e7 s7 hc7 => ?_)
    · obtain ⟨k, rfl, k0, k1⟩ := pe
      subst pd
      obtain ⟨y, hy, hm⟩ := atI_lt k0 k1
      obtain ⟨x, hx, rfl⟩ := List.mem_map.mp hm
      exact (rop_ixT hy).imp fun d e => ⟨x, hx, e⟩
    · obtain ⟨x, hx, rfl⟩ := pd
      subst pe
      exact (rop_ixT (d := .s x.name) rfl).imp fun d e => ⟨x, hx, e⟩
    subst p7
    have e7 : EnvD K σ7 H7 (SD f ck sp ep tp n fl now' (some (.i (i : Int))) (some (.s x.name)) none none none none) := e7
    have g7 := g6.on r7
    dsimp only
    -- a stamp
    refine sq (s_asg (n := 1) (P := fun d => ∃ z, d = .i z) ((ev_op (n := 1) (m := 0) (ev_draw (m := 41) (ed_var rfl) ed_int (by decide) (by decide)) (ed_int (z := 20)) fun d e pd pe => ?_).imp (m := 1) (fun d p => p) (by omega)) e7 s7 (by omega) fun σ8 H8 d8 c8 ⟨st0, p8⟩ r8 e8 s8 hc8 => ?_)
    · obtain ⟨k, rfl, _⟩ := pd
      subst pe
      exact rop_sub ⟨_, rfl⟩
    subst p8
    have e8 : EnvD K σ8 H8 (SD f ck sp ep tp n fl now' (some (.i (i : Int))) (some (.s x.name)) (some (.i st0)) none none none) := e8
    have g8 := g7.on r8
    dsimp only
    obtain ⟨qx, rx, whx⟩ := wf.rate x hx
    refine sq (join (fun σ' H' => ∃ (st : Int) (c' : Nat), EnvD K σ' H' (SD f ck sp ep tp n fl now' (some (.i (i : Int))) (some (.s x.name)) (some (.i st)) none none none) ∧ (MF f q ns).Rs H' c' ∧ c' ≤ c8 + 1 ∧ Dr (MF f q ns) K H H' ck sp ep tp cl i sd ev nows ∧ ∀ z s, cl x.name = some (z, s) → ∃ hs q r g, hs ∈ fl.homes ∧ hs.name = x.name ∧ WFH hs q r ∧ q ≤ g ∧ g ≤ r ∧ st = s + (now' - z) * g) ?_ fun rest => ?_)
    rotate_left
    · refine s_if (M := MF f q ns) (n := 0) (et_B (w_dkin (k := .inr x.name) g8.cb (ed_var rfl) (ed_var (d := .s x.name) rfl))) e8 s8 (by omega) (fun hb H9 c9 r9 e9 s9 hc9 => ?_) fun hb H9 c9 r9 e9 s9 hc9 => ?_
      · have hb : true = ((cl x.name).map fun p => PyD.t [.i p.1, .i p.2]).isSome := hb
        cases hcl : cl x.name with
        | none =>
          rw [hcl] at hb
          cases hb
        | some p =>
          obtain ⟨z, s⟩ := p
          have g9 := g8.on r9
          refine sq (s_asgT (M := MF f q ns) (n := 0) (is := [12, 13]) (PA := (· = [.i qx, .i rx])) ((ed_call (d := .t [.i qx, .i rx]) (ea_cons (ed_var rfl) (ea_cons (ed_var rfl) ea_nil)) (CallD.of fun xs H1 Q E r hxs q => ⟨fl, x, qx, rx, wf, hx, whx, hxs, q⟩)).imp fun d e => ⟨_, e, rfl⟩) (fun ds p => by rw [p]; rfl) e9 s9 (by omega) fun σ10 H10 ds10 c10 p10 r10 e10 s10 hc10 => ?_)
          subst p10
          have g10 := g9.on r10
          dsimp only
          refine sq (s_asgT (M := MF f q ns) (n := 0) (is := [14, 11]) (PA := (· = [.i z, .i s])) ((w_dkget (k := .inr x.name) g10.cb (ed_var (i := 5) rfl) (ed_var (d := .s x.name) rfl) (d := .t [.i z, .i s]) (by show (cl x.name).map _ = _; rw [hcl]; rfl)).imp fun d e => ⟨_, e, rfl⟩) (fun ds p => by rw [p]; rfl) e10 s10 (by omega) fun σ11 H11 ds11 c11 p11 r11 e11 s11 hc11 => ?_)
          subst p11
          have g11 := g10.on r11
          dsimp only
          have a1 := whx.q0
          have a2 := whx.q4
          have a3 := whx.r4
          have a4 := whx.r8
          refine s_asg (n := 1) (P := fun d => ∃ g, d = .i (s + (now' - z) * g) ∧ qx ≤ g ∧ g ≤ rx) ((ev_op (n := 0) (m := 1) (ed_var (d := .i s) rfl) (ev_op (n := 0) (m := 1) (P := fun d => ∃ g, d = .i ((now' - z) * g) ∧ qx ≤ g ∧ g ≤ rx) (w_sub (ed_var (d := .i now') rfl) (ed_var (d := .i z) rfl)) (ev_lstIx (n := 0) (m := 1) (P := fun d => ∃ g, d = .i g ∧ qx ≤ g ∧ g ≤ rx) (PA := (· = [.i qx, .i rx, .i 4])) (el_lst (ea_cons (ed_var rfl) (ea_cons (ed_var rfl) (ea_cons ed_int ea_nil)))) (ev_draw (m := 3) (ed_var rfl) ed_int (by decide) (by decide)) fun ds e pd pe => ?_) fun d e pd pe => ?_) fun d e pd pe => ?_).imp (m := 1) (fun d p => p) (by omega)) e11 s11 (by omega) fun σ12 H12 d12 c12 ⟨g, p12, hg1, hg2⟩ r12 e12 s12 hc12 => ?_
          · obtain ⟨k, rfl, k0, k1⟩ := pe
            subst pd
            have : k = 0 ∨ k = 1 ∨ k = 2 := by omega
            rcases this with rfl | rfl | rfl
            · exact ⟨0, _, rfl, rfl, qx, rfl, by omega, by omega⟩
            · exact ⟨1, _, rfl, rfl, rx, rfl, by omega, by omega⟩
            · exact ⟨2, _, rfl, rfl, 4, rfl, by omega, by omega⟩
          · obtain ⟨g, rfl, g1, g2⟩ := pe
            subst pd
            exact rop_mul (mul64r (by omega) (by omega)) ⟨g, rfl, g1, g2⟩
          · obtain ⟨g, rfl, g1, g2⟩ := pe
            subst pd
            exact rop_add ⟨g, rfl, g1, g2⟩
          · subst p12
            refine rest σ12 H12 ⟨s + (now' - z) * g, c12, ((e12.drop 12).drop 13).drop 14, s12, by omega, g11.on r12, fun z' s' h' => ?_⟩
            rw [hcl] at h'
            injection h' with h'
            injection h' with h1 h2
            subst h1 h2
            exact ⟨x, qx, rx, g, hx, rfl, whx, hg1, hg2, rfl⟩
      · have hb : false = ((cl x.name).map fun p => PyD.t [.i p.1, .i p.2]).isSome := hb
        refine rest _ H9 ⟨st0, c9, e9, s9, by omega, g8.on r9, fun z s h' => ?_⟩
        rw [h'] at hb
        cases hb
    rintro σ9 H9 ⟨st, c9, e9, s9, hc9, g9, hst⟩
    dsimp only
    -- the clock
    refine sq (s_dkput (M := MF f q ns) (n := 0) (k := .inr x.name) (P := (· = .t [.i now', .i st])) g9.cb (by omega) (ed_var rfl) (ed_var (d := .s x.name) rfl) (ed_tup (ea_cons (ed_var rfl) (ea_cons (ed_var rfl) ea_nil))) e9 s9 (by omega) fun H10 kvs v10 d10 c10 p10 r10 hk10 t10 b10 e11 s11 hc11 => ?_)
    subst p10
    rw [CkF_put] at b10
    have g11 := (g9.on r10).addC hk10 b10
    generalize upd H10 ck (.dK (putK kvs (.inr x.name) v10)) = H11 at t10 b10 e11 s11 g11 ⊢
    dsimp only
    -- letters that may be heard
    have sdl : ∀ s ∈ sd, s.2.1 < fl.links.length := fun s hs => by
      obtain ⟨k, l, z⟩ := s
      obtain ⟨e, _, _, hl, _⟩ := DD.snd k l z hs
      exact hl
    obtain ⟨us11, hu11, hd11⟩ := g11.sb.at_
    refine sq (s_asgBL (M := MF f q ns) (n := 0) (PA := fun ds => ∃ ks : List Nat, ds = ks.map dInt ∧ ks.length ≤ sd.length ∧ ∀ k ∈ ks, OkDeed fl sd now' (.hear k)) (?_ : EvL _ _ _ _ _ _ _) e11 s11 (by omega) fun σ12 H12 mp ds12 c12 ⟨ks, p12, hkl, hks⟩ b12 e12 s12 hc12 => ?_)
    · intro σ H1 c r1 e1 s1 hc Q qq
      refine (ea_cons (ed_var (d := dFld fl) rfl) (ea_cons (ed_var (d := .r (.ref sp)) rfl) (ea_cons (ed_var (d := .s x.name) rfl) (ea_cons (ed_var (d := .i now') rfl) ea_nil)))) σ H1 c r1 e1 s1 (by omega) _ fun xs H2 ds c2 p2 r2 s2 hc2 hxs => ?_
      subst p2
      rw [List.append_nil]
      have rr := r1.trans r2
      exact ⟨fl, sd, sp, us11, x.name, now', sdl, by omega, rr.keep _ _ g11.sb.nf hu11, hd11.mono rr.tup, hxs, fun p H' vs' ds' pd hp x h1 h2 => qq p H' vs' ds' c2 pd (rf_none r2 s2 hp) h1 h2 (r2.trans x.rf) ((MF f q ns).mono _ _ _ x s2) (by omega)⟩
    subst p12
    have g12 := g11.on b12.rf
    dsimp only
    -- its own links
    have llen := wf.lln
    refine sq (s_asgB (M := MF f q ns) (ds := (enD (fl.links.map dLnk)).filterMap (ownF x.name)) (el_lcF (it_enT (ea_cons (w_ix (i := 1) (d := .t (fl.links.map dLnk)) (ed_var (d := dFld fl) rfl) rfl) ea_nil)) (fun _ _ _ r => r.tup) (by rw [enD_length, List.length_map]; omega) fun d hd => ?_) e12 s12 (by omega) fun σ13 H13 wp c13 b13 e13 s13 hc13 => ?_)
    · obtain ⟨j, hj, e2⟩ := List.getElem_of_mem hd
      have hj2 : (enD (fl.links.map dLnk))[j]? = some d := by rw [List.getElem?_eq_getElem hj, e2]
      rw [enD_at, List.getElem?_map] at hj2
      cases hl : fl.links[j]? with
      | none =>
        rw [hl] at hj2
        cases hj2
      | some L =>
        rw [hl] at hj2
        have hj2 : some (PyD.t [.i (j : Int), dLnk L]) = some d := hj2
        injection hj2 with hj2
        subst hj2
        refine ⟨decide (L.src = x.name), _, tg_tup (is := [19, 20]) (by decide) rfl, et_test (w_eqS (w_ix (ed_var (d := dLnk L) rfl) rfl) (ed_var rfl)), fun hb => if_neg (of_decide_eq_false hb), fun hb => ⟨.i (j : Int), if_pos (of_decide_eq_true hb), ed_var rfl⟩⟩
    obtain ⟨os, hos⟩ := map_dInt (ds := (enD (fl.links.map dLnk)).filterMap (ownF x.name)) fun d hd => by
      obtain ⟨k, _, e⟩ := own_mem hd
      exact ⟨k, e⟩
    have osl : ∀ k ∈ os, k < fl.links.length := fun k hk => by
      obtain ⟨j, hj, e⟩ := own_mem (nm := x.name) (ls := fl.links) (d := dInt k) (by rw [hos]; exact List.mem_map_of_mem hk)
      injection e with e
      have : k = j := by omega
      omega
    have oslen : os.length ≤ fl.links.length := by
      have := own_len (nm := x.name) (ls := fl.links)
      rw [hos, List.length_map] at this
      exact this
    rw [hos] at b13
    have g13 := g12.on b13.rf
    have m13 := b12.on b13.rf
    dsimp only
    refine sq (s_par (M := MF f q ns) (n := 1) (PA := fun ds => ∃ wy : Int, ds = [dDeed .mark, .i wy]) ((ev_cons (n := 0) (m := 1) (ed_tup (ea_cons ed_str ea_nil)) (ev_cons (n := 1) (m := 0) (ev_draw (m := 5) (ed_var rfl) ed_int (by decide) (by decide)) ea_nil)).imp ?_) (fun ds ⟨k, e⟩ => ⟨_, _, e⟩) e13 s13 (by omega) fun σ14 H14 d14 d14' c14 ⟨wy, p14⟩ r14 e14 s14 hc14 => ?_)
    · rintro ds ⟨d1, r1, rfl, rfl, d2, r2, rfl, ⟨k, rfl, _⟩, rfl⟩
      exact ⟨k, rfl⟩
    cases p14
    have g14 := g13.on r14
    have m14 := m13.on r14
    have o14 := b13.on r14
    dsimp only
    -- the deed
    refine sq (join (fun σ' H' => ∃ (deed : Deed) (sd' : List (Nat × Nat × Int)) (c' : Nat), EnvD K σ' H' (SD f ck sp ep tp n fl now' none (some (.s x.name)) (some (.i st)) none none (some (dDeed deed))) ∧ (MF f q ns).Rs H' c' ∧ c' ≤ c14 + 1 ∧ Dr (MF f q ns) K H H' ck sp ep tp (ptN cl x.name (some (now', st))) (i + 1) sd' ev nows ∧ OkDeed fl sd now' deed ∧ (∀ k l z, (k, l, z) ∈ sd' → (k, l, z) ∈ sd ∨ (k = ev.length ∧ z = now' ∧ deed = .send l)) ∧ sd'.length ≤ i + 1) ?_ fun rest => ?_)
    rotate_left
    · refine s_if (M := MF f q ns) (n := 0) (et_and (et_test (w_lt (ed_var (d := .i wy) rfl) ed_int)) fun _ => et_test (w_neNilB m14 (ed_var rfl))) e14 s14 (by omega) (fun hb H15 c15 r15 e15 s15 hc15 => ?_) fun hb H15 c15 r15 e15 s15 hc15 => ?_
      · have kne : 0 < (ks.map dInt).length := by
          cases ks with
          | nil => simp at hb
          | cons a r => exact Nat.succ_pos _
        have m15 := m14.on r15
        have kl : (ks.map dInt).length ≤ 1000 := by
          rw [List.length_map]
          omega
        refine s_asg (n := 1) (P := fun d => ∃ k, d = dDeed (.hear k) ∧ k ∈ ks) ((ev_tup (ev_cons (n := 0) (m := 1) ed_str (ev_cons (n := 1) (m := 0) (Bld.ix (M := MF f q ns) (n := 1) (P := fun d => ∃ k, d = dInt k ∧ k ∈ ks) m15 (ed_var rfl) (ev_draw (m := ((ks.map dInt).length : Int)) (ed_var (i := 0) rfl) (m15.len (ed_var rfl)) (by omega) (by omega)) fun e pe => ?_) ea_nil)) ?_).imp ?_ (by omega)) e15 s15 (by omega) fun σ16 H16 d16 c16 ⟨k, p16, hk⟩ r16 e16 s16 hc16 => ?_
        · obtain ⟨j, rfl, j0, j1⟩ := pe
          obtain ⟨y, hy, hm⟩ := atI_lt j0 j1
          obtain ⟨k, hk, rfl⟩ := List.mem_map.mp hm
          exact ⟨j, _, rfl, hy, k, rfl, hk⟩
        · rintro ds ⟨d1, r1, rfl, _, d2, r2, rfl, _, rfl⟩
          exact Nat.le_of_ble_eq_true rfl
        · rintro d ⟨ds, rfl, d1, r1, rfl, rfl, d2, r2, rfl, ⟨k, rfl, hk⟩, rfl⟩
          exact ⟨k, rfl, hk⟩
        · subst p16
          exact rest σ16 H16 ⟨.hear k, sd, c16, (((e16.drop 9).drop 15).drop 16).drop 18, s16, by omega, (g14.on r15).on r16, hks k hk, fun k l z h => .inl h, by omega⟩
      · have o15 := o14.on r15
        refine s_if (M := MF f q ns) (n := 0) (et_and (et_test (w_lt (ed_var (d := .i wy) rfl) ed_int)) fun _ => et_test (w_neNilB o15 (ed_var rfl))) e15 s15 (by omega) (fun hb H16 c16 r16 e16 s16 hc16 => ?_) fun hb H16 c16 r16 e16 s16 hc16 => ?_
        · have kne : 0 < (os.map dInt).length := by
            cases os with
            | nil => simp at hb
            | cons a r => exact Nat.succ_pos _
          have o16 := o15.on r16
          refine sq (s_asg (n := 1) (P := fun d => ∃ l, d = dDeed (.send l) ∧ l < fl.links.length) ((ev_tup (ev_cons (n := 0) (m := 1) ed_str (ev_cons (n := 1) (m := 0) (Bld.ix (M := MF f q ns) (n := 1) (P := fun d => ∃ k, d = dInt k ∧ k < fl.links.length) o16 (ed_var rfl) (ev_draw (m := ((os.map dInt).length : Int)) (ed_var (i := 0) rfl) (o16.len (ed_var rfl)) (by omega) (by rw [List.length_map]; omega)) fun e pe => ?_) ea_nil)) ?_).imp ?_ (by omega)) e16 s16 (by omega) fun σ17 H17 d17 c17 ⟨l, p17, hl⟩ r17 e17 s17 hc17 => ?_)
          · obtain ⟨j, rfl, j0, j1⟩ := pe
            obtain ⟨y, hy, hm⟩ := atI_lt j0 j1
            obtain ⟨k, hk, rfl⟩ := List.mem_map.mp hm
            exact ⟨j, _, rfl, hy, k, rfl, osl k hk⟩
          · rintro ds ⟨d1, r1, rfl, _, d2, r2, rfl, _, rfl⟩
            exact Nat.le_of_ble_eq_true rfl
          · rintro d ⟨ds, rfl, d1, r1, rfl, rfl, d2, r2, rfl, ⟨k, rfl, hk⟩, rfl⟩
            exact ⟨k, rfl, hk⟩
          subst p17
          have g17 := ((g14.on r15).on r16).on r17
          dsimp only
          refine s_appX (n := 0) (P := (· = dSend (i, l, now'))) g17.sb (ed_var rfl) (ed_tup (ea_cons (ed_var rfl) (ea_cons (w_ix (ed_var (d := dDeed (.send l)) rfl) rfl) (ea_cons (ed_var rfl) ea_nil)))) (by rw [List.length_map]; omega) e17 s17 (by omega) fun H18 us v18 d18 c18 p18 r18 hus t18 b18 e18 s18 hc18 => ?_
          subst p18
          have g18 := (g17.on r18).addS (x := (i, l, now')) hus b18
          refine rest σ17 _ ⟨.send l, sd ++ [(i, l, now')], c18, (((e18.drop 9).drop 15).drop 16).drop 18, s18, by omega, g18, hl, fun k l' z h => ?_, by rw [List.length_append, List.length_singleton]; omega⟩
          rcases List.mem_append.mp h with h | h
          · exact .inl h
          · have h := List.mem_singleton.mp h
            injection h with h1 h2
            injection h2 with h2 h3
            subst h1 h2 h3
            exact .inr ⟨hev.symm, rfl, rfl⟩
        · exact rest σ14 H16 ⟨.mark, sd, c16, (((e16.drop 9).drop 15).drop 16).drop 18, s16, by omega, (g14.on r15).on r16, trivial, fun k l z h => .inl h, by omega⟩
    rintro σ15 H15 ⟨deed, sd', c15, e15, s15, hc15, g15, hdeed, hss, hsd'⟩
    dsimp only
    refine sq (s_appX (n := 0) (P := (· = dEvt ⟨x.name, 30 * st, deed⟩)) g15.eb (ed_var rfl) (ed_tup (ea_cons (ed_var rfl) (ea_cons (mod_frac (a := st) (z := 30 * st) (by decide) (by decide) (by omega) (ed_var rfl) ed_int) (ea_cons (ed_var rfl) ea_nil)))) (by rw [List.length_map]; omega) e15 s15 (by omega) fun H16 us v16 d16 c16 p16 r16 hus t16 b16 e16 s16 hc16 => ?_)
    subst p16
    have g16 := (g15.on r16).addE (x := ⟨x.name, 30 * st, deed⟩) hus b16
    generalize upd H16 ep (.lst (us ++ [v16])) = H17 at t16 b16 e16 s16 g16 ⊢
    dsimp only
    refine s_appX (n := 0) (P := (· = dTm now')) g16.tb (ed_var rfl) (ed_tup (ea_cons (ed_var rfl) (ea_cons ed_int ea_nil))) (by rw [List.length_map, DD.len]; omega) e16 s16 (by omega) fun H18 us v18 d18 c18 p18 r18 hus t18 b18 e18 s18 hc18 => ?_
    subst p18
    have g18 := (g16.on r18).addT (x := now') hus b18
    refine ⟨now', _, sd', ev ++ [⟨x.name, 30 * st, deed⟩], nows ++ [now'], c18, ((e18.drop 10).drop 11).drop 17, s18, by omega, g18, D6.put (List.mem_map_of_mem hx) (by omega) hst hdeed hss, by rw [List.length_append, hev]; rfl, hsd'⟩
  · rintro σ4 H4 ⟨now, cl, sd, ev, nows, c4, e4, s4, hc4, g4, DD, hev, hsd⟩
    rw [List.length_map, List.length_range] at hc4 hev
    dsimp only
    refine s_ret (n := 0) (P := (· = .t [dHist ⟨fl, ev⟩, .t (nows.map dTm)])) (ed_tup (ea_cons (ed_tup (ea_cons (ed_var rfl) (ea_cons (g4.eb.tup (ed_var rfl)) ea_nil))) (ea_cons (g4.tb.tup (ed_var rfl)) ea_nil))) e4 s4 (by omega) fun v H5 d c5 p5 r5 hv s5 hc5 => ?_
    have ew : PyD.t (nows.map dTm) = dWorld n (fun k => 120 * nows.getD k 0) := by
      unfold dWorld
      congr 1
      refine List.ext_getElem? fun k => ?_
      rw [List.getElem?_map, List.getElem?_map]
      by_cases hk : k < n
      · have hk2 : k < nows.length := by
          rw [DD.len, hev]
          exact hk
        rw [List.getElem?_range hk, List.getElem?_eq_getElem hk2]
        show some (dTm _) = some (fr (120 * nows.getD k 0))
        rw [fr120, List.getD_eq_getElem?_getD, List.getElem?_eq_getElem hk2]
        rfl
      · rw [List.getElem?_eq_none (by rw [DD.len, hev]; omega), List.getElem?_eq_none (by rw [List.length_range]; omega)]
        rfl
    rw [ew] at p5
    exact qq v d H5 c5 ⟨_, n, ⟨fl, ev⟩, fun k => 120 * nows.getD k 0, rfl, p5, ⟨DD.wf, hev, hok⟩, DD.fits⟩ (g4.cb.rf.trans r5) s5 (by omega) hv
end
end K27
namespace K27
open PySem PySem.Spec PyProof.Rows L2 KM
/-! ### the text by places -/
def top (i : Nat) : Stmt := PySem.Challenge.pw_ledclocks_k27_whole_world_or_ring.main.body.getD i (.Pass ⟨0, 0, 0, 0⟩)
abbrev s_NoPaper_init : Stmt := inClass (top 3) 0
abbrev s_NoWorld_init : Stmt := inClass (top 4) 0
abbrev s_is_number : Stmt := top 7
abbrev s_common_divisor : Stmt := top 9
abbrev s_is_fraction : Stmt := top 10
abbrev s_ratio : Stmt := top 11
abbrev s_added : Stmt := top 12
abbrev s_less : Stmt := top 13
abbrev s_parted : Stmt := top 14
abbrev s_is_below : Stmt := top 15
abbrev s_rates_of : Stmt := top 18
abbrev s_last_ahead : Stmt := top 20
abbrev s_link_heard : Stmt := top 21
abbrev s_while_between : Stmt := top 22
abbrev s_steps_to : Stmt := top 23
abbrev s_steps_list : Stmt := top 24
abbrev s_history_steps : Stmt := top 26
abbrev s_need_event : Stmt := top 27
abbrev s_Relaxing_init : Stmt := inClass (top 29) 0
abbrev s_Relaxing_go_round : Stmt := inClass (top 29) 1
abbrev s_Relaxing_ring_back : Stmt := inClass (top 29) 2
abbrev s_relaxed : Stmt := top 30
abbrev s_ring_of : Stmt := top 31
abbrev s_world_or_ring : Stmt := top 32
abbrev s_need_world : Stmt := top 33
abbrev s_as_row : Stmt := top 35
abbrev s_steps_from : Stmt := top 36
abbrev s_going_on : Stmt := top 37
abbrev s_reach_clever : Stmt := top 38
abbrev s_reach : Stmt := top 39
abbrev s_needA : Stmt := top 41
abbrev s_are_numbers : Stmt := top 43
abbrev s_steps_total : Stmt := top 44
abbrev s_lets_ring : Stmt := top 46
abbrev s_are_times : Stmt := top 48
abbrev s_world_bars : Stmt := top 49
abbrev s_needB : Stmt := top 51
abbrev s_lets_world : Stmt := top 53
abbrev s_law_feed : Stmt := top 55
abbrev s_law_draw : Stmt := top 56
abbrev s_law_frac : Stmt := top 57
abbrev s_law_field : Stmt := top 58
abbrev s_law_rates : Stmt := top 59
abbrev s_law_open : Stmt := top 60
abbrev s_law_drawn : Stmt := top 61
abbrev s_law_barred : Stmt := top 62
abbrev s_law_let : Stmt := top 63
abbrev s_law_barring : Stmt := top 64
abbrev s_law_right : Stmt := top 65
abbrev s_law : Stmt := top 66
/-! What the top holds of this text: where each def stands. -/
structure Tx (K : PySem.W.Frag) (mg : PySem.Str → Option Value) : Prop extends Kx K where
  f_NoPaper_init : ∃ fd, FunD K "__init__" "NoPaper.__init__" (defArgs s_NoPaper_init) (defBody s_NoPaper_init) (defScope s_NoPaper_init) [] [] (He.ma K (He.ga K "NoPaper") "__init__") fd
  f_NoWorld_init : ∃ fd, FunD K "__init__" "NoWorld.__init__" (defArgs s_NoWorld_init) (defBody s_NoWorld_init) (defScope s_NoWorld_init) [] [] (He.ma K (He.ga K "NoWorld") "__init__") fd
  f_is_number : ∃ fd, FunD K "is_number" "is_number" (defArgs s_is_number) (defBody s_is_number) (defScope s_is_number) [] [] (He.ga K "is_number") fd
  f_common_divisor : ∃ fd, FunD K "common_divisor" "common_divisor" (defArgs s_common_divisor) (defBody s_common_divisor) (defScope s_common_divisor) [] [] (He.ga K "common_divisor") fd
  f_is_fraction : ∃ fd, FunD K "is_fraction" "is_fraction" (defArgs s_is_fraction) (defBody s_is_fraction) (defScope s_is_fraction) [] [] (He.ga K "is_fraction") fd
  f_ratio : ∃ fd, FunD K "ratio" "ratio" (defArgs s_ratio) (defBody s_ratio) (defScope s_ratio) [] [] (He.ga K "ratio") fd
  f_added : ∃ fd, FunD K "added" "added" (defArgs s_added) (defBody s_added) (defScope s_added) [] [] (He.ga K "added") fd
  f_less : ∃ fd, FunD K "less" "less" (defArgs s_less) (defBody s_less) (defScope s_less) [] [] (He.ga K "less") fd
  f_parted : ∃ fd, FunD K "parted" "parted" (defArgs s_parted) (defBody s_parted) (defScope s_parted) [] [] (He.ga K "parted") fd
  f_is_below : ∃ fd, FunD K "is_below" "is_below" (defArgs s_is_below) (defBody s_is_below) (defScope s_is_below) [] [] (He.ga K "is_below") fd
  f_rates_of : ∃ fd, FunD K "rates_of" "rates_of" (defArgs s_rates_of) (defBody s_rates_of) (defScope s_rates_of) [] [] (He.ga K "rates_of") fd
  f_last_ahead : ∃ fd, FunD K "last_ahead" "last_ahead" (defArgs s_last_ahead) (defBody s_last_ahead) (defScope s_last_ahead) [] [] (He.ga K "last_ahead") fd
  f_link_heard : ∃ fd, FunD K "link_heard" "link_heard" (defArgs s_link_heard) (defBody s_link_heard) (defScope s_link_heard) [] [] (He.ga K "link_heard") fd
  f_while_between : ∃ fd, FunD K "while_between" "while_between" (defArgs s_while_between) (defBody s_while_between) (defScope s_while_between) [] [] (He.ga K "while_between") fd
  f_steps_to : ∃ fd, FunD K "steps_to" "steps_to" (defArgs s_steps_to) (defBody s_steps_to) (defScope s_steps_to) [] [] (He.ga K "steps_to") fd
  f_steps_list : ∃ fd, FunD K "steps_list" "steps_list" (defArgs s_steps_list) (defBody s_steps_list) (defScope s_steps_list) [] [] (He.ga K "steps_list") fd
  f_history_steps : ∃ fd, FunD K "history_steps" "history_steps" (defArgs s_history_steps) (defBody s_history_steps) (defScope s_history_steps) [] [] (He.ga K "history_steps") fd
  f_need_event : ∃ fd, FunD K "need_event" "need_event" (defArgs s_need_event) (defBody s_need_event) (defScope s_need_event) [] [] (He.ga K "need_event") fd
  f_Relaxing_init : ∃ fd, FunD K "__init__" "Relaxing.__init__" (defArgs s_Relaxing_init) (defBody s_Relaxing_init) (defScope s_Relaxing_init) [] [] (He.ma K (He.ga K "Relaxing") "__init__") fd
  f_Relaxing_go_round : ∃ fd, FunD K "go_round" "Relaxing.go_round" (defArgs s_Relaxing_go_round) (defBody s_Relaxing_go_round) (defScope s_Relaxing_go_round) [] [] (He.ma K (He.ga K "Relaxing") "go_round") fd
  f_Relaxing_ring_back : ∃ fd, FunD K "ring_back" "Relaxing.ring_back" (defArgs s_Relaxing_ring_back) (defBody s_Relaxing_ring_back) (defScope s_Relaxing_ring_back) [] [] (He.ma K (He.ga K "Relaxing") "ring_back") fd
  f_relaxed : ∃ fd, FunD K "relaxed" "relaxed" (defArgs s_relaxed) (defBody s_relaxed) (defScope s_relaxed) [] [] (He.ga K "relaxed") fd
  f_ring_of : ∃ fd, FunD K "ring_of" "ring_of" (defArgs s_ring_of) (defBody s_ring_of) (defScope s_ring_of) [] [] (He.ga K "ring_of") fd
  f_world_or_ring : ∃ fd, FunD K "world_or_ring" "world_or_ring" (defArgs s_world_or_ring) (defBody s_world_or_ring) (defScope s_world_or_ring) [] [] (He.ga K "world_or_ring") fd
  f_need_world : ∃ fd, FunD K "need_world" "need_world" (defArgs s_need_world) (defBody s_need_world) (defScope s_need_world) [] [] (He.ga K "need_world") fd
  f_as_row : ∃ fd, FunD K "as_row" "as_row" (defArgs s_as_row) (defBody s_as_row) (defScope s_as_row) [] [] (He.ga K "as_row") fd
  f_steps_from : ∃ fd, FunD K "steps_from" "steps_from" (defArgs s_steps_from) (defBody s_steps_from) (defScope s_steps_from) [] [] (He.ga K "steps_from") fd
  f_going_on : ∃ fd, FunD K "going_on" "going_on" (defArgs s_going_on) (defBody s_going_on) (defScope s_going_on) [] [] (He.ga K "going_on") fd
  f_reach_clever : ∃ fd, FunD K "reach_clever" "reach_clever" (defArgs s_reach_clever) (defBody s_reach_clever) (defScope s_reach_clever) [] [] (He.ga K "reach_clever") fd
  f_reach : ∃ fd, FunD K "reach" "reach" (defArgs s_reach) (defBody s_reach) (defScope s_reach) [] [] (He.ga K "reach") fd
  f_needA : ∃ fd, FunD K "need" "need" (defArgs s_needA) (defBody s_needA) (defScope s_needA) [] [] (He.ga K "need_waychecker") fd
  f_are_numbers : ∃ fd, FunD K "are_numbers" "are_numbers" (defArgs s_are_numbers) (defBody s_are_numbers) (defScope s_are_numbers) [] [] (He.ga K "are_numbers") fd
  f_steps_total : ∃ fd, FunD K "steps_total" "steps_total" (defArgs s_steps_total) (defBody s_steps_total) (defScope s_steps_total) [] [] (He.ga K "steps_total") fd
  f_lets_ring : ∃ fd, FunD K "lets_ring" "lets_ring" (defArgs s_lets_ring) (defBody s_lets_ring) (defScope s_lets_ring) [] [] (He.ga K "lets_ring") fd
  f_are_times : ∃ fd, FunD K "are_times" "are_times" (defArgs s_are_times) (defBody s_are_times) (defScope s_are_times) [] [] (He.ga K "are_times") fd
  f_world_bars : ∃ fd, FunD K "world_bars" "world_bars" (defArgs s_world_bars) (defBody s_world_bars) (defScope s_world_bars) [] [] (He.ga K "world_bars") fd
  f_needB : ∃ fd, FunD K "need" "need" (defArgs s_needB) (defBody s_needB) (defScope s_needB) [] [] (He.ga K "need_worldchecker") fd
  f_lets_world : ∃ fd, FunD K "lets_world" "lets_world" (defArgs s_lets_world) (defBody s_lets_world) (defScope s_lets_world) [] [] (He.ga K "lets_world") fd
  f_law_feed : ∃ fd, FunD K "_law_feed" "_law_feed" (defArgs s_law_feed) (defBody s_law_feed) (defScope s_law_feed) [] [] (He.ga K "_law_feed") fd
  f_law_draw : ∃ fd, FunD K "_law_draw" "_law_draw" (defArgs s_law_draw) (defBody s_law_draw) (defScope s_law_draw) [] [] (He.ga K "_law_draw") fd
  f_law_frac : ∃ fd, FunD K "_law_frac" "_law_frac" (defArgs s_law_frac) (defBody s_law_frac) (defScope s_law_frac) [] [] (He.ga K "_law_frac") fd
  f_law_field : ∃ fd, FunD K "_law_field" "_law_field" (defArgs s_law_field) (defBody s_law_field) (defScope s_law_field) [] [] (He.ga K "_law_field") fd
  f_law_rates : ∃ fd, FunD K "_law_rates" "_law_rates" (defArgs s_law_rates) (defBody s_law_rates) (defScope s_law_rates) [] [] (He.ga K "_law_rates") fd
  f_law_open : ∃ fd, FunD K "_law_open" "_law_open" (defArgs s_law_open) (defBody s_law_open) (defScope s_law_open) [] [] (He.ga K "_law_open") fd
  f_law_drawn : ∃ fd, FunD K "_law_drawn" "_law_drawn" (defArgs s_law_drawn) (defBody s_law_drawn) (defScope s_law_drawn) [] [] (He.ga K "_law_drawn") fd
  f_law_barred : ∃ fd, FunD K "_law_barred" "_law_barred" (defArgs s_law_barred) (defBody s_law_barred) (defScope s_law_barred) [] [] (He.ga K "_law_barred") fd
  f_law_let : ∃ fd, FunD K "_law_let" "_law_let" (defArgs s_law_let) (defBody s_law_let) (defScope s_law_let) [] [] (He.ga K "_law_let") fd
  f_law_barring : ∃ fd, FunD K "_law_barring" "_law_barring" (defArgs s_law_barring) (defBody s_law_barring) (defScope s_law_barring) [] [] (He.ga K "_law_barring") fd
  f_law_right : ∃ fd, FunD K "_law_right" "_law_right" (defArgs s_law_right) (defBody s_law_right) (defScope s_law_right) [] [] (He.ga K "_law_right") fd
  f_law : ∃ fd, FunD K "law" "law" (defArgs s_law) (defBody s_law) (defScope s_law) [] [] (He.ga K "law") fd
  g_is_number : mg "is_number" = some (.ref (He.ga K "is_number"))
  g_common_divisor : mg "common_divisor" = some (.ref (He.ga K "common_divisor"))
  g_is_fraction : mg "is_fraction" = some (.ref (He.ga K "is_fraction"))
  g_ratio : mg "ratio" = some (.ref (He.ga K "ratio"))
  g_added : mg "added" = some (.ref (He.ga K "added"))
  g_less : mg "less" = some (.ref (He.ga K "less"))
  g_parted : mg "parted" = some (.ref (He.ga K "parted"))
  g_is_below : mg "is_below" = some (.ref (He.ga K "is_below"))
  g_rates_of : mg "rates_of" = some (.ref (He.ga K "rates_of"))
  g_last_ahead : mg "last_ahead" = some (.ref (He.ga K "last_ahead"))
  g_link_heard : mg "link_heard" = some (.ref (He.ga K "link_heard"))
  g_while_between : mg "while_between" = some (.ref (He.ga K "while_between"))
  g_steps_to : mg "steps_to" = some (.ref (He.ga K "steps_to"))
  g_steps_list : mg "steps_list" = some (.ref (He.ga K "steps_list"))
  g_history_steps : mg "history_steps" = some (.ref (He.ga K "history_steps"))
  g_need_event : mg "need_event" = some (.ref (He.ga K "need_event"))
  g_relaxed : mg "relaxed" = some (.ref (He.ga K "relaxed"))
  g_ring_of : mg "ring_of" = some (.ref (He.ga K "ring_of"))
  g_world_or_ring : mg "world_or_ring" = some (.ref (He.ga K "world_or_ring"))
  g_need_world : mg "need_world" = some (.ref (He.ga K "need_world"))
  g_as_row : mg "as_row" = some (.ref (He.ga K "as_row"))
  g_steps_from : mg "steps_from" = some (.ref (He.ga K "steps_from"))
  g_going_on : mg "going_on" = some (.ref (He.ga K "going_on"))
  g_reach_clever : mg "reach_clever" = some (.ref (He.ga K "reach_clever"))
  g_reach : mg "reach" = some (.ref (He.ga K "reach"))
  g_need_waychecker : mg "need_waychecker" = some (.ref (He.ga K "need_waychecker"))
  g_are_numbers : mg "are_numbers" = some (.ref (He.ga K "are_numbers"))
  g_steps_total : mg "steps_total" = some (.ref (He.ga K "steps_total"))
  g_lets_ring : mg "lets_ring" = some (.ref (He.ga K "lets_ring"))
  g_are_times : mg "are_times" = some (.ref (He.ga K "are_times"))
  g_world_bars : mg "world_bars" = some (.ref (He.ga K "world_bars"))
  g_need_worldchecker : mg "need_worldchecker" = some (.ref (He.ga K "need_worldchecker"))
  g_lets_world : mg "lets_world" = some (.ref (He.ga K "lets_world"))
  g__law_feed : mg "_law_feed" = some (.ref (He.ga K "_law_feed"))
  g__law_draw : mg "_law_draw" = some (.ref (He.ga K "_law_draw"))
  g__law_frac : mg "_law_frac" = some (.ref (He.ga K "_law_frac"))
  g__law_field : mg "_law_field" = some (.ref (He.ga K "_law_field"))
  g__law_rates : mg "_law_rates" = some (.ref (He.ga K "_law_rates"))
  g__law_open : mg "_law_open" = some (.ref (He.ga K "_law_open"))
  g__law_drawn : mg "_law_drawn" = some (.ref (He.ga K "_law_drawn"))
  g__law_barred : mg "_law_barred" = some (.ref (He.ga K "_law_barred"))
  g__law_let : mg "_law_let" = some (.ref (He.ga K "_law_let"))
  g__law_barring : mg "_law_barring" = some (.ref (He.ga K "_law_barring"))
  g__law_right : mg "_law_right" = some (.ref (He.ga K "_law_right"))
  g_law : mg "law" = some (.ref (He.ga K "law"))
  g_ClockError : mg "ClockError" = some (.ref (He.ga K "ClockError"))
  g_NoPaper : mg "NoPaper" = some (.ref (He.ga K "NoPaper"))
  g_NoWorld : mg "NoWorld" = some (.ref (He.ga K "NoWorld"))
  g_Relaxing : mg "Relaxing" = some (.ref (He.ga K "Relaxing"))
  g_NOUGHT : mg "NOUGHT" = some (.ref (He.ga K "NOUGHT"))
  b_abs : mg "abs" = none
  b_all : mg "all" = none
  b_bool : mg "bool" = none
  b_enumerate : mg "enumerate" = none
  b_int : mg "int" = none
  b_isinstance : mg "isinstance" = none
  b_len : mg "len" = none
  b_list : mg "list" = none
  b_max : mg "max" = none
  b_range : mg "range" = none
  b_sorted : mg "sorted" = none
  b_tuple : mg "tuple" = none
  mkR : Mk K (He.ga K "Relaxing") (He.ma K (He.ga K "Relaxing") "__init__")
  m_go_round : Meth K (He.ga K "Relaxing") "go_round" (He.ma K (He.ga K "Relaxing") "go_round")
  m_ring_back : Meth K (He.ga K "Relaxing") "ring_back" (He.ma K (He.ga K "Relaxing") "ring_back")
  i_NoPaper : PySem.W.findIn K (.ref (He.ga K "NoPaper")) "__init__" = some (some (.ref (He.ma K (He.ga K "NoPaper") "__init__")))
  t_NoPaper : PySem.W.typeIn K (.ref (He.ma K (He.ga K "NoPaper") "__init__")) = some (.type "function")
  i_NoWorld : PySem.W.findIn K (.ref (He.ga K "NoWorld")) "__init__" = some (some (.ref (He.ma K (He.ga K "NoWorld") "__init__")))
  t_NoWorld : PySem.W.typeIn K (.ref (He.ma K (He.ga K "NoWorld") "__init__")) = some (.type "function")
  own : OwnInit K (He.ga K "ClockError")
/-- a def keeps its promise -/
structure Okd (P : Program) (w : World) (K : PySem.W.Frag) (mg : PySem.Str → Option Value) (base : Heap) (CX : CXT) (k : Nat) (f : Addr) (ps : List PySem.Str) (sp : Sp) : Prop where
  ex : ∃ fd, FnOk P w K mg base CX k f fd ps sp ∧ Binds K fd ps [] ∧ PySem.W.keepIn K (.ref f) = true
section
variable {X : Cx} {CX : CXT} {j k : Nat} {f C : Addr} {ps : List PySem.Str} {sp : Sp} {E : XK} {x m : PySem.Str} {p pos apos : Pos} {e o : Expr} {es : List Expr} {ta : TE} {t : TA}
theorem pe_callO (O : Okd X.prog X.w X.K X.mg X.base CX j f ps sp) (hr : Room k X.A) (hg : Gl X x) (hm : X.mg x = some (.ref f)) (hx : Passes CX X E) (ha : PA X (e :: es) t) (hj : j ≤ k := by decide) (hdb : (x == ("__debug__" : PySem.Str)) = false := by decide)
    (he : starEach (e :: es) X.env = (false, eval e X.env) :: starEach es X.env := by rfl) (hpl : (backTo pos (starEach es X.env)).any (·.1) = false := by rfl) : PE X (.Call (.Name x p) (e :: es) [] pos) (tCall sp [] E t) := by
  obtain ⟨fd, F, b, kp⟩ := O.ex
  exact pe_call F (hr.mono hj) hg hm kp b .nil hx ha hdb he hpl
theorem pe_callOS {ES : L2.St → XK} (O : Okd X.prog X.w X.K X.mg X.base CX j f ps sp) (hr : Room k X.A) (hg : Gl X x) (hm : X.mg x = some (.ref f)) (hx : ∀ σ, PassesAt CX X σ (ES σ)) (ha : PA X (e :: es) t) (hj : j ≤ k := by decide) (hdb : (x == ("__debug__" : PySem.Str)) = false := by decide)
    (he : starEach (e :: es) X.env = (false, eval e X.env) :: starEach es X.env := by rfl) (hpl : (backTo pos (starEach es X.env)).any (·.1) = false := by rfl) : PE X (.Call (.Name x p) (e :: es) [] pos) (tCallS sp ES t) := by
  obtain ⟨fd, F, b, kp⟩ := O.ex
  exact pe_callS F (hr.mono hj) hg hm kp b hx ha hdb he hpl
theorem pe_makeO (M : Mk X.K C f) (O : Okd X.prog X.w X.K X.mg X.base CX j f ps sp) (hr : Room k X.A) (hg : Gl X x) (hm : X.mg x = some (.ref C)) (hx : Passes CX X E) (ha : PA X (e :: es) t) (hj : j + 1 ≤ k := by decide) (hdb : (x == ("__debug__" : PySem.Str)) = false := by decide)
    (he : starEach (e :: es) X.env = (false, eval e X.env) :: starEach es X.env := by rfl) (hpl : (backTo pos (starEach es X.env)).any (·.1) = false := by rfl) : PE X (.Call (.Name x p) (e :: es) [] pos) (tMake C sp [] E t) := by
  obtain ⟨fd, F, b, kp⟩ := O.ex
  exact pe_make M F (hr.mono hj) hg hm b .nil hx ha hdb he hpl
theorem pe_methO (c : Cls X.K C) (hm : Meth X.K C m f) (O : Okd X.prog X.w X.K X.mg X.base CX j f ps sp) (hr : Room k X.A) (hx : Passes CX X E) (ho : PE X o ta) (ha : PA X (e :: es) t) (hj : j ≤ k := by decide) {pl : Sem Bool}
    (he : starEach (e :: es) X.env = (false, eval e X.env) :: starEach es X.env := by rfl) (hpl : (backTo pos (starEach es X.env)).any (·.1) = false := by rfl)
    (hc : eval (.Call (.Attribute o m apos) (e :: es) [] pos) X.env = (do let ov ← eval o X.env; standAt apos.atName; let (f, first) ← holding [ov] (getMethod ov m pl); callWith pos f first (backTo pos (starEach (e :: es) X.env)) (backToKw pos (keywordEach [] X.env))) := by rfl) : PE X (.Call (.Attribute o m apos) (e :: es) [] pos) (tMeth C m sp [] E ta t) := by
  obtain ⟨fd, F, b, kp⟩ := O.ex
  exact pe_meth ho c hm F (hr.mono hj) b .nil hx ha he hpl hc
theorem pe_methO0 (c : Cls X.K C) (hm : Meth X.K C m f) (O : Okd X.prog X.w X.K X.mg X.base CX j f ps sp) (hr : Room k X.A) (hx : Passes CX X E) (ho : PE X o ta) (hj : j ≤ k := by decide) {pl : Sem Bool}
    (hc : eval (.Call (.Attribute o m apos) [] [] pos) X.env = (do let ov ← eval o X.env; standAt apos.atName; let (f, first) ← holding [ov] (getMethod ov m pl); callWith pos f first (backTo pos (starEach [] X.env)) (backToKw pos (keywordEach [] X.env))) := by rfl) : PE X (.Call (.Attribute o m apos) [] [] pos) (tMeth C m sp [] E ta tNil) := by
  obtain ⟨fd, F, b, kp⟩ := O.ex
  exact pe_meth0 ho c hm F (hr.mono hj) b .nil hx hc
theorem pmk_oexO (T : OexC X.K C) (iC : PySem.W.findIn X.K (.ref C) "__init__" = some (some (.ref f))) (tI : PySem.W.typeIn X.K (.ref f) = some (.type "function")) (O : Okd X.prog X.w X.K X.mg X.base CX0 j f ps sp) (hr : Room k X.A) (hg : Gl X x) (hm : X.mg x = some (.ref C)) (ha : PA X (e :: es) t)
    (hj : j + 1 ≤ k := by decide) (hdb : (x == ("__debug__" : PySem.Str)) = false := by decide) (he : starEach (e :: es) X.env = (false, eval e X.env) :: starEach es X.env := by rfl) (hpl : (backTo pos (starEach es X.env)).any (·.1) = false := by rfl) : PMk X (.Call (.Name x p) (e :: es) [] pos) (tMkO C sp [] t) := by
  obtain ⟨fd, F, b, kp⟩ := O.ex
  exact pmk_oex T iC tI F (hr.mono hj) b .nil pass0 hg hm ha hdb he hpl
end
theorem u65 {A : Around} {k : Nat} (hr : Room k A) : A.units + 65 < cLine := by
  have := hr.un
  omega
end K27
/-! The readings of the defs with a try. -/
namespace K27
open PySem PySem.Spec PyProof.Rows L2 KM
/-- try: found = look(history, thing) except NoPaper: found = None -/
def t_law_let (K : PySem.W.Frag) (LA : Addr) (LS : Sp) : TS := tSeq (tAsg (tC .non) (gName 3)) (tSeq (fun D σ H => (fun W : WX => tAsg (tCallLS 0 LA LS (WE W) (tCons (tVar 1) (tCons (tVar 2) tNil))) (gName 3))
  (wOnly K (.ref (He.ga K "NoPaper")) (fun _ _ _ => tAsg (tC .non) (gName 3)) (fun _ _ _ _ => False) D) D σ H) (tRet (tVar 3)))
/-- try: reach(..) except NoWorld as e: found = e.ring -/
def t_law_barring (K : PySem.W.Frag) : TS := tSeq (tAsg (tC .non) (gName 1)) (tSeq (fun D σ H => (fun W : WX => tDrop (tCallS (sp_reach K) (WE W) (tCons (tVar 0) (tCons (tC (.int 0)) (tCons (tOp oSub (tCB (bLen K) (tCons (tOp (rIxT K) (tVar 0) (tC (.int 1))) tNil)) (tC (.int 1))) tNil)))))
  (wAs K (.ref (He.ga K "NoWorld")) 2 (fun a cls d => tAsg (tXf a cls d (He.ga K "NoWorld") "ring" (tVar 2)) (gName 1)) (fun _ _ _ _ => False) D) D σ H) (tRet (tVar 1)))
end K27
/-! The readings keep the promises: the law. -/
namespace K27
open PySem PySem.Spec PyProof.Rows L2 KM
section
variable {M : Md} {K : PySem.W.Frag} {vs : List V} {H H' H0 HB : Hp} {Q : VK} {E : XK} {n m : Nat} {Δ : List (Option PyD)} {te td ty tx tv tb tw ta ti tf tm : TE} {σ : L2.St} {D : Ends} {d e : PyD} {f q a : Addr} {ns : List Int} {c : Nat} {P P1 P2 : PyD → Prop}
theorem rd_law_letR (kx : Kx K) (h : sp_law_letR K vs H Q E) : t_law_let K (He.ga K "lets_ring") (sp_lets_ring K) { nx := fun _ H' => Q .non H', rt := Q } (start N_law_let vs) H := by
  obtain ⟨h, ks, w, hl, hd, q⟩ := h
  refine sq (s_asg0 (P := (· = .n)) ed_non (EnvD.st (N := N_law_let) hd) fun σ1 H1 d1 p1 x1 e1 => ?_)
  subst p1
  dsimp only [tSeq, tAsg]
  obtain ⟨v0, hv0, hd0⟩ := e1.at_ 0 (.r (.ref (He.ga K "lets_ring"))) rfl
  cases hd0.raw
  refine ⟨hv0, ?_⟩
  have fin : ∀ v H2 d, ((RingC (steps h) ks ∧ d = fr (total (steps h) ks)) ∨ (¬ RingC (steps h) ks ∧ d = .n)) → Exh H1 H2 → Dt K H2 v d → tRet (tVar 3) { nx := fun x H' => Q V.non H', rt := Q } (σ1.set 3 (some v)) H2 := fun v H2 d pd x2 hv => by
    refine s_ret0 (P := (· = d)) (ed_var rfl) ((e1.tp x2.tp).set (i := 3) hv) fun v3 H3 d3 p3 x3 hv3 => ?_
    subst p3
    exact q v3 H3 d3 pd ((x1.trans x2).trans x3) hv3
  refine (ea_cons (M := M0) (K := K) (H := H1) (ed_var (i := 1) (d := dHist h) rfl) (ea_cons (ed_var (i := 2) (d := dRing ks) rfl) ea_nil)) σ1 H1 0 (Rf.refl _) e1 trivial (by decide) _ fun xs H2 ds c2 p2 r2 _ _ hxs => ?_
  subst p2
  refine ⟨h, ks, w, hl, hxs, fun v H3 d ⟨pd, rc⟩ x3 hv => fin v H3 d (.inl ⟨rc, pd⟩) (r2.ex.trans x3) hv, fun nr d H3 x3 => ⟨true, kx.eP, fun _ a ha => ?_, fun z => by cases z⟩⟩
  exact fin .non H3 .n (.inr ⟨nr, rfl⟩) (r2.ex.trans x3) .n
theorem rd_law_letW (kx : Kx K) (h : sp_law_letW K vs H Q E) : t_law_let K (He.ga K "lets_world") (sp_lets_world K) { nx := fun _ H' => Q .non H', rt := Q } (start N_law_let vs) H := by
  obtain ⟨h, t, w, hd, q⟩ := h
  refine sq (s_asg0 (P := (· = .n)) ed_non (EnvD.st (N := N_law_let) hd) fun σ1 H1 d1 p1 x1 e1 => ?_)
  subst p1
  dsimp only [tSeq, tAsg]
  obtain ⟨v0, hv0, hd0⟩ := e1.at_ 0 (.r (.ref (He.ga K "lets_world"))) rfl
  cases hd0.raw
  refine ⟨hv0, ?_⟩
  have fin : ∀ v H2 d, ((Fits (steps h) t ∧ d = dInt h.ev.length) ∨ (¬ Fits (steps h) t ∧ d = .n)) → Exh H1 H2 → Dt K H2 v d → tRet (tVar 3) { nx := fun x H' => Q V.non H', rt := Q } (σ1.set 3 (some v)) H2 := fun v H2 d pd x2 hv => by
    refine s_ret0 (P := (· = d)) (ed_var rfl) ((e1.tp x2.tp).set (i := 3) hv) fun v3 H3 d3 p3 x3 hv3 => ?_
    subst p3
    exact q v3 H3 d3 pd ((x1.trans x2).trans x3) hv3
  refine (ea_cons (M := M0) (K := K) (H := H1) (ed_var (i := 1) (d := dHist h) rfl) (ea_cons (ed_var (i := 2) (d := dWorld h.ev.length t) rfl) ea_nil)) σ1 H1 0 (Rf.refl _) e1 trivial (by decide) _ fun xs H2 ds c2 p2 r2 _ _ hxs => ?_
  subst p2
  refine ⟨h, t, w, hxs, fun ft v H3 d pd x3 hv => fin v H3 d (.inl ⟨ft, pd⟩) (r2.ex.trans x3) hv, fun nf d H3 x3 => ⟨true, kx.eP, fun _ a ha => ?_, fun z => by cases z⟩⟩
  exact fin .non H3 .n (.inr ⟨nf, rfl⟩) (r2.ex.trans x3) .n
theorem len_law_letR (h : sp_law_letR K vs H Q E) : vs.length = 3 := by
  obtain ⟨_, _, _, _, hd, _⟩ := h
  exact hd.length
theorem len_law_letW (h : sp_law_letW K vs H Q E) : vs.length = 3 := by
  obtain ⟨_, _, _, hd, _⟩ := h
  exact hd.length
theorem len_law_barring (h : sp_law_barring K vs H Q E) : vs.length = 1 := by
  obtain ⟨_, _, _, hd, _⟩ := h
  exact hd.length
theorem rd_law_barring (kx : Kx K) (h : sp_law_barring K vs H Q E) : t_law_barring K { nx := fun _ H' => Q .non H', rt := Q } (start N_law_barring vs) H := by
  obtain ⟨h, w, h2, hd, q⟩ := h
  refine sq (s_asg0 (P := (· = .n)) ed_non (EnvD.st (N := N_law_barring) hd) fun σ1 H1 d1 p1 x1 e1 => ?_)
  subst p1
  dsimp only [tSeq, tDrop]
  have wn : EvD M0 K (tOp oSub (tCB (bLen K) (tCons (tOp (rIxT K) (tVar 0) (tC (.int 1))) tNil)) (tC (.int 1))) (([dHist h].map some ++ List.replicate (N_law_barring.length - [dHist h].length) none).set 1 (some .n)) H1 (dInt (h.ev.length - 1)) := (w_sub (w_many (h := h) (ed_var (i := 0) rfl)) (ed_int (z := 1))).is (congrArg PyD.i (by omega))
  refine (ea_cons (M := M0) (K := K) (H := H1) (ed_var (i := 0) (d := dHist h) rfl) (ea_cons (ed_int (z := 0)) (ea_cons wn ea_nil))) σ1 H1 0 (Rf.refl _) e1 trivial (by decide) _ fun xs H2 ds c2 p2 r2 _ _ hxs => ?_
  subst p2
  refine ⟨h, 0, h.ev.length - 1, w, by omega, by omega, hxs, fun v H3 d ⟨t, ft⟩ x3 hv => ?_, fun ks d H3 fs v hr x3 hf hlk hv => ⟨true, kx.eW, fun _ a ha => ?_, fun z => by cases z⟩⟩
  · refine s_ret0 (P := (· = .n)) (ed_var (i := 1) rfl) (e1.tp (r2.ex.trans x3).tp) fun v3 H4 d3 p3 x4 hv3 => ?_
    subst p3
    exact q v3 H4 .n (.inl ⟨rfl, t, ft⟩) (((x1.trans r2.ex).trans x3).trans x4) hv3
  · have e3 := ((e1.tp (r2.ex.trans x3).tp).set (i := 2) (v := .ref a) (.r _))
    refine ⟨.ref a, List.getElem?_set_self (by rw [e1.len]; exact Nat.le_of_ble_eq_true rfl), rfl, rfl, d, fs, v, rfl, hf, hlk, ?_⟩
    have e4 := (e3.set (i := 1) hv).dropS 2
    refine s_ret0 (P := (· = dRing ks)) (ed_var (i := 1) rfl) e4 fun v3 H4 d3 p3 x4 hv3 => ?_
    exact q v3 H4 d3 (.inr ⟨ks, p3, hr⟩) (((x1.trans r2.ex).trans x3).trans x4) hv3
/-- [a, a] == [n] * 2 -/
theorem ev_two {tl : TE} {k : Nat} (h : ElD M0 K tl Δ H [dInt k, dInt k]) (hk : EvD M0 K te Δ H (dInt k)) : EvD M0 K (tOp (rEqD K) tl (tOp rRep (tLst (tCons te tNil)) (tC (.int 2)))) Δ H (.b true) := fun σ H1 c r1 e1 s1 hc Q qq => by
  refine h σ H1 c r1 e1 s1 hc _ fun p H2 us ds c2 pd hp h2 hd r2 s2 hc2 => ?_
  subst pd
  refine (el_lst (ea_cons hk ea_nil)) σ H2 c2 (r1.trans r2) (e1.tp r2.tup) s2 (by omega) _ fun l H3 us3 ds3 c3 pd3 hl h3 hd3 r3 s3 hc3 => ?_
  subst pd3
  have p3 := r3.ex _ _ h2
  refine ⟨l, 2, us3, rfl, rfl, h3, by decide, by decide, ?_, fun z hz => ?_⟩
  · rw [hd3.length]
    exact Nat.le_of_lt (small1000 (Nat.le_of_ble_eq_true rfl))
  have x4 := Exh.new (o := .lst (List.replicate (2 : Int).toNat us3).flatten) hz
  have e3 : us3 = intsV [k] := ints_of (ks := [k]) hd3
  have e2 : us = intsV [k, k] := ints_of (ks := [k, k]) hd
  subst e3
  subst e2
  refine ⟨.list (intsP [k, k]), .list (intsP [k, k]), .lst (SqL.of (x4 _ _ p3)) (intsP_dp [k, k]), .lst (SqL.of upd_same) (intsP_dp [k, k]), intsP_shaped _, intsP_shaped _, ?_⟩
  have : PyData.eqv (.list (intsP [k, k])) (.list (intsP [k, k])) = true := by
    simp [intsP, PyData.eqv, PyData.eqvAll]
  rw [this]
  exact qq _ _ _ c3 rfl ((r2.trans r3).trans x4.rf) trivial (by omega) (.b true)
theorem frs_of {ds : List PyD} (hf : ∀ d ∈ ds, ∃ z, d = fr z) : ∃ zs : List Int, ds = zs.map fr := by
  induction ds with
  | nil => exact ⟨[], rfl⟩
  | cons d ds ih =>
    obtain ⟨z, rfl⟩ := hf d (List.mem_cons_self ..)
    obtain ⟨zs, rfl⟩ := ih fun d hd => hf d (List.mem_cons_of_mem _ hd)
    exact ⟨z :: zs, rfl⟩
theorem fr_depth (z : Int) : (toP (fr z)).depth ≤ 10 := by simp [fr, toP, toPs, PyData.depth, PyData.depthAll]
theorem frs_depth : ∀ zs : List Int, PyData.depthAll (toPs (zs.map fr)) ≤ 10
  | [] => by simp [toPs, PyData.depthAll]
  | z :: zs => by
    have h1 := fr_depth z
    have h2 := frs_depth zs
    simp only [List.map_cons, toPs, PyData.depthAll]
    omega
theorem lc_frs {ds es : List PyD} (h : LcR (fun d o => ∃ z, o = some (fr z)) ds es) : ∀ d ∈ es, ∃ z, d = fr z := by
  induction h with
  | nil => exact fun d hd => by cases hd
  | no _ r ih =>
    obtain ⟨z, e⟩ := r
    cases e
  | yes _ r ih =>
    obtain ⟨z, e⟩ := r
    injection e with e
    intro d hd
    rcases List.mem_append.mp hd with hd | hd
    · exact ih d hd
    · rw [List.mem_singleton.mp hd]
      exact ⟨z, e⟩
/-- None not in [..], all fractions -/
theorem ev_noNone {tl : TE} (h : EvL M0 K tl Δ H 0 (fun ds => ds.length ≤ 10 ∧ ∀ d ∈ ds, ∃ z, d = fr z)) : EvD M0 K (tOp (rNotInD K) (tC .non) tl) Δ H (.b true) := fun σ H1 c r1 e1 s1 hc Q qq => by
  refine h σ H1 c r1 e1 s1 hc _ fun p H2 us ds c2 ⟨hl, hf⟩ hp h2 hd r2 s2 hc2 => ?_
  obtain ⟨zs, rfl⟩ := frs_of hf
  have okk : okPs (zs.map fr) = true := okPs_map fun z _ => by simp [fr, okP, okPs]
  have hdep := frs_depth zs
  refine ⟨.none, toPs (zs.map fr), .non, .lst (SqL.of h2) (hd.dp okk), by decide +kernel, ?_, ?_⟩
  · unfold SeqAt.shaped
    rw [Bool.and_eq_true]
    refine ⟨by rw [PyData.canLay0]; exact okPs_lay okk, decide_eq_true ?_⟩
    rw [PyData.depth]
    omega
  · have : (!(toPs (zs.map fr)).any fun z => PyData.eqv z .none) = true := by
      have : ∀ zs : List Int, ((toPs (zs.map fr)).any fun z => PyData.eqv z .none) = false := fun zs => by
        induction zs with
        | nil => simp [toPs]
        | cons z zs ih => simp [toPs, fr, toP, PyData.eqv] at ih ⊢; exact ih
      rw [this]
      rfl
    rw [this]
    exact qq _ _ _ c2 rfl r2 trivial hc2 (.b true)
theorem no_ringS {st : Steps} {t : Nat → Int} {ks : List Nat} (ft : Fits st t) (r : RingS st ks) : False := no_both ft r.1
theorem no_ringC {st : Steps} {t : Nat → Int} {ks : List Nat} (ft : Fits st t) (r : RingC st ks) : False := no_both ft r.ring
/-! what the three tell, for both kinds of histories -/
theorem c_wor {h : HistS} (w : WF h) : CallD M K (sp_world_or_ring K) H [dHist h] 0 (PWR h) := CallD.of fun xs H1 Q E r hx q => ⟨h, w, hx, q⟩
theorem c_ring {h : HistS} (w : WF h) : CallD M K (sp_ring_of K) H [dHist h] 0 (fun d => (d = .n ∧ ∃ t, Fits (steps h) t) ∨ ∃ ks, d = dRing ks ∧ RingS (steps h) ks) := CallD.of fun xs H1 Q E r hx q => ⟨h, w, hx, q⟩
theorem c_barring {h : HistS} (w : WF h) (h2 : 2 ≤ h.ev.length) : CallD M K (sp_law_barring K) H [dHist h] 0 (fun d => (d = .n ∧ ∃ t, Fits (steps h) t) ∨ ∃ ks, d = dRing ks ∧ RingS (steps h) ks) := CallD.of fun xs H1 Q E r hx q => ⟨h, w, h2, hx, q⟩
theorem c_letR {h : HistS} {ks : List Nat} (w : WF h) (hl : ks.length ≤ 1000) : CallD M K (sp_law_letR K) H [.r (.ref (He.ga K "lets_ring")), dHist h, dRing ks] 0 (fun d => (RingC (steps h) ks ∧ d = fr (total (steps h) ks)) ∨ (¬ RingC (steps h) ks ∧ d = .n)) := CallD.of fun xs H1 Q E r hx q => ⟨h, ks, w, hl, hx, q⟩
theorem c_letW {h : HistS} {t : Nat → Int} (w : WF h) : CallD M K (sp_law_letW K) H [.r (.ref (He.ga K "lets_world")), dHist h, dWorld h.ev.length t] 0 (fun d => (Fits (steps h) t ∧ d = dInt h.ev.length) ∨ (¬ Fits (steps h) t ∧ d = .n)) := CallD.of fun xs H1 Q E r hx q => ⟨h, t, w, hx, q⟩
theorem ed_raw {v : V} : EvD M K (tC v) Δ H (.r v) := ed_c fun _ _ => .r v
theorem ed_call1 {sp : Sp} {E : XK} {tl : TA} {ds : List PyD} (h : EaD M K tl Δ H ds) (hs : CallD M K sp H ds 0 P) (hp : ∀ d, P d → d = e) : EvD M K (tCall sp [] E tl) Δ H e := (ev_call (n := 0) (m := 0) h fun ds' p => by subst p; exact hs).imp hp
theorem ev_call1 {sp : Sp} {E : XK} {tl : TA} {ds : List PyD} (h : EaD M K tl Δ H ds) (hs : CallD M K sp H ds 0 P) : Ev M K (tCall sp [] E tl) Δ H 0 P := ev_call (n := 0) (m := 0) h fun ds' p => by subst p; exact hs
theorem letW_fit {h : HistS} {t : Nat → Int} (w : WF h) (ft : Fits (steps h) t) (h0 : EvD M K ta Δ H (dHist h)) (h1 : EvD M K tb Δ H (dWorld h.ev.length t)) : EvD M K (tCall (sp_law_letW K) [] E0 (tCons (tC (.ref (He.ga K "lets_world"))) (tCons ta (tCons tb tNil)))) Δ H (dInt h.ev.length) :=
  ed_call1 (ea_cons ed_raw (ea_cons h0 (ea_cons h1 ea_nil))) (c_letW w) fun d hd => by
    rcases hd with ⟨_, e⟩ | ⟨nf, _⟩
    · exact e
    · exact absurd ft nf
theorem letW_no {h : HistS} {t : Nat → Int} (w : WF h) (nf : ¬ Fits (steps h) t) (h0 : EvD M K ta Δ H (dHist h)) (h1 : EvD M K tb Δ H (dWorld h.ev.length t)) : EvD M K (tCall (sp_law_letW K) [] E0 (tCons (tC (.ref (He.ga K "lets_world"))) (tCons ta (tCons tb tNil)))) Δ H .n :=
  ed_call1 (ea_cons ed_raw (ea_cons h0 (ea_cons h1 ea_nil))) (c_letW w) fun d hd => by
    rcases hd with ⟨ft, _⟩ | ⟨_, e⟩
    · exact absurd ft nf
    · exact e
theorem letR_no {h : HistS} {ks : List Nat} (w : WF h) (hl : ks.length ≤ 1000) (nr : ¬ RingC (steps h) ks) (h0 : EvD M K ta Δ H (dHist h)) (h1 : EvD M K tb Δ H (dRing ks)) : EvD M K (tCall (sp_law_letR K) [] E0 (tCons (tC (.ref (He.ga K "lets_ring"))) (tCons ta (tCons tb tNil)))) Δ H .n :=
  ed_call1 (ea_cons ed_raw (ea_cons h0 (ea_cons h1 ea_nil))) (c_letR w hl) fun d hd => by
    rcases hd with ⟨r, _⟩ | ⟨_, e⟩
    · exact absurd r nr
    · exact e
theorem letR_yes {h : HistS} {ks : List Nat} (w : WF h) (r : RingS (steps h) ks) (h0 : EvD M K ta Δ H (dHist h)) (h1 : EvD M K tb Δ H (dRing ks)) : EvD M K (tCall (sp_law_letR K) [] E0 (tCons (tC (.ref (He.ga K "lets_ring"))) (tCons ta (tCons tb tNil)))) Δ H (fr (total (steps h) ks)) :=
  ed_call1 (ea_cons ed_raw (ea_cons h0 (ea_cons h1 ea_nil))) (c_letR w r.2) fun d hd => by
    rcases hd with ⟨_, e⟩ | ⟨nr, _⟩
    · exact e
    · exact absurd r.1.c nr
theorem ring_fit {h : HistS} {t : Nat → Int} (w : WF h) (ft : Fits (steps h) t) (h0 : EvD M K ta Δ H (dHist h)) : EvD M K (tCall (sp_ring_of K) [] E0 (tCons ta tNil)) Δ H .n := ed_call1 (ea_cons h0 ea_nil) (c_ring w) fun d hd => by
  rcases hd with ⟨e, _⟩ | ⟨ks, _, r⟩
  · exact e
  · exact absurd r fun r => no_ringS ft r
theorem barring_fit {h : HistS} {t : Nat → Int} (w : WF h) (h2 : 2 ≤ h.ev.length) (ft : Fits (steps h) t) (h0 : EvD M K ta Δ H (dHist h)) : EvD M K (tCall (sp_law_barring K) [] E0 (tCons ta tNil)) Δ H .n := ed_call1 (ea_cons h0 ea_nil) (c_barring w h2) fun d hd => by
  rcases hd with ⟨e, _⟩ | ⟨ks, _, r⟩
  · exact e
  · exact absurd r fun r => no_ringS ft r
theorem ring_no {h : HistS} (w : WF h) (nf : ¬ ∃ t, Fits (steps h) t) (h0 : EvD M K ta Δ H (dHist h)) : Ev M K (tCall (sp_ring_of K) [] E0 (tCons ta tNil)) Δ H 0 (fun d => ∃ ks, d = dRing ks ∧ RingS (steps h) ks) := (ev_call1 (ea_cons h0 ea_nil) (c_ring w)).imp fun d hd => by
  rcases hd with ⟨_, ft⟩ | r
  · exact absurd ft nf
  · exact r
theorem barring_no {h : HistS} (w : WF h) (h2 : 2 ≤ h.ev.length) (nf : ¬ ∃ t, Fits (steps h) t) (h0 : EvD M K ta Δ H (dHist h)) : Ev M K (tCall (sp_law_barring K) [] E0 (tCons ta tNil)) Δ H 0 (fun d => ∃ ks, d = dRing ks ∧ RingS (steps h) ks) := (ev_call1 (ea_cons h0 ea_nil) (c_barring w h2)).imp fun d hd => by
  rcases hd with ⟨_, ft⟩ | r
  · exact absurd ft nf
  · exact r
theorem isN_ring {st : Steps} (h : Ev M K te Δ H 0 (fun d => ∃ ks : List Nat, d = dRing ks ∧ RingS st ks)) : EvD M K (tOp oIsN te (tC .non)) Δ H (.b false) := ev_op (n := 0) (m := 0) h ed_non fun d e pd pe => by
  obtain ⟨ks, rfl, _⟩ := pd
  subst pe
  exact rop_isNo fun _ _ h => tup_nn h
theorem wor_fit {h : HistS} {t : Nat → Int} (w : WF h) (ft : Fits (steps h) t) (h0 : EvD M K ta Δ H (dHist h)) : EvD M K (tOp (rIxT K) (tCall (sp_world_or_ring K) [] E0 (tCons ta tNil)) (tC (.int 0))) Δ H (.s "world") := ev_op (n := 0) (m := 0) (ev_call1 (ea_cons h0 ea_nil) (c_wor w)) ed_int fun d e pd pe => by
  subst pe
  rcases pd with ⟨t, rfl, _⟩ | ⟨ks, rfl, r⟩
  · exact rop_ixT rfl
  · exact absurd r fun r => no_ringS ft r
theorem wor_no {h : HistS} (w : WF h) (nf : ¬ ∃ t, Fits (steps h) t) (h0 : EvD M K ta Δ H (dHist h)) : EvD M K (tOp (rIxT K) (tCall (sp_world_or_ring K) [] E0 (tCons ta tNil)) (tC (.int 0))) Δ H (.s "ring") := ev_op (n := 0) (m := 0) (ev_call1 (ea_cons h0 ea_nil) (c_wor w)) ed_int fun d e pd pe => by
  subst pe
  rcases pd with ⟨t, rfl, ft⟩ | ⟨ks, rfl, r⟩
  · exact absurd ⟨t, ft⟩ nf
  · exact rop_ixT rfl
theorem len_law_right (h : sp_law_right K vs H Q E) : vs.length = 2 := by
  obtain ⟨_, _, _, _, hd, _⟩ := h
  exact hd.length
theorem rd_law_right (kx : Kx K) (h : sp_law_right K vs H Q E) : t_law_right K { nx := fun _ H' => Q .non H', rt := Q } (start N_law_right vs) H := by
  obtain ⟨h, t, w, h2, hd, q⟩ := h
  have wl := w.len
  refine sq (s_asgT (M := M0) (c := 0) (n := 0) (is := [2, 3]) (PA := fun ds => PWR h (.t ds)) ((ev_call1 (ea_cons (ed_var rfl) ea_nil) (c_wor w)).imp fun d pd => ?_) (fun ds pd => ?_) (EnvD.st hd) trivial (by decide) fun σ1 H1 ds c1 pd r1 e1 _ _ => ?_)
  · rcases pd with ⟨t, rfl, f⟩ | ⟨ks, rfl, r⟩
    · exact ⟨_, rfl, .inl ⟨t, rfl, f⟩⟩
    · exact ⟨_, rfl, .inr ⟨ks, rfl, r⟩⟩
  · rcases pd with ⟨t, e, f⟩ | ⟨ks, e, r⟩
    · cases e
      rfl
    · cases e
      rfl
  have x1 := r1.ex
  dsimp only
  rcases pd with ⟨t', ed, ft⟩ | ⟨ks, ed, hr⟩
  · cases ed
    refine sq (s_par (M := M0) (c := 0) (n := 0) (PA := (· = [.n, .n])) (ea_cons (ring_fit w ft (ed_var rfl)) (ea_cons (barring_fit w h2 ft (ed_var rfl)) ea_nil)) (fun ds e => ⟨_, _, e⟩) e1 trivial (by decide) fun σ2 H2 d2 d2' c2 p2 r2 e2 _ _ => ?_)
    have p2 : [d2, d2'] = [.n, .n] := p2
    cases p2
    dsimp only
    refine sq (s_if0 (k := true) ((et_test (w_eqS (ed_var rfl) ed_str)).is (by decide)) e2 (fun _ H3 x3 e3 => ?_) fun z => by cases z)
    refine sq (s_asg0 (P := (· = dWorld h.ev.length fun k => t' k + 280)) ((ed_tupL (el_lcA (f := fun d => match d with | .t [.i a, .i b] => fr (120 * a / b + 280) | _ => .n) (it_tupD (ds := (List.range h.ev.length).map fun k => fr (t' k)) (ed_var rfl)) (fun _ _ _ r => r.tup) (by rw [List.length_map, List.length_range]; omega) fun d hd => ?_)).is ?_) e3 fun σ4 H4 d4 p4 x4 e4 => ?_)
    · obtain ⟨k, _, rfl⟩ := List.mem_map.mp hd
      have fp := fd_pos (t' k)
      have fl := fd_le (t' k)
      have ez : 120 * fn (t' k) / fd (t' k) = t' k := by
        rw [← fr_eq, Int.mul_ediv_cancel _ (by omega)]
      have ef : (match fr (t' k) with
        | .t [.i a, .i b] => fr (120 * a / b + 280)
        | _ => PyD.n) = fr (t' k + 280) := by
        show fr (120 * fn (t' k) / fd (t' k) + 280) = _
        rw [ez]
      refine ⟨_, tg_name (by decide), Ev.is (mod_frac (a := fn (t' k) * 3 + 7 * fd (t' k)) (b := 3 * fd (t' k)) (z := t' k + 280) (by omega) (by omega) (later_eq _) (w_add (w_mul (w_ix (ed_var (d := fr (t' k)) rfl) rfl) ed_int (mul64r (by decide) (by decide))) (w_mul ed_int (w_ix (ed_var (d := fr (t' k)) rfl) rfl) (mul64l (by decide) (by decide)))) (w_mul ed_int (w_ix (ed_var (d := fr (t' k)) rfl) rfl) (mul64l (by decide) (by decide)))) ef.symm⟩
    · unfold dWorld
      rw [List.map_map]
      congr 1
      refine List.map_congr_left fun k _ => ?_
      have fp := fd_pos (t' k)
      have ez : 120 * fn (t' k) / fd (t' k) = t' k := by
        rw [← fr_eq, Int.mul_ediv_cancel _ (by omega)]
      show fr (120 * fn (t' k) / fd (t' k) + 280) = _
      rw [ez]
    subst p4
    have ft2 : Fits (steps h) fun k => t' k + 280 := fun s hs => by
      have := ft s hs
      show t' s.2.1 + 280 ≤ t' s.1 + 280 + s.2.2
      omega
    dsimp only
    refine sq (s_if0 (k := false) ((et_or (a := false) (b := false) (et_test (w_notT (ed_var rfl))) fun _ => et_or (a := false) (b := false) (et_test (w_notT (ed_var rfl))) fun _ => et_test (w_notT (letR_no (ks := [0, 1]) w (by decide) (fun r => no_ringC ft r) (ed_var rfl) (ed_tup (ea_cons ed_int (ea_cons ed_int ea_nil)))))).is rfl) e4 (fun z => by cases z) fun _ H5 x5 e5 => ?_)
    dsimp only [tNext]
    refine s_ret0 (P := (· = .b true)) (ev_two (k := h.ev.length) (EvL.imp (el_lcA (f := fun _ => dInt h.ev.length) (it_tupD (ds := [dWorld h.ev.length t', dWorld h.ev.length fun k => t' k + 280]) (ed_tup (ea_cons (ed_var rfl) (ea_cons (ed_var rfl) ea_nil)))) (fun _ _ _ r => r.tup) (Nat.le_of_ble_eq_true rfl) fun d hd => ⟨_, tg_name (by decide), ?_⟩) fun ds e => e) ?_) e5 (q.le ((((x1.trans r2.ex).trans x3).trans x4).trans x5))
    · rcases List.mem_cons.mp hd with hd | hd
      · subst hd
        exact letW_fit w ft (ed_var rfl) (ed_var rfl)
      · have hd := List.mem_singleton.mp hd
        subst hd
        exact letW_fit w ft2 (ed_var rfl) (ed_var rfl)
    · have := w_len (M := M0) (K := K) (H := H5) (ds := (List.range h.ev.length).map fun k => fr (t' k)) (ed_var (i := 3) (Δ := ((((setN ([dHist h, dWorld h.ev.length t].map some ++ List.replicate (N_law_right.length - [dHist h, dWorld h.ev.length t].length) none) [2, 3] [.s "world", dWorld h.ev.length t']).set 4 (some .n)).set 5 (some .n)).set 6 (some (dWorld h.ev.length fun k => t' k + 280)))) rfl)
      rw [List.length_map, List.length_range] at this
      exact this
  · cases ed
    have nf : ¬ ∃ t, Fits (steps h) t := fun ⟨t, ft⟩ => no_ringS ft hr
    refine sq (s_par (M := M0) (c := 0) (n := 0) (PA := fun ds => ∃ k1 k2, ds = [dRing k1, dRing k2] ∧ RingS (steps h) k1 ∧ RingS (steps h) k2) ((ev_cons (n := 0) (m := 0) (ring_no w nf (ed_var rfl)) (ev_cons (n := 0) (m := 0) (barring_no w h2 nf (ed_var rfl)) ea_nil)).imp ?_) (fun ds ⟨k1, k2, e, _⟩ => ⟨_, _, e⟩) e1 trivial (by decide) fun σ2 H2 d2 d2' c2 ⟨k1, k2, p2, hr1, hr2⟩ r2 e2 _ _ => ?_)
    · rintro ds ⟨d1, r1, rfl, ⟨k1, rfl, a1⟩, d2, r2, rfl, ⟨k2, rfl, a2⟩, rfl⟩
      exact ⟨k1, k2, rfl, a1, a2⟩
    cases p2
    dsimp only
    refine sq (s_if0 (k := false) ((et_test (w_eqS (ed_var rfl) ed_str)).is (by decide)) e2 (fun z => by cases z) fun _ H3 x3 e3 => ?_)
    dsimp only [tNext]
    refine sq (s_if0 (k := false) ((et_or (a := false) (b := false) ((et_test (w_neS (ed_var rfl) ed_str)).is (by decide)) fun _ => et_test (w_notT (letW_no w (fun ft => nf ⟨t, ft⟩) (ed_var rfl) (ed_var rfl)))).is rfl) e3 (fun z => by cases z) fun _ H4 x4 e4 => ?_)
    dsimp only [tNext]
    refine s_ret0 (P := (· = .b true)) (ev_noNone (EvL.imp (ev_lc (R := fun d o => ∃ z, o = some (fr z)) (PA := (· = [dRing ks, dRing k1, dRing k2])) (it_tupD (ds := [dRing ks, dRing k1, dRing k2]) (ed_tup (ea_cons (ed_var rfl) (ea_cons (ed_var rfl) (ea_cons (ed_var rfl) ea_nil))))) (fun _ _ _ r => r.tup) (fun ds e => by rw [e]; exact Nat.le_of_ble_eq_true rfl) fun ds e d hd => ?_) fun es ⟨ds, e, hlc⟩ => ?_)) e4 (q.le (((x1.trans r2.ex).trans x3).trans x4))
    · subst e
      have : ∃ k, d = dRing k ∧ RingS (steps h) k := by
        rcases List.mem_cons.mp hd with hd | hd
        · exact ⟨ks, hd, hr⟩
        · rcases List.mem_cons.mp hd with hd | hd
          · exact ⟨k1, hd, hr1⟩
          · exact ⟨k2, List.mem_singleton.mp hd, hr2⟩
      obtain ⟨k, rfl, hk⟩ := this
      refine ⟨true, _, tg_name (by decide), et_test (w_notF (ds := k.map dInt) (ed_var rfl)), fun z => (by cases z), fun _ => (letR_yes w hk (ed_var rfl) (ed_var rfl)).imp fun d e => ⟨total (steps h) k, congrArg some e⟩⟩
    · subst e
      exact ⟨Nat.le_trans hlc.len (Nat.le_of_ble_eq_true rfl), lc_frs hlc⟩
theorem ev_feed2 {na n0 : Nat} {args : PyD → List PyD → Prop} {PP : List PyD → PyD → Prop} {PA : List PyD → Prop} {tl : TA} (h : EvA (MF f q ns) K tl Δ H n0 PA) (ha : ∀ ds, PA ds → args (.r (.ref f)) ds) : Ev (MF f q ns) K (tCall (spFeed K na args PP) [] E0 tl) Δ H (n0 + na) (fun d => ∃ ds, PA ds ∧ PP ds d) := fun σ H1 c r1 e1 s1 hc Q qq => by
  refine h σ H1 c r1 e1 s1 (by omega) _ fun xs H2 ds' c2 p2 r2 s2 hc2 hxs => ?_
  rw [List.append_nil]
  exact ⟨f, q, ns, c2, _, ha _ p2, hxs, s2, by omega, fun v d H' c' p r s hc' hv => qq v H' d c' ⟨ds', p2, p⟩ (r2.trans r) s (by omega) hv⟩
theorem len_law (h : sp_law K vs H Q E) : vs.length = 1 := by
  obtain ⟨_, _, rfl, _⟩ := h
  rfl
theorem rd_law (kx : Kx K) (h : sp_law K vs H Q E) : t_law K { nx := fun _ H' => Q .non H', rt := Q } (start N_law vs) H := by
  obtain ⟨a, ns, rfl, hs, hl, qq⟩ := h
  dsimp only [t_law, tSeq, tAsg, tCall, tCons, tNil]
  refine ⟨.ref a, rfl, a, ns, rfl, hs, hl, fun f q H1 hf hq x1 s1 => ?_⟩
  have s1 : (MF f q ns).Rs H1 0 := s1
  have e0 : EnvD K (L2.start N_law [.ref a]) H1 [some (.r (.ref a)), none, none, none, none, none, none] := EnvD.st (N := N_law) (ds := [.r (.ref a)]) (.one (.r _))
  have e1 : EnvD K ((L2.start N_law [.ref a]).set 1 (some (.ref f))) H1 [some (.r (.ref a)), some (.r (.ref f)), none, none, none, none, none] := e0.set (i := 1) (v := .ref f) (.r _)
  dsimp only [gName]
  generalize (L2.start N_law [.ref a]).set 1 (some (.ref f)) = σ1 at e1 ⊢
  refine s_for (M := MF f q ns) (c := 0) (n := 0) (it_rngD (k := 3) (ea_cons ed_int ea_nil) (by decide)) e1 s1 (by decide) fun H2 ds2 c2 pd2 r2 e2 s2 hc2 => ?_
  subst pd2
  refine ⟨fun i σ' H' => EnvD K σ' H' [some (.r (.ref a)), some (.r (.ref f)), none, none, none, none, none] ∧ ∃ c', c' ≤ 500 * i ∧ (MF f q ns).Rs H' c', ⟨e2, c2, hc2, s2⟩, fun _ _ _ _ => trivial, ?_, ?_⟩
  · rintro i d σ' H3 H4 v hdi ⟨e3, c3, hc3, s3⟩ x4 hv
    obtain ⟨hi, rfl⟩ := range_ne hdi
    have hCM : c3 + 500 ≤ CM := by
      show c3 + 500 ≤ 100000
      omega
    have e4 := (e3.tp x4.tp).set (i := 2) hv
    have s4 := (MF f q ns).mono _ _ _ x4 s3
    have e4 := e4.drop 2
    refine sq (s_asgT (M := MF f q ns) (n := 401) (is := [3, 4]) (PA := fun ds => ∃ (n : Nat) (h : HistS) (t : Nat → Int), ds = [dHist h, dWorld n t] ∧ 2 ≤ n ∧ okHist h n ∧ Fits (steps h) t) ((ev_feed2 (n0 := 1) (PA := fun ds => ∃ n : Nat, 2 ≤ n ∧ n ≤ 14 ∧ ds = [.r (.ref f), .i 4, dInt n]) ((ev_cons (n := 0) (m := 1) (ed_var (i := 1) rfl) (ev_cons (n := 0) (m := 1) (ed_int (z := 4)) (ev_cons (n := 1) (m := 0) (ev_op (n := 0) (m := 1) (P := fun d => ∃ n : Nat, d = dInt n ∧ 2 ≤ n ∧ n ≤ 14) (ed_int (z := 2)) (ev_draw (m := 13) (ed_var (i := 1) rfl) ed_int (by decide) (by decide)) fun d e pd pe => ?_) ea_nil))).imp ?_) fun ds ⟨n, h1, h2, e⟩ => ⟨n, h1, h2, e⟩).imp ?_ (by omega)) ?_ e4 s4 (by omega) fun σ5 H5 ds5 c5 ⟨n, h, t, p5, n2, ⟨w, hn, hok⟩, ft⟩ r5 e5 s5 hc5 => ?_)
    · obtain ⟨k, rfl, k0, k1⟩ := pe
      subst pd
      refine rop_add ⟨(2 + k).toNat, congrArg PyD.i (by omega), by omega, by omega⟩
    · rintro ds ⟨d1, r1, rfl, rfl, d2, r2, rfl, rfl, d3, r3, rfl, ⟨n, rfl, hn⟩, rfl⟩
      exact ⟨n, hn.1, hn.2, rfl⟩
    · rintro d ⟨ds, ⟨n, n2, n14, rfl⟩, f', n', h, t, e1, rfl, ok, ft⟩
      have : n' = n := by
        injection e1 with _ e1
        injection e1 with _ e1
        injection e1 with e1
        injection e1 with e1
        omega
      subst this
      exact ⟨_, rfl, n', h, t, rfl, n2, ok, ft⟩
    · rintro ds ⟨n, h, t, rfl, _⟩
      rfl
    subst p5
    subst hn
    dsimp only
    refine sq (s_if (M := MF f q ns) (n := 0) (PB := (· = false)) ((et_or (a := false) (b := false) ((et_test (w_neS (wor_fit w ft (ed_var rfl)) ed_str)).is (by decide)) fun _ => (et_test (w_neI (letW_fit w ft (ed_var rfl) (ed_var rfl)) (w_len (ds := (List.range h.ev.length).map fun k => fr (t k)) (ed_var rfl)))).is (by rw [List.length_map, List.length_range, decide_eq_true rfl]; rfl)).is rfl) e5 s5 (by omega) (fun z => by cases z) fun _ H6 c6 r6 e6 s6 hc6 => ?_)
    dsimp only [tNext]
    refine sq (s_asg (M := MF f q ns) (n := 0) (P := (· = dHist h)) (ed_var rfl) e6 s6 (by omega) fun σ7 H7 d7 c7 p7 r7 e7 s7 hc7 => ?_)
    subst p7
    dsimp only
    refine s_for (M := MF f q ns) (n := 0) (it_rngD (k := 3) (ea_cons ed_int ea_nil) (by decide)) e7 s7 (by omega) fun H8 ds8 c8 pd8 r8 e8 s8 hc8 => ?_
    subst pd8
    refine ⟨fun j σ' H' => ∃ h' c', EnvD K σ' H' [some (.r (.ref a)), some (.r (.ref f)), none, some (dHist h), some (dWorld h.ev.length t), some (dHist h'), none] ∧ okHist h' h.ev.length ∧ (MF f q ns).Rs H' c' ∧ c' ≤ c8 + 10 * j, ⟨h, c8, e8, ⟨w, rfl, hok⟩, s8, Nat.le_refl _⟩, fun _ _ _ _ => trivial, ?_, ?_⟩
    · rintro j d σ' H9 H10 v hdj ⟨h9, c9, e9, ⟨w9, hn9, hok9⟩, s9, hc9⟩ x10 hv
      obtain ⟨hj, rfl⟩ := range_ne hdj
      have e10 := ((e9.tp x10.tp).set (i := 6) hv).drop 6
      have s10 := (MF f q ns).mono _ _ _ x10 s9
      refine sq (s_asg (M := MF f q ns) (n := 10) (P := fun d => ∃ h', d = dHist h' ∧ okHist h' h.ev.length) ((ev_feed (ds := [.r (.ref f), dHist h9]) (ea_cons (ed_var (i := 1) rfl) (ea_cons (ed_var (i := 5) rfl) ea_nil)) ⟨h9, h.ev.length, ⟨w9, hn9, hok9⟩, rfl⟩).imp fun d pd => pd (.r (.ref f)) h9 h.ev.length ⟨w9, hn9, hok9⟩ rfl) e10 s10 (by omega) fun σ11 H11 d11 c11 ⟨h', p11, w', hn', hok'⟩ r11 e11 s11 hc11 => ?_)
      subst p11
      dsimp only
      have n2' : 2 ≤ h'.ev.length := by omega
      refine sq (s_if (M := MF f q ns) (n := 0) (PB := (· = false)) ((et_not (a := true) (et_B (ed_call (ea_cons (ed_var (i := 5) (d := dHist h') rfl) (ea_cons (ed_var (i := 4) (d := dWorld h.ev.length t) rfl) ea_nil)) (CallD.of fun xs H1 Q E r hx q => ⟨h', t, w', n2', by rw [hn']; exact hx, q⟩)))).is rfl) e11 s11 (by omega) (fun z => by cases z) fun _ H12 c12 r12 e12 s12 hc12 => ?_)
      dsimp only [tNext]
      refine s_if (M := MF f q ns) (n := 0) (PB := (· = false)) (?_ : EvT _ _ _ _ _ _ _) e12 s12 (by omega) (fun z => by cases z) fun _ H13 c13 r13 e13 s13 hc13 => ?_
      · by_cases hfit : ∃ t, Fits (steps h') t
        · obtain ⟨t', ft'⟩ := hfit
          exact (et_and (a := false) (b := true) ((et_test (w_eqS (wor_fit w' ft' (ed_var (i := 5) (d := dHist h') rfl)) ed_str)).is (by decide)) fun z => by cases z).is rfl
        · exact (et_and (a := true) (b := false) ((et_test (w_eqS (wor_no w' hfit (ed_var (i := 5) (d := dHist h') rfl)) ed_str)).is (by decide)) fun _ => et_or (a := false) (b := false) (et_test (isN_ring (ring_no w' hfit (ed_var (i := 5) (d := dHist h') rfl)))) fun _ => et_test (isN_ring (barring_no w' n2' hfit (ed_var (i := 5) (d := dHist h') rfl)))).is rfl
      · exact ⟨h', c13, e13, ⟨w', hn', hok'⟩, s13, by omega⟩
    · rintro σ9 H9 ⟨h9, c9, e9, _, s9, hc9⟩
      rw [List.length_map, List.length_range] at hc9
      exact ⟨((e9.drop 3).drop 4).drop 5, c9, by omega, s9⟩
  · rintro σ3 H3 ⟨e3, _⟩
    dsimp only
    refine s_ret0 (P := (· = .b true)) ed_bl e3 fun v H4 d p x hv => ?_
    subst p
    cases hv.bl
    exact qq H4
end
end K27
namespace K27
open PySem PySem.Spec PyProof.Rows L2 KM
section
variable {P : Program} {w : World} {K : PySem.W.Frag} {mg : PySem.Str → Option Value} {base : Heap}
theorem sc_NoPaper_init : FnScope N_NoPaper_init ["self", "word", "at"] (defScope s_NoPaper_init) := ⟨rfl, rfl, rfl, by decide +kernel, rfl, by decide +kernel, by decide +kernel⟩
theorem ok_NoPaper_init (T : Tx K mg) : Okd P w K mg base CX0 1 (He.ma K (He.ga K "NoPaper") "__init__") ["self", "word", "at"] (sp_NoPaper_init K) := by
  obtain ⟨fd, F⟩ := T.f_NoPaper_init
  have nd := (sc_NoPaper_init).nd
  refine ⟨fd, F.ok sc_NoPaper_init (fun vs H Q E h => len_NoPaper_init h) (fun cdv A outer s H vs Q E hr h => ⟨t_NoPaper_init K, PSs.nox ?_, rd_NoPaper_init T.toKx h⟩), F.bindsN (ps := ["self", "word", "at"]) fun _ _ _ _ _ _ us hl => match us, hl with | [_, _, _], _ => rfl, F.kp⟩
  have hu := hu_of hr
  exact (pss_cons (ps_expr (pe_ceinit T.own rfl (T.g_ClockError) (pa_cons (pv 0) pa_nil))) (pss_cons (ps_ost (pv 0) (pv 1)) (pss_one (ps_ost (pv 0) (pv 2)))))
theorem sc_is_number : FnScope N_is_number ["thing"] (defScope s_is_number) := ⟨rfl, rfl, rfl, by decide +kernel, rfl, by decide +kernel, by decide +kernel⟩
theorem ok_is_number (T : Tx K mg) : Okd P w K mg base CX0 1 (He.ga K "is_number") ["thing"] (sp_is_number K) := by
  obtain ⟨fd, F⟩ := T.f_is_number
  have nd := (sc_is_number).nd
  refine ⟨fd, F.ok sc_is_number (fun vs H Q E h => len_is_number h) (fun cdv A outer s H vs Q E hr h => ⟨t_is_number K, PSs.nox ?_, rd_is_number T.toKx h⟩), F.bindsN (ps := ["thing"]) fun _ _ _ _ _ _ us hl => match us, hl with | [_], _ => rfl, F.kp⟩
  have hu := hu_of hr
  exact (pss_one (ps_ret (pe_and (pe_callB call_isi (by rfl) (T.b_isinstance) (by decide +kernel) (pa_cons (pv 0) (pa_cons (pe_bltn (v := .ty "int") rfl (T.b_int) (by decide +kernel) rfl) pa_nil))) (pe_one (pe_not (pe_callB call_isi (by rfl) (T.b_isinstance) (by decide +kernel) (pa_cons (pv 0) (pa_cons (pe_bltn (v := .ty "bool") rfl (T.b_bool) (by decide +kernel) rfl) pa_nil))))))))
theorem sc_common_divisor : FnScope N_common_divisor ["one", "other"] (defScope s_common_divisor) := ⟨rfl, rfl, rfl, by decide +kernel, rfl, by decide +kernel, by decide +kernel⟩
theorem ok_common_divisor (T : Tx K mg) : Okd P w K mg base CX0 1 (He.ga K "common_divisor") ["one", "other"] (sp_common_divisor K) := by
  obtain ⟨fd, F⟩ := T.f_common_divisor
  have nd := (sc_common_divisor).nd
  refine ⟨fd, F.ok sc_common_divisor (fun vs H Q E h => len_common_divisor h) (fun cdv A outer s H vs Q E hr h => ⟨t_common_divisor K, PSs.nox ?_, rd_common_divisor T.toKx h⟩), F.bindsN (ps := ["one", "other"]) fun _ _ _ _ _ _ us hl => match us, hl with | [_, _], _ => rfl, F.kp⟩
  have hu := hu_of hr
  exact (pss_cons (ps_while PassesOwn.never (pt_cmpR op_ne (pv 1) pe_int (nomark _)) (pss_one (ps_par rfl nd rfl rfl (by decide) rfl rfl (pa_cons (pv 1) (pa_cons (pe_op op_mod (pv 0) (pv 1)) pa_nil)) (by rfl)))) (pss_one (ps_ret (pv 0))))
theorem sc_is_below : FnScope N_is_below ["one", "other"] (defScope s_is_below) := ⟨rfl, rfl, rfl, by decide +kernel, rfl, by decide +kernel, by decide +kernel⟩
theorem ok_is_below (T : Tx K mg) : Okd P w K mg base CX0 1 (He.ga K "is_below") ["one", "other"] (sp_is_below K) := by
  obtain ⟨fd, F⟩ := T.f_is_below
  have nd := (sc_is_below).nd
  refine ⟨fd, F.ok sc_is_below (fun vs H Q E h => len_is_below h) (fun cdv A outer s H vs Q E hr h => ⟨t_is_below K, PSs.nox ?_, rd_is_below T.toKx h⟩), F.bindsN (ps := ["one", "other"]) fun _ _ _ _ _ _ us hl => match us, hl with | [_, _], _ => rfl, F.kp⟩
  have hu := hu_of hr
  exact (pss_one (ps_ret (pe_cmpR op_lt (pe_op op_mul (pe_ix ix_tup (pv 0) pe_int (fun _ _ => rfl)) (pe_ix ix_tup (pv 1) pe_int (fun _ _ => rfl))) (pe_op op_mul (pe_ix ix_tup (pv 1) pe_int (fun _ _ => rfl)) (pe_ix ix_tup (pv 0) pe_int (fun _ _ => rfl))) (nomark _))))
theorem sc_ratio : FnScope N_ratio ["a", "b"] (defScope s_ratio) := ⟨rfl, rfl, rfl, by decide +kernel, rfl, by decide +kernel, by decide +kernel⟩
theorem ok_ratio (T : Tx K mg) : Okd P w K mg base CX0 2 (He.ga K "ratio") ["a", "b"] (sp_ratio K) := by
  obtain ⟨fd, F⟩ := T.f_ratio
  have nd := (sc_ratio).nd
  refine ⟨fd, F.ok sc_ratio (fun vs H Q E h => len_ratio h) (fun cdv A outer s H vs Q E hr h => ⟨t_ratio K, PSs.nox ?_, rd_ratio T.toKx h⟩), F.bindsN (ps := ["a", "b"]) fun _ _ _ _ _ _ us hl => match us, hl with | [_, _], _ => rfl, F.kp⟩
  have hu := hu_of hr
  exact (pss_cons (ps_set (i := 2) nd rfl (Or.inl rfl) (pe_callO (ok_common_divisor (P := P) (w := w) (base := base) T) hr rfl (T.g_common_divisor) pass0 (pa_cons (pe_callB call_abs (by rfl) (T.b_abs) (by decide +kernel) (pa_cons (pv 0) pa_nil)) (pa_cons (pe_callB call_abs (by rfl) (T.b_abs) (by decide +kernel) (pa_cons (pv 1) pa_nil)) pa_nil)))) (pss_cons (ps_if (pt_cmpR op_lt (pv 1) pe_int (nomark _)) (pss_one (ps_set (i := 2) nd rfl (Or.inl rfl) (pe_op op_sub pe_int (pv 2)))) pss_nil) (pss_one (ps_ret (pe_tup (pa_cons (pe_op op_fdiv (pv 0) (pv 2)) (pa_cons (pe_op op_fdiv (pv 1) (pv 2)) pa_nil)))))))
theorem sc_added : FnScope N_added ["one", "other"] (defScope s_added) := ⟨rfl, rfl, rfl, by decide +kernel, rfl, by decide +kernel, by decide +kernel⟩
theorem ok_added (T : Tx K mg) : Okd P w K mg base CX0 3 (He.ga K "added") ["one", "other"] (sp_added K) := by
  obtain ⟨fd, F⟩ := T.f_added
  have nd := (sc_added).nd
  refine ⟨fd, F.ok sc_added (fun vs H Q E h => len_added h) (fun cdv A outer s H vs Q E hr h => ⟨t_added K, PSs.nox ?_, rd_added T.toKx h⟩), F.bindsN (ps := ["one", "other"]) fun _ _ _ _ _ _ us hl => match us, hl with | [_, _], _ => rfl, F.kp⟩
  have hu := hu_of hr
  exact (pss_one (ps_ret (pe_callO (ok_ratio (P := P) (w := w) (base := base) T) hr rfl (T.g_ratio) pass0 (pa_cons (pe_op op_add (pe_op op_mul (pe_ix ix_tup (pv 0) pe_int (fun _ _ => rfl)) (pe_ix ix_tup (pv 1) pe_int (fun _ _ => rfl))) (pe_op op_mul (pe_ix ix_tup (pv 1) pe_int (fun _ _ => rfl)) (pe_ix ix_tup (pv 0) pe_int (fun _ _ => rfl)))) (pa_cons (pe_op op_mul (pe_ix ix_tup (pv 0) pe_int (fun _ _ => rfl)) (pe_ix ix_tup (pv 1) pe_int (fun _ _ => rfl))) pa_nil)))))
end
end K27
namespace K27
open PySem PySem.Spec PyProof.Rows L2 KM
section
variable {P : Program} {w : World} {K : PySem.W.Frag} {mg : PySem.Str → Option Value} {base : Heap}
theorem sc_NoWorld_init : FnScope N_NoWorld_init ["self", "ring"] (defScope s_NoWorld_init) := ⟨rfl, rfl, rfl, by decide +kernel, rfl, by decide +kernel, by decide +kernel⟩
theorem ok_NoWorld_init (T : Tx K mg) : Okd P w K mg base CX0 1 (He.ma K (He.ga K "NoWorld") "__init__") ["self", "ring"] (sp_NoWorld_init K) := by
  obtain ⟨fd, F⟩ := T.f_NoWorld_init
  have nd := (sc_NoWorld_init).nd
  refine ⟨fd, F.ok sc_NoWorld_init (fun vs H Q E h => len_NoWorld_init h) (fun cdv A outer s H vs Q E hr h => ⟨t_NoWorld_init K, PSs.nox ?_, rd_NoWorld_init T.toKx h⟩), F.bindsN (ps := ["self", "ring"]) fun _ _ _ _ _ _ us hl => match us, hl with | [_, _], _ => rfl, F.kp⟩
  have hu := hu_of hr
  exact (pss_cons (ps_expr (pe_ceinit T.own rfl (T.g_ClockError) (pa_cons (pv 0) pa_nil))) (pss_one (ps_ost (pv 0) (pv 1))))
theorem sc_rates_of : FnScope N_rates_of ["field"] (defScope s_rates_of) := ⟨rfl, rfl, rfl, by decide +kernel, rfl, by decide +kernel, by decide +kernel⟩
theorem ok_rates_of (T : Tx K mg) : Okd P w K mg base CX0 1 (He.ga K "rates_of") ["field"] (sp_rates_of K) := by
  obtain ⟨fd, F⟩ := T.f_rates_of
  have nd := (sc_rates_of).nd
  refine ⟨fd, F.ok sc_rates_of (fun vs H Q E h => len_rates_of h) (fun cdv A outer s H vs Q E hr h => ⟨t_rates_of K, PSs.nox ?_, rd_rates_of T.toKx h⟩), F.bindsN (ps := ["field"]) fun _ _ _ _ _ _ us hl => match us, hl with | [_], _ => rfl, F.kp⟩
  have hu := hu_of hr
  exact (pss_one (ps_ret (pe_dc (own := [("name", 1), ("slow", 2), ("fast", 3)]) rfl nd (pi_tup (pe_ix ix_tup (pv 0) pe_int (fun _ _ => rfl))) (blkOk_by (own := [("name", 1), ("slow", 2), ("fast", 3)]) (N := N_rates_of) (sc := defScope s_rates_of) (by decide +kernel)) (fun _ _ _ _ _ => (pg_tup rfl (pgs_cons (pg_name (i := 1) nd rfl (Or.inl rfl)) (pgs_cons (pg_name (i := 2) nd rfl (Or.inl rfl)) (pgs_cons (pg_name (i := 3) nd rfl (Or.inl rfl)) pgs_nil))))) (fun _ _ _ _ _ => pts_nil) (fun _ _ _ _ _ => (pv 1)) (fun _ _ _ _ _ => (pe_tup (pa_cons (pv 2) (pa_cons (pv 3) pa_nil)))))))
theorem sc_last_ahead : FnScope N_last_ahead ["events", "number"] (defScope s_last_ahead) := ⟨rfl, rfl, rfl, by decide +kernel, rfl, by decide +kernel, by decide +kernel⟩
theorem ok_last_ahead (T : Tx K mg) : Okd P w K mg base CX0 1 (He.ga K "last_ahead") ["events", "number"] (sp_last_ahead K) := by
  obtain ⟨fd, F⟩ := T.f_last_ahead
  have nd := (sc_last_ahead).nd
  refine ⟨fd, F.ok sc_last_ahead (fun vs H Q E h => len_last_ahead h) (fun cdv A outer s H vs Q E hr h => ⟨t_last_ahead K, PSs.nox ?_, rd_last_ahead T.toKx h⟩), F.bindsN (ps := ["events", "number"]) fun _ _ _ _ _ _ us hl => match us, hl with | [_, _], _ => rfl, F.kp⟩
  have hu := hu_of hr
  exact (pss_cons (ps_for PassesOwn.never rfl (pi_range3 rfl (T.b_range) (pa_cons (pe_op op_sub (pv 1) pe_int) (pa_cons (pe_un un_neg pe_int) (pa_cons (pe_un un_neg pe_int) pa_nil)))) (pg_name (i := 2) nd rfl (Or.inl rfl)) (pss_one (ps_if (pt_cmpR op_eq (pe_ix ix_tup (pe_ix ix_tup (pv 0) (pv 2) (fun _ _ => rfl)) pe_int (fun _ _ => rfl)) (pe_ix ix_tup (pe_ix ix_tup (pv 0) (pv 1) (fun _ _ => rfl)) pe_int (fun _ _ => rfl)) (nomark _)) (pss_one (ps_ret (pv 2))) pss_nil))) (pss_one (ps_ret pe_non)))
theorem sc_link_heard : FnScope N_link_heard ["history", "number"] (defScope s_link_heard) := ⟨rfl, rfl, rfl, by decide +kernel, rfl, by decide +kernel, by decide +kernel⟩
theorem ok_link_heard (T : Tx K mg) : Okd P w K mg base CX0 1 (He.ga K "link_heard") ["history", "number"] (sp_link_heard K) := by
  obtain ⟨fd, F⟩ := T.f_link_heard
  have nd := (sc_link_heard).nd
  refine ⟨fd, F.ok sc_link_heard (fun vs H Q E h => len_link_heard h) (fun cdv A outer s H vs Q E hr h => ⟨t_link_heard K, PSs.nox ?_, rd_link_heard T.toKx h⟩), F.bindsN (ps := ["history", "number"]) fun _ _ _ _ _ _ us hl => match us, hl with | [_, _], _ => rfl, F.kp⟩
  have hu := hu_of hr
  exact (pss_cons (ps_asg (pv 0) (pg_tup rfl (pgs_cons (pg_name (i := 2) nd rfl (Or.inl rfl)) (pgs_cons (pg_name (i := 3) nd rfl (Or.inl rfl)) pgs_nil)))) (pss_cons (ps_set (i := 4) nd rfl (Or.inl rfl) (pe_ix ix_tup (pe_ix ix_tup (pv 3) (pv 1) (fun _ _ => rfl)) pe_int (fun _ _ => rfl))) (pss_one (ps_ret (pe_ifExp (pt_cmpR op_eq (pe_ix ix_tup (pv 4) pe_int (fun _ _ => rfl)) pe_str (nomark _)) (pe_ix ix_tup (pe_ix ix_tup (pv 2) pe_int (fun _ _ => rfl)) (pe_ix ix_tup (pe_ix ix_tup (pe_ix ix_tup (pv 3) (pe_ix ix_tup (pv 4) pe_int (fun _ _ => rfl)) (fun _ _ => rfl)) pe_int (fun _ _ => rfl)) pe_int (fun _ _ => rfl)) (fun _ _ => rfl)) pe_non)))))
theorem sc_need_event : FnScope N_need_event ["history", "number"] (defScope s_need_event) := ⟨rfl, rfl, rfl, by decide +kernel, rfl, by decide +kernel, by decide +kernel⟩
theorem ok_need_event (T : Tx K mg) : Okd P w K mg base CX0 1 (He.ga K "need_event") ["history", "number"] (sp_need_event K) := by
  obtain ⟨fd, F⟩ := T.f_need_event
  have nd := (sc_need_event).nd
  refine ⟨fd, F.ok sc_need_event (fun vs H Q E h => len_need_event h) (fun cdv A outer s H vs Q E hr h => ⟨t_need_event K, PSs.nox ?_, rd_need_event T.toKx h⟩), F.bindsN (ps := ["history", "number"]) fun _ _ _ _ _ _ us hl => match us, hl with | [_, _], _ => rfl, F.kp⟩
  have hu := hu_of hr
  exact (pss_one (ps_if (pt_not (pt_chain op_le op_lt pe_int (pv 1) (pe_callB call_len_seq (by rfl) (T.b_len) (by decide +kernel) (pa_cons (pe_ix ix_tup (pv 0) pe_int (fun _ _ => rfl)) pa_nil)))) (pss_one ps_never) pss_nil))
end
end K27
namespace K27
open PySem PySem.Spec PyProof.Rows L2 KM
section
variable {P : Program} {w : World} {K : PySem.W.Frag} {mg : PySem.Str → Option Value} {base : Heap}
theorem sc_Relaxing_ring_back : FnScope N_Relaxing_ring_back ["self", "many"] (defScope s_Relaxing_ring_back) := ⟨rfl, rfl, rfl, by decide +kernel, rfl, by decide +kernel, by decide +kernel⟩
theorem ok_Relaxing_ring_back (T : Tx K mg) : Okd P w K mg base CX0 1 (He.ma K (He.ga K "Relaxing") "ring_back") ["self", "many"] (sp_Relaxing_ring_back K) := by
  obtain ⟨fd, F⟩ := T.f_Relaxing_ring_back
  have nd := (sc_Relaxing_ring_back).nd
  refine ⟨fd, F.ok sc_Relaxing_ring_back (fun vs H Q E h => len_Relaxing_ring_back h) (fun cdv A outer s H vs Q E hr h => ⟨t_Relaxing_ring_back K, PSs.nox ?_, rd_Relaxing_ring_back T.toKx h⟩), F.bindsN (ps := ["self", "many"]) fun _ _ _ _ _ _ us hl => match us, hl with | [_, _], _ => rfl, F.kp⟩
  have hu := hu_of hr
  exact (pss_cons (ps_set (i := 2) nd rfl (Or.inl rfl) (pe_fld (pv 0) rfl)) (pss_cons (ps_for PassesOwn.never rfl (pi_range1 rfl (T.b_range) (pa_cons (pv 1) pa_nil)) (pg_name (i := 3) nd rfl (Or.inl rfl)) (pss_one (ps_set (i := 2) nd rfl (Or.inl rfl) (pe_ix ix_tup (pe_ix ix_tup (pe_fld (pv 0) rfl) (pe_dget hu (pe_fld (pv 0) rfl) (pv 2) (fun _ _ => rfl)) (fun _ _ => rfl)) pe_int (fun _ _ => rfl))))) (pss_cons (ps_set (i := 4) nd rfl (Or.inl rfl) (pe_lst (pa_cons (pe_dget hu (pe_fld (pv 0) rfl) (pv 2) (fun _ _ => rfl)) pa_nil))) (pss_cons (ps_while PassesOwn.never (pt_cmpR op_ne (pe_ix ix_tup (pe_ix ix_tup (pe_fld (pv 0) rfl) (pe_ix ix_list (pv 4) (pe_un un_neg pe_int) (fun _ _ => rfl)) (fun _ _ => rfl)) pe_int (fun _ _ => rfl)) (pv 2) (nomark _)) (pss_one (ps_expr (pe_bm PySem.F.plainAttrs_list PySem.F.slot_list_append PySem.F.type_list_append mt_append (pv 4) (pa_cons (pe_dget hu (pe_fld (pv 0) rfl) (pe_ix ix_tup (pe_ix ix_tup (pe_fld (pv 0) rfl) (pe_ix ix_list (pv 4) (pe_un un_neg pe_int) (fun _ _ => rfl)) (fun _ _ => rfl)) pe_int (fun _ _ => rfl)) (fun _ _ => rfl)) pa_nil))))) (pss_one (ps_ret (pe_callTy call_tuple_of (by rfl) (T.b_tuple) (by decide +kernel) (pa_cons (pe_revL (pv 4)) pa_nil))))))))
theorem sc_as_row : FnScope N_as_row ["history", "sums"] (defScope s_as_row) := ⟨rfl, rfl, rfl, by decide +kernel, rfl, by decide +kernel, by decide +kernel⟩
theorem ok_as_row (T : Tx K mg) : Okd P w K mg base CX0 1 (He.ga K "as_row") ["history", "sums"] (sp_as_row K) := by
  obtain ⟨fd, F⟩ := T.f_as_row
  have nd := (sc_as_row).nd
  refine ⟨fd, F.ok sc_as_row (fun vs H Q E h => len_as_row h) (fun cdv A outer s H vs Q E hr h => ⟨t_as_row K, PSs.nox ?_, rd_as_row T.toKx h⟩), F.bindsN (ps := ["history", "sums"]) fun _ _ _ _ _ _ us hl => match us, hl with | [_, _], _ => rfl, F.kp⟩
  have hu := hu_of hr
  exact (pss_one (ps_ret (pe_callTy call_tuple_of (by rfl) (T.b_tuple) (by decide +kernel) (pa_cons (pe_lc (own := [("event", 2)]) rfl nd (pi_range1 rfl (T.b_range) (pa_cons (pe_callB call_len_seq (by rfl) (T.b_len) (by decide +kernel) (pa_cons (pe_ix ix_tup (pv 0) pe_int (fun _ _ => rfl)) pa_nil)) pa_nil)) (blkOk_by (own := [("event", 2)]) (N := N_as_row) (sc := defScope s_as_row) (by decide +kernel)) (fun _ _ _ _ _ => (pg_name (i := 2) nd rfl (Or.inl rfl))) (fun _ _ _ _ _ => pts_nil) (fun _ _ _ _ _ => (pe_dget2 hu (pv 1) (pv 2) pe_non ⟨rfl, rfl, rfl, rfl⟩))) pa_nil))))
theorem sc_law_feed : FnScope N_law_feed ["_law_script"] (defScope s_law_feed) := ⟨rfl, rfl, rfl, by decide +kernel, rfl, by decide +kernel, by decide +kernel⟩
theorem ok_law_feed (T : Tx K mg) : Okd P w K mg base CX0 1 (He.ga K "_law_feed") ["_law_script"] (sp_law_feed K) := by
  obtain ⟨fd, F⟩ := T.f_law_feed
  have nd := (sc_law_feed).nd
  refine ⟨fd, F.ok sc_law_feed (fun vs H Q E h => len_law_feed h) (fun cdv A outer s H vs Q E hr h => ⟨t_law_feed K, PSs.nox ?_, rd_law_feed T.toKx h⟩), F.bindsN (ps := ["_law_script"]) fun _ _ _ _ _ _ us hl => match us, hl with | [_], _ => rfl, F.kp⟩
  have hu := hu_of hr
  exact (pss_one (ps_ret (pe_lst (pa_cons (pe_callTy call_list_of (by rfl) (T.b_list) (by decide +kernel) (pa_cons (pe_slice sl_list (pv 0) po_none (po_some pe_int)) pa_nil)) (pa_cons pe_int (pa_cons pe_int (pa_cons pe_int pa_nil)))))))
theorem sc_law_draw : FnScope N_law_draw ["_law_feed_here", "_law_many"] (defScope s_law_draw) := ⟨rfl, rfl, rfl, by decide +kernel, rfl, by decide +kernel, by decide +kernel⟩
theorem ok_law_draw (T : Tx K mg) : Okd P w K mg base CX0 1 (He.ga K "_law_draw") ["_law_feed_here", "_law_many"] (sp_law_draw K) := by
  obtain ⟨fd, F⟩ := T.f_law_draw
  have nd := (sc_law_draw).nd
  refine ⟨fd, F.ok sc_law_draw (fun vs H Q E h => len_law_draw h) (fun cdv A outer s H vs Q E hr h => ⟨t_law_draw K, PSs.nox ?_, rd_law_draw T.toKx h⟩), F.bindsN (ps := ["_law_feed_here", "_law_many"]) fun _ _ _ _ _ _ us hl => match us, hl with | [_, _], _ => rfl, F.kp⟩
  have hu := hu_of hr
  exact (pss_cons (ps_asg (pe_op op_add (pe_ix ix_list (pv 0) pe_int (fun _ _ => rfl)) pe_int) (pg_sub (pv 0) pe_int set_list)) (pss_cons (ps_while PassesOwn.never (PW.pt (pw_and (pt_cmpR op_eq (pe_ix ix_list (pv 0) pe_int (fun _ _ => rfl)) pe_int (nomark _)) (pw_and1 (pt_cmpR op_lt (pe_ix ix_list (pv 0) pe_int (fun _ _ => rfl)) (pe_callB call_len_seq (by rfl) (T.b_len) (by decide +kernel) (pa_cons (pe_ix ix_list (pv 0) pe_int (fun _ _ => rfl)) pa_nil)) (nomark _))))) (pss_cons (ps_set (i := 2) nd rfl (Or.inl rfl) (pe_callB call_abs (by rfl) (T.b_abs) (by decide +kernel) (pa_cons (pe_ix ix_list (pe_ix ix_list (pv 0) pe_int (fun _ _ => rfl)) (pe_ix ix_list (pv 0) pe_int (fun _ _ => rfl)) (fun _ _ => rfl)) pa_nil))) (pss_cons (ps_asg (pe_op op_mul (pv 2) (pe_callTy call_int1 (by rfl) (T.b_int) (by decide +kernel) (pa_cons (pe_cmpR op_ge (pv 2) (pe_op op_pow pe_int pe_int) (nomark _)) pa_nil))) (pg_sub (pv 0) pe_int set_list)) (pss_one (ps_asg (pe_op op_add (pe_ix ix_list (pv 0) pe_int (fun _ _ => rfl)) pe_int) (pg_sub (pv 0) pe_int set_list)))))) (pss_cons (ps_if (pt_cmpR op_gt (pe_ix ix_list (pv 0) pe_int (fun _ _ => rfl)) pe_int (nomark _)) (pss_cons (ps_set (i := 3) nd rfl (Or.inl rfl) (pe_op op_mod (pe_ix ix_list (pv 0) pe_int (fun _ _ => rfl)) (pv 1))) (pss_cons (ps_asg (pe_op op_fdiv (pe_ix ix_list (pv 0) pe_int (fun _ _ => rfl)) (pv 1)) (pg_sub (pv 0) pe_int set_list)) (pss_one (ps_ret (pv 3))))) pss_nil) (pss_cons (ps_set (i := 2) nd rfl (Or.inl rfl) (pe_ifExp (pt_cmpR (op_neD hr.units) (pe_ix ix_list (pv 0) pe_int (fun _ _ => rfl)) (pe_lst pa_nil) (nomark _)) (pe_ix ix_list (pe_ix ix_list (pv 0) pe_int (fun _ _ => rfl)) (pe_op op_mod (pe_ix ix_list (pv 0) pe_int (fun _ _ => rfl)) (pe_callB call_len_seq (by rfl) (T.b_len) (by decide +kernel) (pa_cons (pe_ix ix_list (pv 0) pe_int (fun _ _ => rfl)) pa_nil))) (fun _ _ => rfl)) pe_int)) (pss_cons (ps_set (i := 4) nd rfl (Or.inl rfl) (pe_op op_mod (pe_op op_pow (pe_op op_add (pe_op op_add (pe_op op_mod (pv 2) pe_int) (pe_op op_mul (pe_op op_mul pe_int (pe_ix ix_list (pv 0) pe_int (fun _ _ => rfl))) (pe_op op_add (pe_ix ix_list (pv 0) pe_int (fun _ _ => rfl)) pe_int))) pe_int) pe_int) pe_int)) (pss_one (ps_ret (pe_op op_mod (pe_op op_fdiv (pe_op op_mod (pe_op op_pow (pe_op op_add (pv 4) (pe_op op_mul pe_int (pe_ix ix_list (pv 0) pe_int (fun _ _ => rfl)))) pe_int) pe_int) pe_int) (pv 1)))))))))
theorem sc_law_frac : FnScope N_law_frac ["_law_top", "_law_bottom"] (defScope s_law_frac) := ⟨rfl, rfl, rfl, by decide +kernel, rfl, by decide +kernel, by decide +kernel⟩
theorem ok_law_frac (T : Tx K mg) : Okd P w K mg base CX0 1 (He.ga K "_law_frac") ["_law_top", "_law_bottom"] (sp_law_frac K) := by
  obtain ⟨fd, F⟩ := T.f_law_frac
  have nd := (sc_law_frac).nd
  refine ⟨fd, F.ok sc_law_frac (fun vs H Q E h => len_law_frac h) (fun cdv A outer s H vs Q E hr h => ⟨t_law_frac K, PSs.nox ?_, rd_law_frac T.toKx h⟩), F.bindsN (ps := ["_law_top", "_law_bottom"]) fun _ _ _ _ _ _ us hl => match us, hl with | [_, _], _ => rfl, F.kp⟩
  have hu := hu_of hr
  exact (pss_cons (ps_asg (pe_ifExp (pt_cmpR op_gt (pv 1) pe_int (nomark _)) (pe_tup (pa_cons (pv 0) (pa_cons (pv 1) pa_nil))) (pe_tup (pa_cons (pe_op op_sub pe_int (pv 0)) (pa_cons (pe_op op_sub pe_int (pv 1)) pa_nil)))) (pg_tup rfl (pgs_cons (pg_name (i := 0) nd rfl (Or.inl rfl)) (pgs_cons (pg_name (i := 1) nd rfl (Or.inl rfl)) pgs_nil)))) (pss_cons (ps_par rfl nd rfl rfl (by decide) rfl rfl (pa_cons (pe_callB call_abs (by rfl) (T.b_abs) (by decide +kernel) (pa_cons (pv 0) pa_nil)) (pa_cons (pv 1) pa_nil)) (by rfl)) (pss_cons (ps_while PassesOwn.never (pt_cmpR op_gt (pv 3) pe_int (nomark _)) (pss_one (ps_par rfl nd rfl rfl (by decide) rfl rfl (pa_cons (pv 3) (pa_cons (pe_op op_mod (pv 2) (pv 3)) pa_nil)) (by rfl)))) (pss_one (ps_ret (pe_tup (pa_cons (pe_op op_fdiv (pv 0) (pv 2)) (pa_cons (pe_op op_fdiv (pv 1) (pv 2)) pa_nil))))))))
theorem sc_law_rates : FnScope N_law_rates ["_law_field_here", "_law_name"] (defScope s_law_rates) := ⟨rfl, rfl, rfl, by decide +kernel, rfl, by decide +kernel, by decide +kernel⟩
theorem ok_law_rates (T : Tx K mg) : Okd P w K mg base CX0 1 (He.ga K "_law_rates") ["_law_field_here", "_law_name"] (sp_law_rates K) := by
  obtain ⟨fd, F⟩ := T.f_law_rates
  have nd := (sc_law_rates).nd
  refine ⟨fd, F.ok sc_law_rates (fun vs H Q E h => len_law_rates h) (fun cdv A outer s H vs Q E hr h => ⟨t_law_rates K, PSs.nox ?_, rd_law_rates T.toKx h⟩), F.bindsN (ps := ["_law_field_here", "_law_name"]) fun _ _ _ _ _ _ us hl => match us, hl with | [_, _], _ => rfl, F.kp⟩
  have hu := hu_of hr
  exact (pss_cons (ps_asg (pe_ix ix_list (pe_lc (own := [("_law_house", 4)]) rfl nd (pi_tup (pe_ix ix_tup (pv 0) pe_int (fun _ _ => rfl))) (blkOk_by (own := [("_law_house", 4)]) (N := N_law_rates) (sc := defScope s_law_rates) (by decide +kernel)) (fun _ _ _ _ _ => (pg_name (i := 4) nd rfl (Or.inl rfl))) (fun _ _ _ _ _ => (pts_one (pt_cmpR op_eq (pe_ix ix_tup (pv 4) pe_int (fun _ _ => rfl)) (pv 1) (nomark _)))) (fun _ _ _ _ _ => (pe_slice sl_tup (pv 4) (po_some pe_int) po_none))) pe_int (fun _ _ => rfl)) (pg_tup rfl (pgs_cons (pg_name (i := 2) nd rfl (Or.inl rfl)) (pgs_cons (pg_name (i := 3) nd rfl (Or.inl rfl)) pgs_nil)))) (pss_one (ps_ret (pe_tup (pa_cons (pe_op op_fdiv (pe_op op_mul (pe_ix ix_tup (pv 2) pe_int (fun _ _ => rfl)) pe_int) (pe_ix ix_tup (pv 2) pe_int (fun _ _ => rfl))) (pa_cons (pe_op op_fdiv (pe_op op_mul (pe_ix ix_tup (pv 3) pe_int (fun _ _ => rfl)) pe_int) (pe_ix ix_tup (pv 3) pe_int (fun _ _ => rfl))) pa_nil))))))
theorem sc_law_open : FnScope N_law_open ["_law_field_here", "_law_sends", "_law_name", "_law_now"] (defScope s_law_open) := ⟨rfl, rfl, rfl, by decide +kernel, rfl, by decide +kernel, by decide +kernel⟩
theorem ok_law_open (T : Tx K mg) : Okd P w K mg base CX0 1 (He.ga K "_law_open") ["_law_field_here", "_law_sends", "_law_name", "_law_now"] (sp_law_open K) := by
  obtain ⟨fd, F⟩ := T.f_law_open
  have nd := (sc_law_open).nd
  refine ⟨fd, F.ok sc_law_open (fun vs H Q E h => len_law_open h) (fun cdv A outer s H vs Q E hr h => ⟨t_law_open K, PSs.nox ?_, rd_law_open T.toKx h⟩), F.bindsN (ps := ["_law_field_here", "_law_sends", "_law_name", "_law_now"]) fun _ _ _ _ _ _ us hl => match us, hl with | [_, _, _, _], _ => rfl, F.kp⟩
  have hu := hu_of hr
  exact (pss_cons (ps_set (i := 4) nd rfl (Or.inl rfl) (pe_lst pa_nil)) (pss_cons (ps_for PassesOwn.never rfl (pi_list (pv 1)) (pg_tup rfl (pgs_cons (pg_name (i := 5) nd rfl (Or.inl rfl)) (pgs_cons (pg_name (i := 6) nd rfl (Or.inl rfl)) (pgs_cons (pg_name (i := 7) nd rfl (Or.inl rfl)) pgs_nil)))) (pss_cons (ps_asg (pe_slice sl_tup (pe_ix ix_tup (pe_ix ix_tup (pv 0) pe_int (fun _ _ => rfl)) (pv 6) (fun _ _ => rfl)) (po_some pe_int) po_none) (pg_tup rfl (pgs_cons (pg_name (i := 8) nd rfl (Or.inl rfl)) (pgs_cons (pg_name (i := 9) nd rfl (Or.inl rfl)) pgs_nil)))) (pss_one (ps_if (PW.pt (pw_and (pt_cmpR op_eq (pe_ix ix_tup (pe_ix ix_tup (pe_ix ix_tup (pv 0) pe_int (fun _ _ => rfl)) (pv 6) (fun _ _ => rfl)) pe_int (fun _ _ => rfl)) (pv 2) (nomark _)) (pw_and1 (pt_cmpR op_ge (pe_op op_mul (pe_op op_sub (pv 3) (pv 7)) (pe_ix ix_tup (pv 8) pe_int (fun _ _ => rfl))) (pe_ix ix_tup (pv 8) pe_int (fun _ _ => rfl)) (nomark _))))) (pss_one (ps_if (PW.pt (pw_or (pt_cmpR op_isN (pv 9) pe_non (nomark _)) (pw_or1 (pt_cmpR op_le (pe_op op_mul (pe_op op_sub (pv 3) (pv 7)) (pe_ix ix_tup (pv 9) pe_int (fun _ _ => rfl))) (pe_ix ix_tup (pv 9) pe_int (fun _ _ => rfl)) (nomark _))))) (pss_one (ps_expr (pe_bm PySem.F.plainAttrs_list PySem.F.slot_list_append PySem.F.type_list_append mt_append (pv 4) (pa_cons (pv 5) pa_nil)))) pss_nil)) pss_nil)))) (pss_one (ps_ret (pv 4)))))
theorem sc_is_fraction : FnScope N_is_fraction ["thing"] (defScope s_is_fraction) := ⟨rfl, rfl, rfl, by decide +kernel, rfl, by decide +kernel, by decide +kernel⟩
theorem ok_is_fraction (T : Tx K mg) : Okd P w K mg base CX0 2 (He.ga K "is_fraction") ["thing"] (sp_is_fraction K) := by
  obtain ⟨fd, F⟩ := T.f_is_fraction
  have nd := (sc_is_fraction).nd
  refine ⟨fd, F.ok sc_is_fraction (fun vs H Q E h => len_is_fraction h) (fun cdv A outer s H vs Q E hr h => ⟨t_is_fraction K, PSs.nox ?_, rd_is_fraction T.toKx h⟩), F.bindsN (ps := ["thing"]) fun _ _ _ _ _ _ us hl => match us, hl with | [_], _ => rfl, F.kp⟩
  have hu := hu_of hr
  exact (pss_cons (ps_if (PW.pt (pw_or (pt_not (pt_val (pe_callB call_isi (by rfl) (T.b_isinstance) (by decide +kernel) (pa_cons (pv 0) (pa_cons (pe_bltn (v := .ty "tuple") rfl (T.b_tuple) (by decide +kernel) rfl) pa_nil))))) (pw_or (pt_cmpR op_ne (pe_callB call_len_seq (by rfl) (T.b_len) (by decide +kernel) (pa_cons (pv 0) pa_nil)) pe_int (nomark _)) (pw_or1 (pt_not (pt_val (pe_callB (cr_all rfl) (by rfl) (T.b_all) (by decide +kernel) (pa_cons (pe_lc (own := [("one", 1)]) rfl nd (pi_tup (pv 0)) (blkOk_by (own := [("one", 1)]) (N := N_is_fraction) (sc := defScope s_is_fraction) (by decide +kernel)) (fun _ _ _ _ _ => (pg_name (i := 1) nd rfl (Or.inl rfl))) (fun _ _ _ _ _ => pts_nil) (fun _ _ _ _ _ => (pe_callO (ok_is_number (P := P) (w := w) (base := base) T) hr rfl (T.g_is_number) pass0 (pa_cons (pv 1) pa_nil)))) pa_nil)))))))) (pss_one (ps_ret pe_bl)) pss_nil) (pss_one (ps_ret (pe_and (pe_cmpR op_gt (pe_ix ix_tup (pv 0) pe_int (fun _ _ => rfl)) pe_int (nomark _)) (pe_one (pe_cmpR op_eq (pe_callO (ok_common_divisor (P := P) (w := w) (base := base) T) hr rfl (T.g_common_divisor) pass0 (pa_cons (pe_callB call_abs (by rfl) (T.b_abs) (by decide +kernel) (pa_cons (pe_ix ix_tup (pv 0) pe_int (fun _ _ => rfl)) pa_nil)) (pa_cons (pe_ix ix_tup (pv 0) pe_int (fun _ _ => rfl)) pa_nil))) pe_int (nomark _)))))))
theorem sc_are_numbers : FnScope N_are_numbers ["thing"] (defScope s_are_numbers) := ⟨rfl, rfl, rfl, by decide +kernel, rfl, by decide +kernel, by decide +kernel⟩
theorem ok_are_numbers (T : Tx K mg) : Okd P w K mg base CX0 2 (He.ga K "are_numbers") ["thing"] (sp_are_numbers K) := by
  obtain ⟨fd, F⟩ := T.f_are_numbers
  have nd := (sc_are_numbers).nd
  refine ⟨fd, F.ok sc_are_numbers (fun vs H Q E h => len_are_numbers h) (fun cdv A outer s H vs Q E hr h => ⟨t_are_numbers K, PSs.nox ?_, rd_are_numbers T.toKx h⟩), F.bindsN (ps := ["thing"]) fun _ _ _ _ _ _ us hl => match us, hl with | [_], _ => rfl, F.kp⟩
  have hu := hu_of hr
  exact (pss_one (ps_ret (pe_and (pe_callB call_isi (by rfl) (T.b_isinstance) (by decide +kernel) (pa_cons (pv 0) (pa_cons (pe_bltn (v := .ty "tuple") rfl (T.b_tuple) (by decide +kernel) rfl) pa_nil))) (pe_one (pe_callB (cr_all rfl) (by rfl) (T.b_all) (by decide +kernel) (pa_cons (pe_lc (own := [("one", 1)]) rfl nd (pi_tup (pv 0)) (blkOk_by (own := [("one", 1)]) (N := N_are_numbers) (sc := defScope s_are_numbers) (by decide +kernel)) (fun _ _ _ _ _ => (pg_name (i := 1) nd rfl (Or.inl rfl))) (fun _ _ _ _ _ => pts_nil) (fun _ _ _ _ _ => (pe_callO (ok_is_number (P := P) (w := w) (base := base) T) hr rfl (T.g_is_number) pass0 (pa_cons (pv 1) pa_nil)))) pa_nil))))))
theorem sc_needA : FnScope N_needA ["truth", "word", "at"] (defScope s_needA) := ⟨rfl, rfl, rfl, by decide +kernel, rfl, by decide +kernel, by decide +kernel⟩
theorem ok_needA (T : Tx K mg) : Okd P w K mg base (L2.CX P w) 3 (He.ga K "need_waychecker") ["truth", "word", "at"] (sp_needA K) := by
  obtain ⟨fd, F⟩ := T.f_needA
  have nd := (sc_needA).nd
  refine ⟨fd, F.ok sc_needA (fun vs H Q E h => len_needA h) (fun cdv A outer s H vs Q E hr h => ⟨t_needA K E, ?_, rd_needA T.toKx h⟩), F.bindsN (ps := ["truth", "word", "at"]) fun _ _ _ _ _ _ us hl => match us, hl with | [_, _, _], _ => rfl, F.kp⟩
  have hu := hu_of hr
  exact (pss_one (ps_if (pt_not (pt_val (pv 0))) (pss_one (ps_raise rfl (takes_of rfl rfl rfl rfl) (pmk_oexO T.oP T.i_NoPaper T.t_NoPaper (ok_NoPaper_init (P := P) (w := w) (base := base) T) hr rfl (T.g_NoPaper) (pa_cons (pv 1) (pa_cons (pv 2) pa_nil))))) pss_nil))
theorem sc_needB : FnScope N_needB ["truth", "word", "at"] (defScope s_needB) := ⟨rfl, rfl, rfl, by decide +kernel, rfl, by decide +kernel, by decide +kernel⟩
theorem ok_needB (T : Tx K mg) : Okd P w K mg base (L2.CX P w) 3 (He.ga K "need_worldchecker") ["truth", "word", "at"] (sp_needB K) := by
  obtain ⟨fd, F⟩ := T.f_needB
  have nd := (sc_needB).nd
  refine ⟨fd, F.ok sc_needB (fun vs H Q E h => len_needB h) (fun cdv A outer s H vs Q E hr h => ⟨t_needB K E, ?_, rd_needB T.toKx h⟩), F.bindsN (ps := ["truth", "word", "at"]) fun _ _ _ _ _ _ us hl => match us, hl with | [_, _, _], _ => rfl, F.kp⟩
  have hu := hu_of hr
  exact (pss_one (ps_if (pt_not (pt_val (pv 0))) (pss_one (ps_raise rfl (takes_of rfl rfl rfl rfl) (pmk_oexO T.oP T.i_NoPaper T.t_NoPaper (ok_NoPaper_init (P := P) (w := w) (base := base) T) hr rfl (T.g_NoPaper) (pa_cons (pv 1) (pa_cons (pv 2) pa_nil))))) pss_nil))
theorem sc_less : FnScope N_less ["one", "other"] (defScope s_less) := ⟨rfl, rfl, rfl, by decide +kernel, rfl, by decide +kernel, by decide +kernel⟩
theorem ok_less (T : Tx K mg) : Okd P w K mg base CX0 3 (He.ga K "less") ["one", "other"] (sp_less K) := by
  obtain ⟨fd, F⟩ := T.f_less
  have nd := (sc_less).nd
  refine ⟨fd, F.ok sc_less (fun vs H Q E h => len_less h) (fun cdv A outer s H vs Q E hr h => ⟨t_less K, PSs.nox ?_, rd_less T.toKx h⟩), F.bindsN (ps := ["one", "other"]) fun _ _ _ _ _ _ us hl => match us, hl with | [_, _], _ => rfl, F.kp⟩
  have hu := hu_of hr
  exact (pss_one (ps_ret (pe_callO (ok_ratio (P := P) (w := w) (base := base) T) hr rfl (T.g_ratio) pass0 (pa_cons (pe_op op_sub (pe_op op_mul (pe_ix ix_tup (pv 0) pe_int (fun _ _ => rfl)) (pe_ix ix_tup (pv 1) pe_int (fun _ _ => rfl))) (pe_op op_mul (pe_ix ix_tup (pv 1) pe_int (fun _ _ => rfl)) (pe_ix ix_tup (pv 0) pe_int (fun _ _ => rfl)))) (pa_cons (pe_op op_mul (pe_ix ix_tup (pv 0) pe_int (fun _ _ => rfl)) (pe_ix ix_tup (pv 1) pe_int (fun _ _ => rfl))) pa_nil)))))
theorem sc_parted : FnScope N_parted ["one", "other"] (defScope s_parted) := ⟨rfl, rfl, rfl, by decide +kernel, rfl, by decide +kernel, by decide +kernel⟩
theorem ok_parted (T : Tx K mg) : Okd P w K mg base CX0 3 (He.ga K "parted") ["one", "other"] (sp_parted K) := by
  obtain ⟨fd, F⟩ := T.f_parted
  have nd := (sc_parted).nd
  refine ⟨fd, F.ok sc_parted (fun vs H Q E h => len_parted h) (fun cdv A outer s H vs Q E hr h => ⟨t_parted K, PSs.nox ?_, rd_parted T.toKx h⟩), F.bindsN (ps := ["one", "other"]) fun _ _ _ _ _ _ us hl => match us, hl with | [_, _], _ => rfl, F.kp⟩
  have hu := hu_of hr
  exact (pss_one (ps_ret (pe_callO (ok_ratio (P := P) (w := w) (base := base) T) hr rfl (T.g_ratio) pass0 (pa_cons (pe_op op_mul (pe_ix ix_tup (pv 0) pe_int (fun _ _ => rfl)) (pe_ix ix_tup (pv 1) pe_int (fun _ _ => rfl))) (pa_cons (pe_op op_mul (pe_ix ix_tup (pv 0) pe_int (fun _ _ => rfl)) (pe_ix ix_tup (pv 1) pe_int (fun _ _ => rfl))) pa_nil)))))
end
end K27
namespace K27
open PySem PySem.Spec PyProof.Rows L2 KM
section
variable {P : Program} {w : World} {K : PySem.W.Frag} {mg : PySem.Str → Option Value} {base : Heap}
theorem sc_are_times : FnScope N_are_times ["thing"] (defScope s_are_times) := ⟨rfl, rfl, rfl, by decide +kernel, rfl, by decide +kernel, by decide +kernel⟩
theorem ok_are_times (T : Tx K mg) : Okd P w K mg base CX0 3 (He.ga K "are_times") ["thing"] (sp_are_times K) := by
  obtain ⟨fd, F⟩ := T.f_are_times
  have nd := (sc_are_times).nd
  refine ⟨fd, F.ok sc_are_times (fun vs H Q E h => len_are_times h) (fun cdv A outer s H vs Q E hr h => ⟨t_are_times K, PSs.nox ?_, rd_are_times T.toKx h⟩), F.bindsN (ps := ["thing"]) fun _ _ _ _ _ _ us hl => match us, hl with | [_], _ => rfl, F.kp⟩
  have hu := hu_of hr
  exact (pss_one (ps_ret (pe_and (pe_callB call_isi (by rfl) (T.b_isinstance) (by decide +kernel) (pa_cons (pv 0) (pa_cons (pe_bltn (v := .ty "tuple") rfl (T.b_tuple) (by decide +kernel) rfl) pa_nil))) (pe_one (pe_callB (cr_all rfl) (by rfl) (T.b_all) (by decide +kernel) (pa_cons (pe_lc (own := [("one", 1)]) rfl nd (pi_tup (pv 0)) (blkOk_by (own := [("one", 1)]) (N := N_are_times) (sc := defScope s_are_times) (by decide +kernel)) (fun _ _ _ _ _ => (pg_name (i := 1) nd rfl (Or.inl rfl))) (fun _ _ _ _ _ => pts_nil) (fun _ _ _ _ _ => (pe_callO (ok_is_fraction (P := P) (w := w) (base := base) T) hr rfl (T.g_is_fraction) pass0 (pa_cons (pv 1) pa_nil)))) pa_nil))))))
theorem sc_while_between : FnScope N_while_between ["history", "x", "y"] (defScope s_while_between) := ⟨rfl, rfl, rfl, by decide +kernel, rfl, by decide +kernel, by decide +kernel⟩
theorem ok_while_between (T : Tx K mg) : Okd P w K mg base CX0 4 (He.ga K "while_between") ["history", "x", "y"] (sp_while_between K) := by
  obtain ⟨fd, F⟩ := T.f_while_between
  have nd := (sc_while_between).nd
  refine ⟨fd, F.ok sc_while_between (fun vs H Q E h => len_while_between h) (fun cdv A outer s H vs Q E hr h => ⟨t_while_between K, PSs.nox ?_, rd_while_between T.toKx h⟩), F.bindsN (ps := ["history", "x", "y"]) fun _ _ _ _ _ _ us hl => match us, hl with | [_, _, _], _ => rfl, F.kp⟩
  have hu := hu_of hr
  exact (pss_cons (ps_asg (pv 0) (pg_tup rfl (pgs_cons (pg_name (i := 3) nd rfl (Or.inl rfl)) (pgs_cons (pg_name (i := 4) nd rfl (Or.inl rfl)) pgs_nil)))) (pss_cons (ps_asg (pe_dget hu (pe_callO (ok_rates_of (P := P) (w := w) (base := base) T) hr rfl (T.g_rates_of) pass0 (pa_cons (pv 3) pa_nil)) (pe_ix ix_tup (pe_ix ix_tup (pv 4) (pv 1) (fun _ _ => rfl)) pe_int (fun _ _ => rfl)) (fun _ _ => rfl)) (pg_tup rfl (pgs_cons (pg_name (i := 5) nd rfl (Or.inl rfl)) (pgs_cons (pg_name (i := 6) nd rfl (Or.inl rfl)) pgs_nil)))) (pss_cons (ps_set (i := 7) nd rfl (Or.inl rfl) (pe_callO (ok_less (P := P) (w := w) (base := base) T) hr rfl (T.g_less) pass0 (pa_cons (pe_ix ix_tup (pe_ix ix_tup (pv 4) (pv 2) (fun _ _ => rfl)) pe_int (fun _ _ => rfl)) (pa_cons (pe_ix ix_tup (pe_ix ix_tup (pv 4) (pv 1) (fun _ _ => rfl)) pe_int (fun _ _ => rfl)) pa_nil)))) (pss_one (ps_ret (pe_tup (pa_cons (pe_callO (ok_parted (P := P) (w := w) (base := base) T) hr rfl (T.g_parted) pass0 (pa_cons (pv 7) (pa_cons (pv 6) pa_nil))) (pa_cons (pe_callO (ok_parted (P := P) (w := w) (base := base) T) hr rfl (T.g_parted) pass0 (pa_cons (pv 7) (pa_cons (pv 5) pa_nil))) pa_nil))))))))
theorem sc_Relaxing_go_round : FnScope N_Relaxing_go_round ["self"] (defScope s_Relaxing_go_round) := ⟨rfl, rfl, rfl, by decide +kernel, rfl, by decide +kernel, by decide +kernel⟩
theorem ok_Relaxing_go_round (T : Tx K mg) : Okd P w K mg base CX0 4 (He.ma K (He.ga K "Relaxing") "go_round") ["self"] (sp_Relaxing_go_round K) := by
  obtain ⟨fd, F⟩ := T.f_Relaxing_go_round
  have nd := (sc_Relaxing_go_round).nd
  refine ⟨fd, F.ok sc_Relaxing_go_round (fun vs H Q E h => len_Relaxing_go_round h) (fun cdv A outer s H vs Q E hr h => ⟨t_Relaxing_go_round K, PSs.nox ?_, rd_Relaxing_go_round T.toKx h⟩), F.bindsN (ps := ["self"]) fun _ _ _ _ _ _ us hl => match us, hl with | [_], _ => rfl, F.kp⟩
  have hu := hu_of hr
  exact (pss_cons (ps_fld (pv 0) pe_non rfl) (pss_cons (ps_for PassesOwn.never rfl (pi_enT rfl (T.b_enumerate) (pa_cons (pe_fld (pv 0) rfl) pa_nil)) (pg_tup rfl (pgs_cons (pg_name (i := 1) nd rfl (Or.inl rfl)) (pgs_cons (pg_tup rfl (pgs_cons (pg_name (i := 2) nd rfl (Or.inl rfl)) (pgs_cons (pg_name (i := 3) nd rfl (Or.inl rfl)) (pgs_cons (pg_name (i := 4) nd rfl (Or.inl rfl)) pgs_nil)))) pgs_nil))) (pss_one (ps_if (pt_cmp (pc_din hu (pv 2) (pe_fld (pv 0) rfl))) (pss_cons (ps_set (i := 5) nd rfl (Or.inl rfl) (pe_callO (ok_added (P := P) (w := w) (base := base) T) hr rfl (T.g_added) pass0 (pa_cons (pe_dget hu (pe_fld (pv 0) rfl) (pv 2) (fun _ _ => rfl)) (pa_cons (pv 4) pa_nil)))) (pss_one (ps_if (PW.pt (pw_or (pt_cmp (pc_dnotin hu (pv 3) (pe_fld (pv 0) rfl))) (pw_or1 (pt_val (pe_callO (ok_is_below (P := P) (w := w) (base := base) T) hr rfl (T.g_is_below) pass0 (pa_cons (pv 5) (pa_cons (pe_dget hu (pe_fld (pv 0) rfl) (pv 3) (fun _ _ => rfl)) pa_nil))))))) (pss_cons (ps_dput hu (pe_fld (pv 0) rfl) (pv 3) (pv 5) rfl) (pss_cons (ps_dput hu (pe_fld (pv 0) rfl) (pv 3) (pv 1) rfl) (pss_one (ps_fld (pv 0) (pv 3) rfl)))) pss_nil))) pss_nil))) (pss_one (ps_ret (pe_cmpR op_notN (pe_fld (pv 0) rfl) pe_non (nomark _))))))
theorem sc_steps_total : FnScope N_steps_total ["rows", "numbers"] (defScope s_steps_total) := ⟨rfl, rfl, rfl, by decide +kernel, rfl, by decide +kernel, by decide +kernel⟩
theorem ok_steps_total (T : Tx K mg) : Okd P w K mg base CX0 4 (He.ga K "steps_total") ["rows", "numbers"] (sp_steps_total K) := by
  obtain ⟨fd, F⟩ := T.f_steps_total
  have nd := (sc_steps_total).nd
  refine ⟨fd, F.ok sc_steps_total (fun vs H Q E h => len_steps_total h) (fun cdv A outer s H vs Q E hr h => ⟨t_steps_total K, PSs.nox ?_, rd_steps_total T.toKx h⟩), F.bindsN (ps := ["rows", "numbers"]) fun _ _ _ _ _ _ us hl => match us, hl with | [_, _], _ => rfl, F.kp⟩
  have hu := hu_of hr
  exact (pss_cons (ps_set (i := 2) nd rfl (Or.inl rfl) (pe_glob rfl (T.g_NOUGHT) rfl)) (pss_cons (ps_for PassesOwn.never rfl (pi_tup (pv 1)) (pg_name (i := 3) nd rfl (Or.inl rfl)) (pss_one (ps_set (i := 2) nd rfl (Or.inl rfl) (pe_callO (ok_added (P := P) (w := w) (base := base) T) hr rfl (T.g_added) pass0 (pa_cons (pv 2) (pa_cons (pe_ix ix_tup (pe_ix ix_tup (pv 0) (pv 3) (fun _ _ => rfl)) pe_int (fun _ _ => rfl)) pa_nil)))))) (pss_one (ps_ret (pv 2)))))
theorem sc_steps_to : FnScope N_steps_to ["history", "y"] (defScope s_steps_to) := ⟨rfl, rfl, rfl, by decide +kernel, rfl, by decide +kernel, by decide +kernel⟩
theorem ok_steps_to (T : Tx K mg) : Okd P w K mg base CX0 5 (He.ga K "steps_to") ["history", "y"] (sp_steps_to K) := by
  obtain ⟨fd, F⟩ := T.f_steps_to
  have nd := (sc_steps_to).nd
  refine ⟨fd, F.ok sc_steps_to (fun vs H Q E h => len_steps_to h) (fun cdv A outer s H vs Q E hr h => ⟨t_steps_to K, PSs.nox ?_, rd_steps_to T.toKx h⟩), F.bindsN (ps := ["history", "y"]) fun _ _ _ _ _ _ us hl => match us, hl with | [_, _], _ => rfl, F.kp⟩
  have hu := hu_of hr
  exact (pss_cons (ps_set (i := 2) nd rfl (Or.inl rfl) (pe_callO (ok_last_ahead (P := P) (w := w) (base := base) T) hr rfl (T.g_last_ahead) pass0 (pa_cons (pe_ix ix_tup (pv 0) pe_int (fun _ _ => rfl)) (pa_cons (pv 1) pa_nil)))) (pss_cons (ps_set (i := 3) nd rfl (Or.inl rfl) (pe_lst pa_nil)) (pss_cons (ps_if (pt_cmpR op_notN (pv 2) pe_non (nomark _)) (pss_cons (ps_asg (pe_callO (ok_while_between (P := P) (w := w) (base := base) T) hr rfl (T.g_while_between) pass0 (pa_cons (pv 0) (pa_cons (pv 2) (pa_cons (pv 1) pa_nil)))) (pg_tup rfl (pgs_cons (pg_name (i := 4) nd rfl (Or.inl rfl)) (pgs_cons (pg_name (i := 5) nd rfl (Or.inl rfl)) pgs_nil)))) (pss_one (ps_expr (pe_bm PySem.F.plainAttrs_list PySem.F.slot_list_extend PySem.F.type_list_extend mt_extend (pv 3) (pa_cons (pe_lst (pa_cons (pe_tup (pa_cons (pv 2) (pa_cons (pv 1) (pa_cons (pv 5) pa_nil)))) (pa_cons (pe_tup (pa_cons (pv 1) (pa_cons (pv 2) (pa_cons (pe_callO (ok_less (P := P) (w := w) (base := base) T) hr rfl (T.g_less) pass0 (pa_cons (pe_glob rfl (T.g_NOUGHT) rfl) (pa_cons (pv 4) pa_nil))) pa_nil)))) pa_nil))) pa_nil))))) pss_nil) (pss_cons (ps_set (i := 6) nd rfl (Or.inl rfl) (pe_callO (ok_link_heard (P := P) (w := w) (base := base) T) hr rfl (T.g_link_heard) pass0 (pa_cons (pv 0) (pa_cons (pv 1) pa_nil)))) (pss_cons (ps_if (pt_cmpR op_notN (pv 6) pe_non (nomark _)) (pss_cons (ps_asg (pv 6) (pg_tup rfl (pgs_cons (pg_name (i := 7) nd rfl (Or.inl rfl)) (pgs_cons (pg_name (i := 8) nd rfl (Or.inl rfl)) (pgs_cons (pg_name (i := 9) nd rfl (Or.inl rfl)) (pgs_cons (pg_name (i := 10) nd rfl (Or.inl rfl)) pgs_nil)))))) (pss_cons (ps_set (i := 11) nd rfl (Or.inl rfl) (pe_ix ix_tup (pe_ix ix_tup (pe_ix ix_tup (pe_ix ix_tup (pv 0) pe_int (fun _ _ => rfl)) (pv 1) (fun _ _ => rfl)) pe_int (fun _ _ => rfl)) pe_int (fun _ _ => rfl))) (pss_cons (ps_if (pt_cmpR op_notN (pv 10) pe_non (nomark _)) (pss_one (ps_expr (pe_bm PySem.F.plainAttrs_list PySem.F.slot_list_append PySem.F.type_list_append mt_append (pv 3) (pa_cons (pe_tup (pa_cons (pv 11) (pa_cons (pv 1) (pa_cons (pv 10) pa_nil)))) pa_nil)))) pss_nil) (pss_one (ps_expr (pe_bm PySem.F.plainAttrs_list PySem.F.slot_list_append PySem.F.type_list_append mt_append (pv 3) (pa_cons (pe_tup (pa_cons (pv 1) (pa_cons (pv 11) (pa_cons (pe_callO (ok_less (P := P) (w := w) (base := base) T) hr rfl (T.g_less) pass0 (pa_cons (pe_glob rfl (T.g_NOUGHT) rfl) (pa_cons (pv 9) pa_nil))) pa_nil)))) pa_nil))))))) pss_nil) (pss_one (ps_ret (pv 3))))))))
theorem sc_steps_list : FnScope N_steps_list ["history"] (defScope s_steps_list) := ⟨rfl, rfl, rfl, by decide +kernel, rfl, by decide +kernel, by decide +kernel⟩
theorem ok_steps_list (T : Tx K mg) : Okd P w K mg base CX0 6 (He.ga K "steps_list") ["history"] (sp_steps_list K) := by
  obtain ⟨fd, F⟩ := T.f_steps_list
  have nd := (sc_steps_list).nd
  refine ⟨fd, F.ok sc_steps_list (fun vs H Q E h => len_steps_list h) (fun cdv A outer s H vs Q E hr h => ⟨t_steps_list K, PSs.nox ?_, rd_steps_list T.toKx h⟩), F.bindsN (ps := ["history"]) fun _ _ _ _ _ _ us hl => match us, hl with | [_], _ => rfl, F.kp⟩
  have hu := hu_of hr
  exact (pss_one (ps_ret (pe_lc2 (own := [("y", 1), ("step", 2)]) (vs1 := [2]) rfl nd (pi_range1 rfl (T.b_range) (pa_cons (pe_callB call_len_seq (by rfl) (T.b_len) (by decide +kernel) (pa_cons (pe_ix ix_tup (pv 0) pe_int (fun _ _ => rfl)) pa_nil)) pa_nil)) (blkOk_by (own := [("y", 1), ("step", 2)]) (N := N_steps_list) (sc := defScope s_steps_list) (by decide +kernel)) (by decide) (fun _ _ _ _ _ => (pg_name (i := 1) nd rfl (Or.inl rfl))) (fun _ _ _ _ _ => pts_nil) (fun _ _ _ _ _ => (pi_list (pe_callO (ok_steps_to (P := P) (w := w) (base := base) T) hr rfl (T.g_steps_to) pass0 (pa_cons (pv 0) (pa_cons (pv 1) pa_nil))))) (fun _ _ _ _ _ => (pg_name (i := 2) nd rfl (Or.inl rfl))) (fun _ _ _ _ _ => pts_nil) (fun _ _ _ _ _ => (pv 2)))))
theorem sc_history_steps : FnScope N_history_steps ["history"] (defScope s_history_steps) := ⟨rfl, rfl, rfl, by decide +kernel, rfl, by decide +kernel, by decide +kernel⟩
theorem ok_history_steps (T : Tx K mg) : Okd P w K mg base CX0 7 (He.ga K "history_steps") ["history"] (sp_history_steps K) := by
  obtain ⟨fd, F⟩ := T.f_history_steps
  have nd := (sc_history_steps).nd
  refine ⟨fd, F.ok sc_history_steps (fun vs H Q E h => len_history_steps h) (fun cdv A outer s H vs Q E hr h => ⟨t_history_steps K, PSs.nox ?_, rd_history_steps T.toKx h⟩), F.bindsN (ps := ["history"]) fun _ _ _ _ _ _ us hl => match us, hl with | [_], _ => rfl, F.kp⟩
  have hu := hu_of hr
  exact (pss_one (ps_ret (pe_callTy call_tuple_of (by rfl) (T.b_tuple) (by decide +kernel) (pa_cons (pe_callO (ok_steps_list (P := P) (w := w) (base := base) T) hr rfl (T.g_steps_list) pass0 (pa_cons (pv 0) pa_nil)) pa_nil))))
theorem sc_world_bars : FnScope N_world_bars ["history", "world"] (defScope s_world_bars) := ⟨rfl, rfl, rfl, by decide +kernel, rfl, by decide +kernel, by decide +kernel⟩
theorem ok_world_bars (T : Tx K mg) : Okd P w K mg base CX0 7 (He.ga K "world_bars") ["history", "world"] (sp_world_bars K) := by
  obtain ⟨fd, F⟩ := T.f_world_bars
  have nd := (sc_world_bars).nd
  refine ⟨fd, F.ok sc_world_bars (fun vs H Q E h => len_world_bars h) (fun cdv A outer s H vs Q E hr h => ⟨t_world_bars K, PSs.nox ?_, rd_world_bars T.toKx h⟩), F.bindsN (ps := ["history", "world"]) fun _ _ _ _ _ _ us hl => match us, hl with | [_, _], _ => rfl, F.kp⟩
  have hu := hu_of hr
  exact (pss_cons (ps_for PassesOwn.never rfl (pi_enum rfl (T.b_enumerate) (pa_cons (pe_callO (ok_steps_list (P := P) (w := w) (base := base) T) hr rfl (T.g_steps_list) pass0 (pa_cons (pv 0) pa_nil)) pa_nil)) (pg_tup rfl (pgs_cons (pg_name (i := 2) nd rfl (Or.inl rfl)) (pgs_cons (pg_tup rfl (pgs_cons (pg_name (i := 3) nd rfl (Or.inl rfl)) (pgs_cons (pg_name (i := 4) nd rfl (Or.inl rfl)) (pgs_cons (pg_name (i := 5) nd rfl (Or.inl rfl)) pgs_nil)))) pgs_nil))) (pss_one (ps_if (pt_val (pe_callO (ok_is_below (P := P) (w := w) (base := base) T) hr rfl (T.g_is_below) pass0 (pa_cons (pe_callO (ok_added (P := P) (w := w) (base := base) T) hr rfl (T.g_added) pass0 (pa_cons (pe_ix ix_tup (pv 1) (pv 3) (fun _ _ => rfl)) (pa_cons (pv 5) pa_nil))) (pa_cons (pe_ix ix_tup (pv 1) (pv 4) (fun _ _ => rfl)) pa_nil)))) (pss_one (ps_ret (pv 2))) pss_nil))) (pss_one (ps_ret pe_non)))
theorem sc_Relaxing_init : FnScope N_Relaxing_init ["self", "history", "starts"] (defScope s_Relaxing_init) := ⟨rfl, rfl, rfl, by decide +kernel, rfl, by decide +kernel, by decide +kernel⟩
theorem ok_Relaxing_init (T : Tx K mg) : Okd P w K mg base CX0 8 (He.ma K (He.ga K "Relaxing") "__init__") ["self", "history", "starts"] (sp_Relaxing_init K) := by
  obtain ⟨fd, F⟩ := T.f_Relaxing_init
  have nd := (sc_Relaxing_init).nd
  refine ⟨fd, F.ok sc_Relaxing_init (fun vs H Q E h => len_Relaxing_init h) (fun cdv A outer s H vs Q E hr h => ⟨t_Relaxing_init K, PSs.nox ?_, rd_Relaxing_init T.toKx h⟩), F.bindsN (ps := ["self", "history", "starts"]) fun _ _ _ _ _ _ us hl => match us, hl with | [_, _, _], _ => rfl, F.kp⟩
  have hu := hu_of hr
  exact (pss_cons (ps_fld (pv 0) (pe_callO (ok_history_steps (P := P) (w := w) (base := base) T) hr rfl (T.g_history_steps) pass0 (pa_cons (pv 1) pa_nil)) rfl) (pss_cons (ps_fld (pv 0) (pe_dc (own := [("event", 3)]) rfl nd (pi_list (pv 2)) (blkOk_by (own := [("event", 3)]) (N := N_Relaxing_init) (sc := defScope s_Relaxing_init) (by decide +kernel)) (fun _ _ _ _ _ => (pg_name (i := 3) nd rfl (Or.inl rfl))) (fun _ _ _ _ _ => pts_nil) (fun _ _ _ _ _ => (pv 3)) (fun _ _ _ _ _ => (pe_glob rfl (T.g_NOUGHT) rfl))) rfl) (pss_cons (ps_fld (pv 0) pe_dnewK rfl) (pss_one (ps_fld (pv 0) pe_non rfl)))))
theorem sc_steps_from : FnScope N_steps_from ["history"] (defScope s_steps_from) := ⟨rfl, rfl, rfl, by decide +kernel, rfl, by decide +kernel, by decide +kernel⟩
theorem ok_steps_from (T : Tx K mg) : Okd P w K mg base CX0 8 (He.ga K "steps_from") ["history"] (sp_steps_from K) := by
  obtain ⟨fd, F⟩ := T.f_steps_from
  have nd := (sc_steps_from).nd
  refine ⟨fd, F.ok sc_steps_from (fun vs H Q E h => len_steps_from h) (fun cdv A outer s H vs Q E hr h => ⟨t_steps_from K, PSs.nox ?_, rd_steps_from T.toKx h⟩), F.bindsN (ps := ["history"]) fun _ _ _ _ _ _ us hl => match us, hl with | [_], _ => rfl, F.kp⟩
  have hu := hu_of hr
  exact (pss_cons (ps_set (i := 1) nd rfl (Or.inl rfl) pe_dnewK) (pss_cons (ps_for PassesOwn.never rfl (pi_enT rfl (T.b_enumerate) (pa_cons (pe_callO (ok_history_steps (P := P) (w := w) (base := base) T) hr rfl (T.g_history_steps) pass0 (pa_cons (pv 0) pa_nil)) pa_nil)) (pg_tup rfl (pgs_cons (pg_name (i := 2) nd rfl (Or.inl rfl)) (pgs_cons (pg_tup rfl (pgs_cons (pg_name (i := 3) nd rfl (Or.inl rfl)) (pgs_cons (pg_name (i := 4) nd rfl (Or.inl rfl)) (pgs_cons (pg_name (i := 5) nd rfl (Or.inl rfl)) pgs_nil)))) pgs_nil))) (pss_one (ps_expr (pe_bm PySem.F.plainAttrs_list PySem.F.slot_list_append PySem.F.type_list_append mt_append (pe_dsetd (pv 1) (pv 3) (pe_lst pa_nil) ⟨rfl, rfl, rfl, rfl⟩) (pa_cons (pv 2) pa_nil))))) (pss_one (ps_ret (pv 1)))))
theorem sc_lets_ring : FnScope N_lets_ring ["history", "thing"] (defScope s_lets_ring) := ⟨rfl, rfl, rfl, by decide +kernel, rfl, by decide +kernel, by decide +kernel⟩
theorem ok_lets_ring (T : Tx K mg) : Okd P w K mg base (L2.CX P w) 8 (He.ga K "lets_ring") ["history", "thing"] (sp_lets_ring K) := by
  obtain ⟨fd, F⟩ := T.f_lets_ring
  have nd := (sc_lets_ring).nd
  refine ⟨fd, F.ok sc_lets_ring (fun vs H Q E h => len_lets_ring h) (fun cdv A outer s H vs Q E hr h => ⟨t_lets_ring K E, ?_, rd_lets_ring T.toKx h⟩), F.bindsN (ps := ["history", "thing"]) fun _ _ _ _ _ _ us hl => match us, hl with | [_, _], _ => rfl, F.kp⟩
  have hu := hu_of hr
  exact (pss_cons (ps_expr (pe_callO (ok_needA (P := P) (w := w) (base := base) T) hr rfl (T.g_need_waychecker) (passes_call (takes_of rfl rfl rfl rfl) fun _ _ _ _ z => z) (pa_cons (pe_and (pe_callO (ok_are_numbers (P := P) (w := w) (base := base) T) hr rfl (T.g_are_numbers) pass0 (pa_cons (pv 1) pa_nil)) (pe_one (pe_cmpR op_gt (pe_callB call_len_seq (by rfl) (T.b_len) (by decide +kernel) (pa_cons (pv 1) pa_nil)) pe_int (nomark _)))) (pa_cons pe_str (pa_cons (pe_un un_neg pe_int) pa_nil))))) (pss_cons (ps_set (i := 2) nd rfl (Or.inl rfl) (pe_callO (ok_history_steps (P := P) (w := w) (base := base) T) hr rfl (T.g_history_steps) pass0 (pa_cons (pv 0) pa_nil))) (pss_cons (ps_for (passes_of rfl) rfl (pi_enT rfl (T.b_enumerate) (pa_cons (pv 1) pa_nil)) (pg_tup rfl (pgs_cons (pg_name (i := 3) nd rfl (Or.inl rfl)) (pgs_cons (pg_name (i := 4) nd rfl (Or.inl rfl)) pgs_nil))) (pss_one (ps_expr (pe_callO (ok_needA (P := P) (w := w) (base := base) T) hr rfl (T.g_need_waychecker) (passes_call (takes_of rfl rfl rfl rfl) fun _ _ _ _ z => z) (pa_cons (pe_chain op_le op_lt pe_int (pv 4) (pe_callB call_len_seq (by rfl) (T.b_len) (by decide +kernel) (pa_cons (pv 2) pa_nil))) (pa_cons pe_str (pa_cons (pv 3) pa_nil))))))) (pss_cons (ps_for (passes_of rfl) rfl (pi_enT rfl (T.b_enumerate) (pa_cons (pv 1) pa_nil)) (pg_tup rfl (pgs_cons (pg_name (i := 3) nd rfl (Or.inl rfl)) (pgs_cons (pg_name (i := 4) nd rfl (Or.inl rfl)) pgs_nil))) (pss_one (ps_expr (pe_callO (ok_needA (P := P) (w := w) (base := base) T) hr rfl (T.g_need_waychecker) (passes_call (takes_of rfl rfl rfl rfl) fun _ _ _ _ z => z) (pa_cons (pe_cmpR op_eq (pe_ix ix_tup (pe_ix ix_tup (pv 2) (pe_ix ix_tup (pv 1) (pe_op op_sub (pv 3) pe_int) (fun _ _ => rfl)) (fun _ _ => rfl)) pe_int (fun _ _ => rfl)) (pe_ix ix_tup (pe_ix ix_tup (pv 2) (pv 4) (fun _ _ => rfl)) pe_int (fun _ _ => rfl)) (nomark _)) (pa_cons pe_str (pa_cons (pv 3) pa_nil))))))) (pss_cons (ps_set (i := 5) nd rfl (Or.inl rfl) (pe_callO (ok_steps_total (P := P) (w := w) (base := base) T) hr rfl (T.g_steps_total) pass0 (pa_cons (pv 2) (pa_cons (pv 1) pa_nil)))) (pss_cons (ps_expr (pe_callO (ok_needA (P := P) (w := w) (base := base) T) hr rfl (T.g_need_waychecker) (passes_call (takes_of rfl rfl rfl rfl) fun _ _ _ _ z => z) (pa_cons (pe_callO (ok_is_below (P := P) (w := w) (base := base) T) hr rfl (T.g_is_below) pass0 (pa_cons (pv 5) (pa_cons (pe_glob rfl (T.g_NOUGHT) rfl) pa_nil))) (pa_cons pe_str (pa_cons (pe_un un_neg pe_int) pa_nil))))) (pss_one (ps_ret (pv 5)))))))))
theorem sc_lets_world : FnScope N_lets_world ["history", "thing"] (defScope s_lets_world) := ⟨rfl, rfl, rfl, by decide +kernel, rfl, by decide +kernel, by decide +kernel⟩
theorem ok_lets_world (T : Tx K mg) : Okd P w K mg base (L2.CX P w) 8 (He.ga K "lets_world") ["history", "thing"] (sp_lets_world K) := by
  obtain ⟨fd, F⟩ := T.f_lets_world
  have nd := (sc_lets_world).nd
  refine ⟨fd, F.ok sc_lets_world (fun vs H Q E h => len_lets_world h) (fun cdv A outer s H vs Q E hr h => ⟨t_lets_world K E, ?_, rd_lets_world T.toKx h⟩), F.bindsN (ps := ["history", "thing"]) fun _ _ _ _ _ _ us hl => match us, hl with | [_, _], _ => rfl, F.kp⟩
  have hu := hu_of hr
  exact (pss_cons (ps_expr (pe_callO (ok_needB (P := P) (w := w) (base := base) T) hr rfl (T.g_need_worldchecker) (passes_call (takes_of rfl rfl rfl rfl) fun _ _ _ _ z => z) (pa_cons (pe_callO (ok_are_times (P := P) (w := w) (base := base) T) hr rfl (T.g_are_times) pass0 (pa_cons (pv 1) pa_nil)) (pa_cons pe_str (pa_cons (pe_un un_neg pe_int) pa_nil))))) (pss_cons (ps_expr (pe_callO (ok_needB (P := P) (w := w) (base := base) T) hr rfl (T.g_need_worldchecker) (passes_call (takes_of rfl rfl rfl rfl) fun _ _ _ _ z => z) (pa_cons (pe_cmpR op_eq (pe_callB call_len_seq (by rfl) (T.b_len) (by decide +kernel) (pa_cons (pv 1) pa_nil)) (pe_callB call_len_seq (by rfl) (T.b_len) (by decide +kernel) (pa_cons (pe_ix ix_tup (pv 0) pe_int (fun _ _ => rfl)) pa_nil)) (nomark _)) (pa_cons pe_str (pa_cons (pe_un un_neg pe_int) pa_nil))))) (pss_cons (ps_set (i := 2) nd rfl (Or.inl rfl) (pe_callO (ok_world_bars (P := P) (w := w) (base := base) T) hr rfl (T.g_world_bars) pass0 (pa_cons (pv 0) (pa_cons (pv 1) pa_nil)))) (pss_cons (ps_expr (pe_callO (ok_needB (P := P) (w := w) (base := base) T) hr rfl (T.g_need_worldchecker) (passes_call (takes_of rfl rfl rfl rfl) fun _ _ _ _ z => z) (pa_cons (pe_cmpR op_isN (pv 2) pe_non (nomark _)) (pa_cons pe_str (pa_cons (pv 2) pa_nil))))) (pss_one (ps_ret (pe_callB call_len_seq (by rfl) (T.b_len) (by decide +kernel) (pa_cons (pv 1) pa_nil))))))))
end
end K27
namespace K27
open PySem PySem.Spec PyProof.Rows L2 KM
section
variable {P : Program} {w : World} {K : PySem.W.Frag} {mg : PySem.Str → Option Value} {base : Heap}
theorem sc_law_field : FnScope N_law_field ["_law_feed_here", "_law_most"] (defScope s_law_field) := ⟨rfl, rfl, rfl, by decide +kernel, rfl, by decide +kernel, by decide +kernel⟩
theorem ok_law_field (T : Tx K mg) : Okd P w K mg base CX0 2 (He.ga K "_law_field") ["_law_feed_here", "_law_most"] (sp_law_field K) := by
  obtain ⟨fd, F⟩ := T.f_law_field
  have nd := (sc_law_field).nd
  refine ⟨fd, F.ok sc_law_field (fun vs H Q E h => len_law_field h) (fun cdv A outer s H vs Q E hr h => ⟨t_law_field K, PSs.nox ?_, rd_law_field T.toKx h⟩), F.bindsN (ps := ["_law_feed_here", "_law_most"]) fun _ _ _ _ _ _ us hl => match us, hl with | [_, _], _ => rfl, F.kp⟩
  have hu := hu_of hr
  exact (pss_cons (ps_set (i := 2) nd rfl (Or.inr rfl) (pe_lst (pa_cons pe_str (pa_cons pe_str (pa_cons pe_str (pa_cons pe_str (pa_cons pe_str (pa_cons pe_str pa_nil)))))))) (pss_cons (ps_set (i := 3) nd rfl (Or.inl rfl) (pe_callB cr_sortedS (by rfl) (T.b_sorted) (by decide +kernel) (pa_cons (pe_lc (own := [("_law_k", 9)]) rfl nd (pi_range1 rfl (T.b_range) (pa_cons (pe_op op_add pe_int (pe_callO (ok_law_draw (P := P) (w := w) (base := base) T) hr rfl (T.g__law_draw) pass0 (pa_cons (pv 0) (pa_cons (pv 1) pa_nil)))) pa_nil)) (blkOk_by (own := [("_law_k", 9)]) (N := N_law_field) (sc := defScope s_law_field) (by decide +kernel)) (fun _ _ _ _ _ => (pg_name (i := 9) nd rfl (Or.inl rfl))) (fun _ _ _ _ _ => pts_nil) (fun _ _ _ _ _ => (pe_bm PySem.F.plainAttrs_list PySem.F.slot_list_pop PySem.F.type_list_pop mt_popAt (pv 2) (pa_cons (pe_callO (ok_law_draw (P := P) (w := w) (base := base) T) hr rfl (T.g__law_draw) pass0 (pa_cons (pv 0) (pa_cons (pe_callB call_len_seq (by rfl) (T.b_len) (by decide +kernel) (pa_cons (pv 2) pa_nil)) pa_nil))) pa_nil)))) pa_nil))) (pss_cons (ps_par3 rfl nd rfl rfl rfl (by decide) (by decide) (by decide) rfl rfl rfl (pa_cons (pe_ix ix_list (pv 3) (pe_callO (ok_law_draw (P := P) (w := w) (base := base) T) hr rfl (T.g__law_draw) pass0 (pa_cons (pv 0) (pa_cons (pe_callB call_len_seq (by rfl) (T.b_len) (by decide +kernel) (pa_cons (pv 3) pa_nil)) pa_nil))) (fun _ _ => rfl)) (pa_cons (pe_lst pa_nil) (pa_cons (pe_lst pa_nil) pa_nil))) (by rfl)) (pss_cons (ps_for PassesOwn.never rfl (pi_list (pv 3)) (pg_name (i := 7) nd rfl (Or.inl rfl)) (pss_cons (ps_set (i := 8) nd rfl (Or.inl rfl) (pe_ix ix_list (pe_lst (pa_cons (pe_tup (pa_cons pe_int (pa_cons pe_int pa_nil))) (pa_cons (pe_tup (pa_cons pe_int (pa_cons pe_int pa_nil))) (pa_cons (pe_tup (pa_cons pe_int (pa_cons pe_int pa_nil))) pa_nil)))) (pe_op op_mul (pe_callO (ok_law_draw (P := P) (w := w) (base := base) T) hr rfl (T.g__law_draw) pass0 (pa_cons (pv 0) (pa_cons pe_int pa_nil))) (pe_callTy call_int1 (by rfl) (T.b_int) (by decide +kernel) (pa_cons (pe_cmpR op_ne (pv 7) (pv 4) (nomark _)) pa_nil))) (fun _ _ => rfl))) (pss_one (ps_expr (pe_bm PySem.F.plainAttrs_list PySem.F.slot_list_append PySem.F.type_list_append mt_append (pv 5) (pa_cons (pe_tup (pa_cons (pv 7) (pa_cons (pv 8) (pa_cons (pe_ix ix_list (pe_lst (pa_cons (pe_tup (pa_cons pe_int (pa_cons pe_int pa_nil))) (pa_cons (pe_tup (pa_cons pe_int (pa_cons pe_int pa_nil))) (pa_cons (pe_tup (pa_cons pe_int (pa_cons pe_int pa_nil))) (pa_cons (pe_tup (pa_cons pe_int (pa_cons pe_int pa_nil))) pa_nil))))) (pe_op op_mul (pe_callO (ok_law_draw (P := P) (w := w) (base := base) T) hr rfl (T.g__law_draw) pass0 (pa_cons (pv 0) (pa_cons pe_int pa_nil))) (pe_callTy call_int1 (by rfl) (T.b_int) (by decide +kernel) (pa_cons (pe_cmpR op_ne (pv 7) (pv 4) (nomark _)) pa_nil))) (fun _ _ => rfl)) pa_nil)))) pa_nil)))))) (pss_cons (ps_for PassesOwn.never rfl (pi_range1 rfl (T.b_range) (pa_cons (pe_op op_mul (pe_callO (ok_law_draw (P := P) (w := w) (base := base) T) hr rfl (T.g__law_draw) pass0 (pa_cons (pv 0) (pa_cons pe_int pa_nil))) (pe_callTy call_int1 (by rfl) (T.b_int) (by decide +kernel) (pa_cons (pe_cmpR op_gt (pe_callB call_len_seq (by rfl) (T.b_len) (by decide +kernel) (pa_cons (pv 3) pa_nil)) pe_int (nomark _)) pa_nil))) pa_nil)) (pg_name (i := 9) nd rfl (Or.inl rfl)) (pss_cons (ps_set (i := 10) nd rfl (Or.inr rfl) (pe_ix ix_list (pv 3) (pe_callO (ok_law_draw (P := P) (w := w) (base := base) T) hr rfl (T.g__law_draw) pass0 (pa_cons (pv 0) (pa_cons (pe_callB call_len_seq (by rfl) (T.b_len) (by decide +kernel) (pa_cons (pv 3) pa_nil)) pa_nil))) (fun _ _ => rfl))) (pss_cons (ps_setLc (i := 11) (own := [("_law_name", 7)]) rfl nd rfl rfl (sw_true rfl rfl rfl (by decide +kernel)) (pi_list (pv 3)) (blkOk_by (own := [("_law_name", 7)]) (N := N_law_field) (sc := defScope s_law_field) (by decide +kernel)) (fun _ _ _ _ _ => (pg_name (i := 7) nd rfl (Or.inl rfl))) (fun _ _ _ _ _ => (pts_one (pt_cmpR op_ne (pv 7) (pv 10) (nomark _)))) (fun _ _ _ _ _ => (pv 7))) (pss_cons (ps_set (i := 12) nd rfl (Or.inl rfl) (pe_callO (ok_law_draw (P := P) (w := w) (base := base) T) hr rfl (T.g__law_draw) pass0 (pa_cons (pv 0) (pa_cons pe_int pa_nil)))) (pss_cons (ps_set (i := 13) nd rfl (Or.inl rfl) (pe_ix ix_list (pe_lst (pa_cons pe_int (pa_cons pe_int (pa_cons pe_int (pa_cons pe_int (pa_cons pe_non pa_nil)))))) (pe_callO (ok_law_draw (P := P) (w := w) (base := base) T) hr rfl (T.g__law_draw) pass0 (pa_cons (pv 0) (pa_cons pe_int pa_nil))) (fun _ _ => rfl))) (pss_cons (ps_set (i := 14) nd rfl (Or.inl rfl) (pe_ifExp (pt_cmpR op_isN (pv 13) pe_non (nomark _)) pe_non (pe_callO (ok_law_frac (P := P) (w := w) (base := base) T) hr rfl (T.g__law_frac) pass0 (pa_cons (pe_op op_add (pv 12) (pv 13)) (pa_cons pe_int pa_nil))))) (pss_one (ps_expr (pe_bm PySem.F.plainAttrs_list PySem.F.slot_list_append PySem.F.type_list_append mt_append (pv 6) (pa_cons (pe_tup (pa_cons (pv 10) (pa_cons (pe_ix ix_list (pv 11) (pe_callO (ok_law_draw (P := P) (w := w) (base := base) T) hr rfl (T.g__law_draw) pass0 (pa_cons (pv 0) (pa_cons (pe_callB call_len_seq (by rfl) (T.b_len) (by decide +kernel) (pa_cons (pv 11) pa_nil)) pa_nil))) (fun _ _ => rfl)) (pa_cons (pe_callO (ok_law_frac (P := P) (w := w) (base := base) T) hr rfl (T.g__law_frac) pass0 (pa_cons (pv 12) (pa_cons pe_int pa_nil))) (pa_cons (pv 14) pa_nil))))) pa_nil)))))))))) (pss_one (ps_ret (pe_tup (pa_cons (pe_callTy call_tuple_of (by rfl) (T.b_tuple) (by decide +kernel) (pa_cons (pv 5) pa_nil)) (pa_cons (pe_callTy call_tuple_of (by rfl) (T.b_tuple) (by decide +kernel) (pa_cons (pv 6) pa_nil)) (pa_cons (pv 4) pa_nil)))))))))))
theorem sc_law_barred : FnScope N_law_barred ["_law_feed_here", "_law_history"] (defScope s_law_barred) := ⟨rfl, rfl, rfl, by decide +kernel, rfl, by decide +kernel, by decide +kernel⟩
theorem ok_law_barred (T : Tx K mg) : Okd P w K mg base CX0 2 (He.ga K "_law_barred") ["_law_feed_here", "_law_history"] (sp_law_barred K) := by
  obtain ⟨fd, F⟩ := T.f_law_barred
  have nd := (sc_law_barred).nd
  refine ⟨fd, F.ok sc_law_barred (fun vs H Q E h => len_law_barred h) (fun cdv A outer s H vs Q E hr h => ⟨t_law_barred K, PSs.nox ?_, rd_law_barred T.toKx h⟩), F.bindsN (ps := ["_law_feed_here", "_law_history"]) fun _ _ _ _ _ _ us hl => match us, hl with | [_, _], _ => rfl, F.kp⟩
  have hu := hu_of hr
  exact (pss_cons (ps_asg (pv 1) (pg_tup rfl (pgs_cons (pg_name (i := 2) nd rfl (Or.inl rfl)) (pgs_cons (pg_name (i := 3) nd rfl (Or.inl rfl)) pgs_nil)))) (pss_cons (ps_par rfl nd rfl rfl (by decide) rfl rfl (pa_cons (pe_callO (ok_law_draw (P := P) (w := w) (base := base) T) hr rfl (T.g__law_draw) pass0 (pa_cons (pv 0) (pa_cons pe_int pa_nil))) (pa_cons (pe_callO (ok_law_draw (P := P) (w := w) (base := base) T) hr rfl (T.g__law_draw) pass0 (pa_cons (pv 0) (pa_cons (pe_callB (call_max2 rfl) (by rfl) (T.b_max) (by decide +kernel) (pa_cons pe_int (pa_cons (pe_callB call_len_seq (by rfl) (T.b_len) (by decide +kernel) (pa_cons (pv 3) pa_nil)) pa_nil))) pa_nil))) pa_nil)) (by rfl)) (pss_cons (ps_if (PW.pt (pw_and (pt_cmpR op_eq (pv 4) pe_int (nomark _)) (pw_and1 (pt_cmpR (op_neD hr.units) (pv 3) (pe_tup pa_nil) (nomark _))))) (pss_cons (ps_set (i := 6) nd rfl (Or.inl rfl) (pe_op op_add pe_int (pe_callO (ok_law_draw (P := P) (w := w) (base := base) T) hr rfl (T.g__law_draw) pass0 (pa_cons (pv 0) (pa_cons pe_int pa_nil))))) (pss_cons (ps_set (i := 7) nd rfl (Or.inl rfl) (pe_callTy call_list_of (by rfl) (T.b_list) (by decide +kernel) (pa_cons (pv 3) pa_nil))) (pss_cons (ps_for PassesOwn.never rfl (pi_range2 rfl (T.b_range) (pa_cons (pv 5) (pa_cons (pe_callB call_len_seq (by rfl) (T.b_len) (by decide +kernel) (pa_cons (pv 3) pa_nil)) pa_nil))) (pg_name (i := 8) nd rfl (Or.inl rfl)) (pss_cons (ps_asg (pe_ix ix_tup (pv 3) (pv 8) (fun _ _ => rfl)) (pg_tup rfl (pgs_cons (pg_name (i := 9) nd rfl (Or.inl rfl)) (pgs_cons (pg_name (i := 10) nd rfl (Or.inl rfl)) (pgs_cons (pg_name (i := 11) nd rfl (Or.inl rfl)) pgs_nil))))) (pss_one (ps_if (pt_cmpR op_eq (pv 9) (pe_ix ix_tup (pe_ix ix_tup (pv 3) (pv 5) (fun _ _ => rfl)) pe_int (fun _ _ => rfl)) (nomark _)) (pss_one (ps_asg (pe_tup (pa_cons (pv 9) (pa_cons (pe_callO (ok_law_frac (P := P) (w := w) (base := base) T) hr rfl (T.g__law_frac) pass0 (pa_cons (pe_op op_add (pe_op op_fdiv (pe_op op_mul (pe_ix ix_tup (pv 10) pe_int (fun _ _ => rfl)) pe_int) (pe_ix ix_tup (pv 10) pe_int (fun _ _ => rfl))) (pv 6)) (pa_cons pe_int pa_nil))) (pa_cons (pv 11) pa_nil)))) (pg_sub (pv 7) (pv 8) set_list))) pss_nil)))) (pss_one (ps_ret (pe_tup (pa_cons (pv 2) (pa_cons (pe_callTy call_tuple_of (by rfl) (T.b_tuple) (by decide +kernel) (pa_cons (pv 7) pa_nil)) pa_nil)))))))) pss_nil) (pss_cons (ps_set (i := 12) nd rfl (Or.inl rfl) (pe_lst pa_nil)) (pss_cons (ps_for PassesOwn.never rfl (pi_tup (pe_ix ix_tup (pv 2) pe_int (fun _ _ => rfl))) (pg_tup rfl (pgs_cons (pg_name (i := 13) nd rfl (Or.inl rfl)) (pgs_cons (pg_name (i := 14) nd rfl (Or.inl rfl)) (pgs_cons (pg_name (i := 15) nd rfl (Or.inl rfl)) (pgs_cons (pg_name (i := 16) nd rfl (Or.inl rfl)) pgs_nil))))) (pss_one (ps_if (pt_cmpR op_eq (pv 4) pe_int (nomark _)) (pss_one (ps_expr (pe_bm PySem.F.plainAttrs_list PySem.F.slot_list_append PySem.F.type_list_append mt_append (pv 12) (pa_cons (pe_tup (pa_cons (pv 13) (pa_cons (pv 14) (pa_cons (pe_callO (ok_law_frac (P := P) (w := w) (base := base) T) hr rfl (T.g__law_frac) pass0 (pa_cons (pe_op op_add (pe_op op_fdiv (pe_op op_mul (pe_ix ix_tup (pv 15) pe_int (fun _ _ => rfl)) pe_int) (pe_ix ix_tup (pv 15) pe_int (fun _ _ => rfl))) pe_int) (pa_cons pe_int pa_nil))) (pa_cons (pe_ifExp (pt_cmpR op_isN (pv 16) pe_non (nomark _)) pe_non (pe_tup (pa_cons pe_int (pa_cons pe_int pa_nil)))) pa_nil))))) pa_nil)))) (pss_one (ps_expr (pe_bm PySem.F.plainAttrs_list PySem.F.slot_list_append PySem.F.type_list_append mt_append (pv 12) (pa_cons (pe_tup (pa_cons (pv 13) (pa_cons (pv 14) (pa_cons (pv 15) (pa_cons (pv 15) pa_nil))))) pa_nil))))))) (pss_one (ps_ret (pe_tup (pa_cons (pe_tup (pa_cons (pe_ix ix_tup (pv 2) pe_int (fun _ _ => rfl)) (pa_cons (pe_callTy call_tuple_of (by rfl) (T.b_tuple) (by decide +kernel) (pa_cons (pv 12) pa_nil)) (pa_cons (pe_ix ix_tup (pv 2) pe_int (fun _ _ => rfl)) pa_nil)))) (pa_cons (pv 3) pa_nil))))))))))
theorem sc_law_drawn : FnScope N_law_drawn ["_law_feed_here", "_law_most", "_law_many"] (defScope s_law_drawn) := ⟨rfl, rfl, rfl, by decide +kernel, rfl, by decide +kernel, by decide +kernel⟩
theorem ok_law_drawn (T : Tx K mg) : Okd P w K mg base CX0 3 (He.ga K "_law_drawn") ["_law_feed_here", "_law_most", "_law_many"] (sp_law_drawn K) := by
  obtain ⟨fd, F⟩ := T.f_law_drawn
  have nd := (sc_law_drawn).nd
  refine ⟨fd, F.ok sc_law_drawn (fun vs H Q E h => len_law_drawn h) (fun cdv A outer s H vs Q E hr h => ⟨t_law_drawn K, PSs.nox ?_, rd_law_drawn T.toKx h⟩), F.bindsN (ps := ["_law_feed_here", "_law_most", "_law_many"]) fun _ _ _ _ _ _ us hl => match us, hl with | [_, _, _], _ => rfl, F.kp⟩
  have hu := hu_of hr
  exact (pss_cons (ps_set (i := 3) nd rfl (Or.inl rfl) (pe_callO (ok_law_field (P := P) (w := w) (base := base) T) hr rfl (T.g__law_field) pass0 (pa_cons (pv 0) (pa_cons (pv 1) pa_nil)))) (pss_cons (ps_asg (pe_tup (pa_cons pe_int (pa_cons pe_dnewK (pa_cons (pe_lst pa_nil) (pa_cons (pe_lst pa_nil) (pa_cons (pe_lst pa_nil) pa_nil)))))) (pg_tup rfl (pgs_cons (pg_name (i := 4) nd rfl (Or.inl rfl)) (pgs_cons (pg_name (i := 5) nd rfl (Or.inl rfl)) (pgs_cons (pg_name (i := 6) nd rfl (Or.inl rfl)) (pgs_cons (pg_name (i := 7) nd rfl (Or.inl rfl)) (pgs_cons (pg_name (i := 8) nd rfl (Or.inl rfl)) pgs_nil))))))) (pss_cons (ps_for PassesOwn.never rfl (pi_range1 rfl (T.b_range) (pa_cons (pv 2) pa_nil)) (pg_name (i := 9) nd rfl (Or.inl rfl)) (pss_cons (ps_set (i := 4) nd rfl (Or.inl rfl) (pe_op op_add (pv 4) (pe_ix ix_list (pe_lst (pa_cons pe_int (pa_cons pe_int (pa_cons pe_int (pa_cons pe_int (pa_cons pe_int pa_nil)))))) (pe_callO (ok_law_draw (P := P) (w := w) (base := base) T) hr rfl (T.g__law_draw) pass0 (pa_cons (pv 0) (pa_cons pe_int pa_nil))) (fun _ _ => rfl)))) (pss_cons (ps_set (i := 10) nd rfl (Or.inr rfl) (pe_ix ix_tup (pe_ix ix_tup (pe_ix ix_tup (pv 3) pe_int (fun _ _ => rfl)) (pe_callO (ok_law_draw (P := P) (w := w) (base := base) T) hr rfl (T.g__law_draw) pass0 (pa_cons (pv 0) (pa_cons (pe_callB call_len_seq (by rfl) (T.b_len) (by decide +kernel) (pa_cons (pe_ix ix_tup (pv 3) pe_int (fun _ _ => rfl)) pa_nil)) pa_nil))) (fun _ _ => rfl)) pe_int (fun _ _ => rfl))) (pss_cons (ps_set (i := 11) nd rfl (Or.inl rfl) (pe_op op_sub (pe_callO (ok_law_draw (P := P) (w := w) (base := base) T) hr rfl (T.g__law_draw) pass0 (pa_cons (pv 0) (pa_cons pe_int pa_nil))) pe_int)) (pss_cons (ps_if (pt_cmp (pc_din hu (pv 10) (pv 5))) (pss_cons (ps_asg (pe_callO (ok_law_rates (P := P) (w := w) (base := base) T) hr rfl (T.g__law_rates) pass0 (pa_cons (pv 3) (pa_cons (pv 10) pa_nil))) (pg_tup rfl (pgs_cons (pg_name (i := 12) nd rfl (Or.inl rfl)) (pgs_cons (pg_name (i := 13) nd rfl (Or.inl rfl)) pgs_nil)))) (pss_cons (ps_asg (pe_dget hu (pv 5) (pv 10) (fun _ _ => rfl)) (pg_tup rfl (pgs_cons (pg_name (i := 14) nd rfl (Or.inl rfl)) (pgs_cons (pg_name (i := 11) nd rfl (Or.inl rfl)) pgs_nil)))) (pss_one (ps_set (i := 11) nd rfl (Or.inl rfl) (pe_op op_add (pv 11) (pe_op op_mul (pe_op op_sub (pv 4) (pv 14)) (pe_ix ix_list (pe_lst (pa_cons (pv 12) (pa_cons (pv 13) (pa_cons pe_int pa_nil)))) (pe_callO (ok_law_draw (P := P) (w := w) (base := base) T) hr rfl (T.g__law_draw) pass0 (pa_cons (pv 0) (pa_cons pe_int pa_nil))) (fun _ _ => rfl)))))))) pss_nil) (pss_cons (ps_dput hu (pv 5) (pv 10) (pe_tup (pa_cons (pv 4) (pa_cons (pv 11) pa_nil))) rfl) (pss_cons (ps_set (i := 15) nd rfl (Or.inl rfl) (pe_callO (ok_law_open (P := P) (w := w) (base := base) T) hr rfl (T.g__law_open) pass0 (pa_cons (pv 3) (pa_cons (pv 6) (pa_cons (pv 10) (pa_cons (pv 4) pa_nil)))))) (pss_cons (ps_setLc (i := 16) (own := [("_law_n", 19), ("_law_link", 20)]) rfl nd rfl rfl (sw_true rfl rfl rfl (by decide +kernel)) (pi_enT rfl (T.b_enumerate) (pa_cons (pe_ix ix_tup (pv 3) pe_int (fun _ _ => rfl)) pa_nil)) (blkOk_by (own := [("_law_n", 19), ("_law_link", 20)]) (N := N_law_drawn) (sc := defScope s_law_drawn) (by decide +kernel)) (fun _ _ _ _ _ => (pg_tup rfl (pgs_cons (pg_name (i := 19) nd rfl (Or.inl rfl)) (pgs_cons (pg_name (i := 20) nd rfl (Or.inl rfl)) pgs_nil)))) (fun _ _ _ _ _ => (pts_one (pt_cmpR op_eq (pe_ix ix_tup (pv 20) pe_int (fun _ _ => rfl)) (pv 10) (nomark _)))) (fun _ _ _ _ _ => (pv 19))) (pss_cons (ps_par rfl nd rfl rfl (by decide) rfl rfl (pa_cons (pe_tup (pa_cons pe_str pa_nil)) (pa_cons (pe_callO (ok_law_draw (P := P) (w := w) (base := base) T) hr rfl (T.g__law_draw) pass0 (pa_cons (pv 0) (pa_cons pe_int pa_nil))) pa_nil)) (by rfl)) (pss_cons (ps_if (PW.pt (pw_and (pt_cmpR op_lt (pv 18) pe_int (nomark _)) (pw_and1 (pt_cmpR (op_neD hr.units) (pv 15) (pe_lst pa_nil) (nomark _))))) (pss_one (ps_set (i := 17) nd rfl (Or.inl rfl) (pe_tup (pa_cons pe_str (pa_cons (pe_ix ix_list (pv 15) (pe_callO (ok_law_draw (P := P) (w := w) (base := base) T) hr rfl (T.g__law_draw) pass0 (pa_cons (pv 0) (pa_cons (pe_callB call_len_seq (by rfl) (T.b_len) (by decide +kernel) (pa_cons (pv 15) pa_nil)) pa_nil))) (fun _ _ => rfl)) pa_nil))))) (pss_one (ps_if (PW.pt (pw_and (pt_cmpR op_lt (pv 18) pe_int (nomark _)) (pw_and1 (pt_cmpR (op_neD hr.units) (pv 16) (pe_lst pa_nil) (nomark _))))) (pss_cons (ps_set (i := 17) nd rfl (Or.inl rfl) (pe_tup (pa_cons pe_str (pa_cons (pe_ix ix_list (pv 16) (pe_callO (ok_law_draw (P := P) (w := w) (base := base) T) hr rfl (T.g__law_draw) pass0 (pa_cons (pv 0) (pa_cons (pe_callB call_len_seq (by rfl) (T.b_len) (by decide +kernel) (pa_cons (pv 16) pa_nil)) pa_nil))) (fun _ _ => rfl)) pa_nil)))) (pss_one (ps_expr (pe_bm PySem.F.plainAttrs_list PySem.F.slot_list_append PySem.F.type_list_append mt_append (pv 6) (pa_cons (pe_tup (pa_cons (pv 9) (pa_cons (pe_ix ix_tup (pv 17) pe_int (fun _ _ => rfl)) (pa_cons (pv 4) pa_nil)))) pa_nil))))) pss_nil))) (pss_cons (ps_expr (pe_bm PySem.F.plainAttrs_list PySem.F.slot_list_append PySem.F.type_list_append mt_append (pv 7) (pa_cons (pe_tup (pa_cons (pv 10) (pa_cons (pe_callO (ok_law_frac (P := P) (w := w) (base := base) T) hr rfl (T.g__law_frac) pass0 (pa_cons (pv 11) (pa_cons pe_int pa_nil))) (pa_cons (pv 17) pa_nil)))) pa_nil))) (pss_one (ps_expr (pe_bm PySem.F.plainAttrs_list PySem.F.slot_list_append PySem.F.type_list_append mt_append (pv 8) (pa_cons (pe_tup (pa_cons (pv 4) (pa_cons pe_int pa_nil))) pa_nil))))))))))))))) (pss_one (ps_ret (pe_tup (pa_cons (pe_tup (pa_cons (pv 3) (pa_cons (pe_callTy call_tuple_of (by rfl) (T.b_tuple) (by decide +kernel) (pa_cons (pv 7) pa_nil)) pa_nil))) (pa_cons (pe_callTy call_tuple_of (by rfl) (T.b_tuple) (by decide +kernel) (pa_cons (pv 8) pa_nil)) pa_nil))))))))
end
end K27
namespace K27
open PySem PySem.Spec PyProof.Rows L2 KM
section
variable {P : Program} {w : World} {K : PySem.W.Frag} {mg : PySem.Str → Option Value} {base : Heap}
theorem sc_going_on : FnScope N_going_on ["history", "x"] (defScope s_going_on) := ⟨rfl, rfl, rfl, by decide +kernel, rfl, by decide +kernel, by decide +kernel⟩
theorem ok_going_on (T : Tx K mg) : Okd P w K mg base CX0 9 (He.ga K "going_on") ["history", "x"] (sp_going_on K) := by
  obtain ⟨fd, F⟩ := T.f_going_on
  have nd := (sc_going_on).nd
  refine ⟨fd, F.ok sc_going_on (fun vs H Q E h => len_going_on h) (fun cdv A outer s H vs Q E hr h => ⟨t_going_on K, PSs.nox ?_, rd_going_on T.toKx h⟩), F.bindsN (ps := ["history", "x"]) fun _ _ _ _ _ _ us hl => match us, hl with | [_, _], _ => rfl, F.kp⟩
  have hu := hu_of hr
  exact (pss_cons (ps_par rfl nd rfl rfl (by decide) rfl rfl (pa_cons (pe_callO (ok_history_steps (P := P) (w := w) (base := base) T) hr rfl (T.g_history_steps) pass0 (pa_cons (pv 0) pa_nil)) (pa_cons (pe_callO (ok_steps_from (P := P) (w := w) (base := base) T) hr rfl (T.g_steps_from) pass0 (pa_cons (pv 0) pa_nil)) pa_nil)) (by rfl)) (pss_cons (ps_par rfl nd rfl rfl (by decide) rfl rfl (pa_cons (pe_disp (pps_cons (pv 1) (pe_glob rfl (T.g_NOUGHT) rfl) pps_nil) (by rfl) (by rfl) (fun z => by cases z) (by decide)) (pa_cons pe_dnewK pa_nil)) (by rfl)) (pss_cons (ps_set (i := 6) nd rfl (Or.inl rfl) (pe_lst (pa_cons (pv 1) pa_nil))) (pss_cons (ps_while PassesOwn.never (pt_cmpR (op_neD hr.units) (pv 6) (pe_lst pa_nil) (nomark _)) (pss_cons (ps_asg (pv 6) (pg_star (i := 7) (j := 6) rfl nd rfl rfl rfl rfl)) (pss_one (ps_for PassesOwn.never rfl (pi_list (pe_dget2 hu (pv 3) (pv 7) (pe_lst pa_nil) ⟨rfl, rfl, rfl, rfl⟩)) (pg_name (i := 8) nd rfl (Or.inl rfl)) (pss_cons (ps_set (i := 9) nd rfl (Or.inl rfl) (pe_ix ix_tup (pe_ix ix_tup (pv 2) (pv 8) (fun _ _ => rfl)) pe_int (fun _ _ => rfl))) (pss_cons (ps_set (i := 10) nd rfl (Or.inl rfl) (pe_callO (ok_added (P := P) (w := w) (base := base) T) hr rfl (T.g_added) pass0 (pa_cons (pe_dget hu (pv 4) (pv 7) (fun _ _ => rfl)) (pa_cons (pe_ix ix_tup (pe_ix ix_tup (pv 2) (pv 8) (fun _ _ => rfl)) pe_int (fun _ _ => rfl)) pa_nil)))) (pss_one (ps_if (PW.pt (pw_or (pt_cmp (pc_dnotin hu (pv 9) (pv 4))) (pw_or1 (pt_val (pe_callO (ok_is_below (P := P) (w := w) (base := base) T) hr rfl (T.g_is_below) pass0 (pa_cons (pv 10) (pa_cons (pe_dget hu (pv 4) (pv 9) (fun _ _ => rfl)) pa_nil))))))) (pss_cons (ps_dput hu (pv 4) (pv 9) (pv 10) rfl) (pss_cons (ps_dput hu (pv 5) (pv 9) (pv 8) rfl) (pss_one (ps_if (pt_cmpR op_notIn_seq (pv 9) (pv 6) (by rfl)) (pss_one (ps_expr (pe_bm PySem.F.plainAttrs_list PySem.F.slot_list_append PySem.F.type_list_append mt_append (pv 6) (pa_cons (pv 9) pa_nil)))) pss_nil)))) pss_nil)))))))) (pss_one (ps_ret (pe_tup (pa_cons (pv 4) (pa_cons (pv 5) pa_nil)))))))))
theorem sc_relaxed : FnScope N_relaxed ["history"] (defScope s_relaxed) := ⟨rfl, rfl, rfl, by decide +kernel, rfl, by decide +kernel, by decide +kernel⟩
theorem ok_relaxed (T : Tx K mg) : Okd P w K mg base CX0 10 (He.ga K "relaxed") ["history"] (sp_relaxed K) := by
  obtain ⟨fd, F⟩ := T.f_relaxed
  have nd := (sc_relaxed).nd
  refine ⟨fd, F.ok sc_relaxed (fun vs H Q E h => len_relaxed h) (fun cdv A outer s H vs Q E hr h => ⟨t_relaxed K, PSs.nox ?_, rd_relaxed T.toKx h⟩), F.bindsN (ps := ["history"]) fun _ _ _ _ _ _ us hl => match us, hl with | [_], _ => rfl, F.kp⟩
  have hu := hu_of hr
  exact (pss_cons (ps_set (i := 1) nd rfl (Or.inl rfl) (pe_callB call_len_seq (by rfl) (T.b_len) (by decide +kernel) (pa_cons (pe_ix ix_tup (pv 0) pe_int (fun _ _ => rfl)) pa_nil))) (pss_cons (ps_set (i := 2) nd rfl (Or.inl rfl) (pe_makeO T.mkR (ok_Relaxing_init (P := P) (w := w) (base := base) T) hr rfl (T.g_Relaxing) pass0 (pa_cons (pv 0) (pa_cons (pe_listRg rfl rfl (T.b_list) (prg_1 rfl (T.b_range) (pv 1))) pa_nil)))) (pss_cons (ps_for PassesOwn.never rfl (pi_range1 rfl (T.b_range) (pa_cons (pe_op op_add (pv 1) pe_int) pa_nil)) (pg_name (i := 3) nd rfl (Or.inl rfl)) (pss_one (ps_if (pt_not (pt_val (pe_methO0 T.cl T.m_go_round (ok_Relaxing_go_round (P := P) (w := w) (base := base) T) hr pass0 (pv 2)))) (pss_one (ps_ret (pe_tup (pa_cons (pe_fld (pv 2) rfl) (pa_cons pe_non pa_nil))))) pss_nil))) (pss_one (ps_ret (pe_tup (pa_cons (pe_fld (pv 2) rfl) (pa_cons (pe_methO T.cl T.m_ring_back (ok_Relaxing_ring_back (P := P) (w := w) (base := base) T) hr pass0 (pv 2) (pa_cons (pe_op op_add (pv 1) pe_int) pa_nil)) pa_nil))))))))
theorem sc_ring_of : FnScope N_ring_of ["history"] (defScope s_ring_of) := ⟨rfl, rfl, rfl, by decide +kernel, rfl, by decide +kernel, by decide +kernel⟩
theorem ok_ring_of (T : Tx K mg) : Okd P w K mg base CX0 11 (He.ga K "ring_of") ["history"] (sp_ring_of K) := by
  obtain ⟨fd, F⟩ := T.f_ring_of
  have nd := (sc_ring_of).nd
  refine ⟨fd, F.ok sc_ring_of (fun vs H Q E h => len_ring_of h) (fun cdv A outer s H vs Q E hr h => ⟨t_ring_of K, PSs.nox ?_, rd_ring_of T.toKx h⟩), F.bindsN (ps := ["history"]) fun _ _ _ _ _ _ us hl => match us, hl with | [_], _ => rfl, F.kp⟩
  have hu := hu_of hr
  exact (pss_one (ps_ret (pe_ix ix_tup (pe_callO (ok_relaxed (P := P) (w := w) (base := base) T) hr rfl (T.g_relaxed) pass0 (pa_cons (pv 0) pa_nil)) pe_int (fun _ _ => rfl))))
theorem sc_world_or_ring : FnScope N_world_or_ring ["history"] (defScope s_world_or_ring) := ⟨rfl, rfl, rfl, by decide +kernel, rfl, by decide +kernel, by decide +kernel⟩
theorem ok_world_or_ring (T : Tx K mg) : Okd P w K mg base CX0 11 (He.ga K "world_or_ring") ["history"] (sp_world_or_ring K) := by
  obtain ⟨fd, F⟩ := T.f_world_or_ring
  have nd := (sc_world_or_ring).nd
  refine ⟨fd, F.ok sc_world_or_ring (fun vs H Q E h => len_world_or_ring h) (fun cdv A outer s H vs Q E hr h => ⟨t_world_or_ring K, PSs.nox ?_, rd_world_or_ring T.toKx h⟩), F.bindsN (ps := ["history"]) fun _ _ _ _ _ _ us hl => match us, hl with | [_], _ => rfl, F.kp⟩
  have hu := hu_of hr
  exact (pss_cons (ps_asg (pe_callO (ok_relaxed (P := P) (w := w) (base := base) T) hr rfl (T.g_relaxed) pass0 (pa_cons (pv 0) pa_nil)) (pg_tup rfl (pgs_cons (pg_name (i := 1) nd rfl (Or.inr rfl)) (pgs_cons (pg_name (i := 2) nd rfl (Or.inl rfl)) pgs_nil)))) (pss_cons (ps_if (pt_cmpR op_notN (pv 2) pe_non (nomark _)) (pss_one (ps_ret (pe_tup (pa_cons pe_str (pa_cons (pv 2) pa_nil))))) pss_nil) (pss_one (ps_ret (pe_tup (pa_cons pe_str (pa_cons (pe_callTy call_tuple_of (by rfl) (T.b_tuple) (by decide +kernel) (pa_cons (pe_lc (own := [("event", 3)]) rfl nd (pi_range1 rfl (T.b_range) (pa_cons (pe_callB call_len_seq (by rfl) (T.b_len) (by decide +kernel) (pa_cons (pe_ix ix_tup (pv 0) pe_int (fun _ _ => rfl)) pa_nil)) pa_nil)) (blkOk_by (own := [("event", 3)]) (N := N_world_or_ring) (sc := defScope s_world_or_ring) (by decide +kernel)) (fun _ _ _ _ _ => (pg_name (i := 3) nd rfl (Or.inl rfl))) (fun _ _ _ _ _ => pts_nil) (fun _ _ _ _ _ => (pe_dget hu (pv 1) (pv 3) (fun _ _ => rfl)))) pa_nil)) pa_nil)))))))
theorem sc_need_world : FnScope N_need_world ["history"] (defScope s_need_world) := ⟨rfl, rfl, rfl, by decide +kernel, rfl, by decide +kernel, by decide +kernel⟩
theorem ok_need_world (T : Tx K mg) : Okd P w K mg base (L2.CX P w) 12 (He.ga K "need_world") ["history"] (sp_need_world K) := by
  obtain ⟨fd, F⟩ := T.f_need_world
  have nd := (sc_need_world).nd
  refine ⟨fd, F.ok sc_need_world (fun vs H Q E h => len_need_world h) (fun cdv A outer s H vs Q E hr h => ⟨t_need_world K E, ?_, rd_need_world T.toKx h⟩), F.bindsN (ps := ["history"]) fun _ _ _ _ _ _ us hl => match us, hl with | [_], _ => rfl, F.kp⟩
  have hu := hu_of hr
  exact (pss_cons (ps_asg (pe_callO (ok_world_or_ring (P := P) (w := w) (base := base) T) hr rfl (T.g_world_or_ring) pass0 (pa_cons (pv 0) pa_nil)) (pg_tup rfl (pgs_cons (pg_name (i := 1) nd rfl (Or.inl rfl)) (pgs_cons (pg_name (i := 2) nd rfl (Or.inl rfl)) pgs_nil)))) (pss_cons (ps_if (pt_cmpR op_eq (pv 1) pe_str (nomark _)) (pss_one (ps_raise rfl (takes_of rfl rfl rfl rfl) (pmk_oexO T.oW T.i_NoWorld T.t_NoWorld (ok_NoWorld_init (P := P) (w := w) (base := base) T) hr rfl (T.g_NoWorld) (pa_cons (pv 2) pa_nil)))) pss_nil) (pss_one (ps_ret (pv 2)))))
theorem sc_reach_clever : FnScope N_reach_clever ["history", "x"] (defScope s_reach_clever) := ⟨rfl, rfl, rfl, by decide +kernel, rfl, by decide +kernel, by decide +kernel⟩
theorem ok_reach_clever (T : Tx K mg) : Okd P w K mg base (L2.CX P w) 13 (He.ga K "reach_clever") ["history", "x"] (sp_reach_clever K) := by
  obtain ⟨fd, F⟩ := T.f_reach_clever
  have nd := (sc_reach_clever).nd
  refine ⟨fd, F.ok sc_reach_clever (fun vs H Q E h => len_reach_clever h) (fun cdv A outer s H vs Q E hr h => ⟨t_reach_clever K E, ?_, rd_reach_clever T.toKx h⟩), F.bindsN (ps := ["history", "x"]) fun _ _ _ _ _ _ us hl => match us, hl with | [_, _], _ => rfl, F.kp⟩
  have hu := hu_of hr
  exact (pss_cons (ps_expr (pe_callO (ok_need_event (P := P) (w := w) (base := base) T) hr rfl (T.g_need_event) pass0 (pa_cons (pv 0) (pa_cons (pv 1) pa_nil)))) (pss_cons (ps_expr (pe_callO (ok_need_world (P := P) (w := w) (base := base) T) hr rfl (T.g_need_world) (passes_call (takes_of rfl rfl rfl rfl) fun _ _ _ _ z => z) (pa_cons (pv 0) pa_nil))) (pss_one (ps_ret (pe_callO (ok_as_row (P := P) (w := w) (base := base) T) hr rfl (T.g_as_row) pass0 (pa_cons (pv 0) (pa_cons (pe_ix ix_tup (pe_callO (ok_going_on (P := P) (w := w) (base := base) T) hr rfl (T.g_going_on) pass0 (pa_cons (pv 0) (pa_cons (pv 1) pa_nil))) pe_int (fun _ _ => rfl)) pa_nil)))))))
theorem sc_reach : FnScope N_reach ["history", "x", "y"] (defScope s_reach) := ⟨rfl, rfl, rfl, by decide +kernel, rfl, by decide +kernel, by decide +kernel⟩
theorem ok_reach (T : Tx K mg) : Okd P w K mg base (L2.CX P w) 14 (He.ga K "reach") ["history", "x", "y"] (sp_reach K) := by
  obtain ⟨fd, F⟩ := T.f_reach
  have nd := (sc_reach).nd
  refine ⟨fd, F.ok sc_reach (fun vs H Q E h => len_reach h) (fun cdv A outer s H vs Q E hr h => ⟨t_reach K E, ?_, rd_reach T.toKx h⟩), F.bindsN (ps := ["history", "x", "y"]) fun _ _ _ _ _ _ us hl => match us, hl with | [_, _, _], _ => rfl, F.kp⟩
  have hu := hu_of hr
  exact (pss_cons (ps_expr (pe_callO (ok_need_event (P := P) (w := w) (base := base) T) hr rfl (T.g_need_event) pass0 (pa_cons (pv 0) (pa_cons (pv 1) pa_nil)))) (pss_cons (ps_expr (pe_callO (ok_need_event (P := P) (w := w) (base := base) T) hr rfl (T.g_need_event) pass0 (pa_cons (pv 0) (pa_cons (pv 2) pa_nil)))) (pss_one (ps_ret (pe_ix ix_tup (pe_callO (ok_reach_clever (P := P) (w := w) (base := base) T) hr rfl (T.g_reach_clever) (passes_call (takes_of rfl rfl rfl rfl) fun _ _ _ _ z => z) (pa_cons (pv 0) (pa_cons (pv 1) pa_nil))) (pv 2) (fun _ _ => rfl))))))
end
end K27
namespace K27
open PySem PySem.Spec PyProof.Rows L2 KM
section
variable {P : Program} {w : World} {K : PySem.W.Frag} {mg : PySem.Str → Option Value} {base : Heap}
theorem sc_law_let : FnScope N_law_let ["_law_look", "_law_history", "_law_thing"] (defScope s_law_let) := ⟨rfl, rfl, rfl, by decide +kernel, rfl, by decide +kernel, by decide +kernel⟩
theorem ok_law_letG (T : Tx K mg) {f : Addr} {ps : List PySem.Str} {sp LS : Sp} (O : Okd P w K mg base (L2.CX P w) 8 f ps LS) (hl : ∀ {vs H Q E}, sp vs H Q E → vs.length = 3)
    (rd : ∀ {vs H Q E}, sp vs H Q E → t_law_let K f LS { nx := fun _ H' => Q .non H', rt := Q } (start N_law_let vs) H) : Okd P w K mg base CX0 9 (He.ga K "_law_let") ["_law_look", "_law_history", "_law_thing"] sp := by
  obtain ⟨fd, F⟩ := T.f_law_let
  obtain ⟨fd2, F2, b2, k2⟩ := O.ex
  have nd := sc_law_let.nd
  refine ⟨fd, F.ok sc_law_let (fun vs H Q E h => hl h) (fun cdv A outer s H vs Q E hr h => ⟨t_law_let K f LS, PSs.nox ?_, rd h⟩), F.bindsN (ps := ["_law_look", "_law_history", "_law_thing"]) fun _ _ _ _ _ _ us hl => match us, hl with | [_, _, _], _ => rfl, F.kp⟩
  exact pss_cons (ps_set (i := 3) nd rfl (Or.inl rfl) pe_non) (pss_cons (ps_try_only (tb := fun W => tAsg (tCallLS 0 f LS (WE W) (tCons (tVar 1) (tCons (tVar 2) tNil))) (gName 3)) rfl rfl ⟨rfl, by decide, .inl T.g_NoPaper⟩ takes0
    (fun W pn xe tk _ => pss_one (ps_set (i := 3) nd rfl (Or.inl rfl) (pe_callLS F2 hr rfl (Or.inl rfl) k2 b2 (fun σ => passAt tk σ) (pa_cons (pv 1) (pa_cons (pv 2) pa_nil)))))
    (fun a oe cls d pn _ _ => pss_one (ps_set (i := 3) nd rfl (Or.inl rfl) pe_non))) (pss_one (ps_ret (pv 3))))
theorem sc_law_barring : FnScope N_law_barring ["_law_history"] (defScope s_law_barring) := ⟨rfl, rfl, rfl, by decide +kernel, rfl, by decide +kernel, by decide +kernel⟩
theorem ok_law_barringG (T : Tx K mg) (hl : ∀ {vs H Q E}, sp_law_barring K vs H Q E → vs.length = 1) (rd : ∀ {vs H Q E}, sp_law_barring K vs H Q E → t_law_barring K { nx := fun _ H' => Q .non H', rt := Q } (start N_law_barring vs) H) :
    Okd P w K mg base CX0 15 (He.ga K "_law_barring") ["_law_history"] (sp_law_barring K) := by
  obtain ⟨fd, F⟩ := T.f_law_barring
  have nd := sc_law_barring.nd
  refine ⟨fd, F.ok sc_law_barring (fun vs H Q E h => hl h) (fun cdv A outer s H vs Q E hr h => ⟨t_law_barring K, PSs.nox ?_, rd h⟩), F.bindsN (ps := ["_law_history"]) fun _ _ _ _ _ _ us hl => match us, hl with | [_], _ => rfl, F.kp⟩
  exact pss_cons (ps_set (i := 1) nd rfl (Or.inl rfl) pe_non) (pss_cons (ps_try_as (i := 2) (tb := fun W => tDrop (tCallS (sp_reach K) (WE W) (tCons (tVar 0) (tCons (tC (.int 0)) (tCons (tOp oSub (tCB (bLen K) (tCons (tOp (rIxT K) (tVar 0) (tC (.int 1))) tNil)) (tC (.int 1))) tNil))))) rfl rfl nd rfl rfl ⟨rfl, by decide, .inl T.g_NoWorld⟩ takes0
    (fun W pn xe tk _ => pss_one (ps_expr (pe_callOS (ok_reach (P := P) (w := w) (base := base) T) hr rfl T.g_reach (fun σ => passAt tk σ) (pa_cons (pv 0) (pa_cons pe_int (pa_cons (pe_op op_sub (pe_callB call_len_seq (by rfl) T.b_len (by decide +kernel) (pa_cons (pe_ix ix_tup (pv 0) pe_int (fun _ _ => rfl)) pa_nil)) pe_int) pa_nil))))))
    (fun a oe cls d pn hz hf => pss_one (ps_set (i := 1) nd rfl (Or.inl rfl) (pe_xf T.fW T.wR hz hf (pv 2))))) (pss_one (ps_ret (pv 1))))
end
end K27
namespace K27
open PySem PySem.Spec PyProof.Rows L2 KM
section
variable {P : Program} {w : World} {K : PySem.W.Frag} {mg : PySem.Str → Option Value} {base : Heap}
theorem ok_law_letR (T : Tx K mg) : Okd P w K mg base CX0 9 (He.ga K "_law_let") ["_law_look", "_law_history", "_law_thing"] (sp_law_letR K) := ok_law_letG T (ok_lets_ring (P := P) (w := w) (base := base) T) (fun h => len_law_letR h) (fun h => rd_law_letR T.toKx h)
theorem ok_law_letW (T : Tx K mg) : Okd P w K mg base CX0 9 (He.ga K "_law_let") ["_law_look", "_law_history", "_law_thing"] (sp_law_letW K) := ok_law_letG T (ok_lets_world (P := P) (w := w) (base := base) T) (fun h => len_law_letW h) (fun h => rd_law_letW T.toKx h)
theorem ok_law_barring (T : Tx K mg) : Okd P w K mg base CX0 15 (He.ga K "_law_barring") ["_law_history"] (sp_law_barring K) := ok_law_barringG T (fun h => len_law_barring h) (fun h => rd_law_barring T.toKx h)
theorem sc_law_right : FnScope N_law_right ["_law_history", "_law_clocked"] (defScope s_law_right) := ⟨rfl, rfl, rfl, by decide +kernel, rfl, by decide +kernel, by decide +kernel⟩
theorem ok_law_right (T : Tx K mg) : Okd P w K mg base CX0 16 (He.ga K "_law_right") ["_law_history", "_law_clocked"] (sp_law_right K) := by
  obtain ⟨fd, F⟩ := T.f_law_right
  have nd := (sc_law_right).nd
  refine ⟨fd, F.ok sc_law_right (fun vs H Q E h => len_law_right h) (fun cdv A outer s H vs Q E hr h => ⟨t_law_right K, PSs.nox ?_, rd_law_right T.toKx h⟩), F.bindsN (ps := ["_law_history", "_law_clocked"]) fun _ _ _ _ _ _ us hl => match us, hl with | [_, _], _ => rfl, F.kp⟩
  have hu := hu_of hr
  exact (pss_cons (ps_asg (pe_callO (ok_world_or_ring (P := P) (w := w) (base := base) T) hr rfl (T.g_world_or_ring) pass0 (pa_cons (pv 0) pa_nil)) (pg_tup rfl (pgs_cons (pg_name (i := 2) nd rfl (Or.inl rfl)) (pgs_cons (pg_name (i := 3) nd rfl (Or.inl rfl)) pgs_nil)))) (pss_cons (ps_par rfl nd rfl rfl (by decide) rfl rfl (pa_cons (pe_callO (ok_ring_of (P := P) (w := w) (base := base) T) hr rfl (T.g_ring_of) pass0 (pa_cons (pv 0) pa_nil)) (pa_cons (pe_callO (ok_law_barring (P := P) (w := w) (base := base) T) hr rfl (T.g__law_barring) pass0 (pa_cons (pv 0) pa_nil)) pa_nil)) (by rfl)) (pss_cons (ps_if (pt_cmpR op_eq (pv 2) pe_str (nomark _)) (pss_cons (ps_set (i := 6) nd rfl (Or.inl rfl) (pe_callTy call_tuple_of (by rfl) (T.b_tuple) (by decide +kernel) (pa_cons (pe_lc (own := [("_law_time", 8)]) rfl nd (pi_tup (pv 3)) (blkOk_by (own := [("_law_time", 8)]) (N := N_law_right) (sc := defScope s_law_right) (by decide +kernel)) (fun _ _ _ _ _ => (pg_name (i := 8) nd rfl (Or.inl rfl))) (fun _ _ _ _ _ => pts_nil) (fun _ _ _ _ _ => (pe_callO (ok_law_frac (P := P) (w := w) (base := base) T) hr rfl (T.g__law_frac) pass0 (pa_cons (pe_op op_add (pe_op op_mul (pe_ix ix_tup (pv 8) pe_int (fun _ _ => rfl)) pe_int) (pe_op op_mul pe_int (pe_ix ix_tup (pv 8) pe_int (fun _ _ => rfl)))) (pa_cons (pe_op op_mul pe_int (pe_ix ix_tup (pv 8) pe_int (fun _ _ => rfl))) pa_nil))))) pa_nil))) (pss_cons (ps_if (PW.pt (pw_or (pt_cmpR op_notN (pv 4) pe_non (nomark _)) (pw_or (pt_cmpR op_notN (pv 5) pe_non (nomark _)) (pw_or1 (pt_cmpR op_notN (pe_callO (ok_law_letR (P := P) (w := w) (base := base) T) hr rfl (T.g__law_let) pass0 (pa_cons (pe_glob rfl (T.g_lets_ring) rfl) (pa_cons (pv 0) (pa_cons (pe_tup (pa_cons pe_int (pa_cons pe_int pa_nil))) pa_nil)))) pe_non (nomark _)))))) (pss_one (ps_ret pe_bl)) pss_nil) (pss_one (ps_ret (pe_cmpR (op_eqD hr.units) (pe_lc (own := [("_law_one", 7)]) rfl nd (pi_tup (pe_tup (pa_cons (pv 3) (pa_cons (pv 6) pa_nil)))) (blkOk_by (own := [("_law_one", 7)]) (N := N_law_right) (sc := defScope s_law_right) (by decide +kernel)) (fun _ _ _ _ _ => (pg_name (i := 7) nd rfl (Or.inl rfl))) (fun _ _ _ _ _ => pts_nil) (fun _ _ _ _ _ => (pe_callO (ok_law_letW (P := P) (w := w) (base := base) T) hr rfl (T.g__law_let) pass0 (pa_cons (pe_glob rfl (T.g_lets_world) rfl) (pa_cons (pv 0) (pa_cons (pv 7) pa_nil)))))) (pe_op op_rep (pe_lst (pa_cons (pe_callB call_len_seq (by rfl) (T.b_len) (by decide +kernel) (pa_cons (pv 3) pa_nil)) pa_nil)) pe_int) (nomark _)))))) pss_nil) (pss_cons (ps_if (PW.pt (pw_or (pt_cmpR op_ne (pv 2) pe_str (nomark _)) (pw_or1 (pt_cmpR op_notN (pe_callO (ok_law_letW (P := P) (w := w) (base := base) T) hr rfl (T.g__law_let) pass0 (pa_cons (pe_glob rfl (T.g_lets_world) rfl) (pa_cons (pv 0) (pa_cons (pv 1) pa_nil)))) pe_non (nomark _))))) (pss_one (ps_ret pe_bl)) pss_nil) (pss_one (ps_ret (pe_cmpR (op_notInD (u65 hr)) pe_non (pe_lc (own := [("_law_one", 7)]) rfl nd (pi_tup (pe_tup (pa_cons (pv 3) (pa_cons (pv 4) (pa_cons (pv 5) pa_nil))))) (blkOk_by (own := [("_law_one", 7)]) (N := N_law_right) (sc := defScope s_law_right) (by decide +kernel)) (fun _ _ _ _ _ => (pg_name (i := 7) nd rfl (Or.inl rfl))) (fun _ _ _ _ _ => (pts_one (pt_cmpR op_notN (pv 7) pe_non (nomark _)))) (fun _ _ _ _ _ => (pe_callO (ok_law_letR (P := P) (w := w) (base := base) T) hr rfl (T.g__law_let) pass0 (pa_cons (pe_glob rfl (T.g_lets_ring) rfl) (pa_cons (pv 0) (pa_cons (pv 7) pa_nil)))))) (by rfl))))))))
theorem sc_law : FnScope N_law ["_law_script"] (defScope s_law) := ⟨rfl, rfl, rfl, by decide +kernel, rfl, by decide +kernel, by decide +kernel⟩
theorem ok_lawF (T : Tx K mg) {fd : FuncData} (F : FunD K "law" "law" (defArgs s_law) (defBody s_law) (defScope s_law) [] [] (He.ga K "law") fd) : FnOk P w K mg base CX0 17 (He.ga K "law") fd ["_law_script"] (sp_law K) := by
  have nd := (sc_law).nd
  refine F.ok sc_law (fun vs H Q E h => len_law h) (fun cdv A outer s H vs Q E hr h => ⟨t_law K, PSs.nox ?_, rd_law T.toKx h⟩)
  have hu := hu_of hr
  exact (pss_cons (ps_set (i := 1) nd rfl (Or.inl rfl) (pe_callO (ok_law_feed (P := P) (w := w) (base := base) T) hr rfl (T.g__law_feed) pass0 (pa_cons (pv 0) pa_nil))) (pss_cons (ps_for PassesOwn.never rfl (pi_range1 rfl (T.b_range) (pa_cons pe_int pa_nil)) (pg_name (i := 2) nd rfl (Or.inl rfl)) (pss_cons (ps_asg (pe_callO (ok_law_drawn (P := P) (w := w) (base := base) T) hr rfl (T.g__law_drawn) pass0 (pa_cons (pv 1) (pa_cons pe_int (pa_cons (pe_op op_add pe_int (pe_callO (ok_law_draw (P := P) (w := w) (base := base) T) hr rfl (T.g__law_draw) pass0 (pa_cons (pv 1) (pa_cons pe_int pa_nil)))) pa_nil)))) (pg_tup rfl (pgs_cons (pg_name (i := 3) nd rfl (Or.inl rfl)) (pgs_cons (pg_name (i := 4) nd rfl (Or.inl rfl)) pgs_nil)))) (pss_cons (ps_if (PW.pt (pw_or (pt_cmpR op_ne (pe_ix ix_tup (pe_callO (ok_world_or_ring (P := P) (w := w) (base := base) T) hr rfl (T.g_world_or_ring) pass0 (pa_cons (pv 3) pa_nil)) pe_int (fun _ _ => rfl)) pe_str (nomark _)) (pw_or1 (pt_cmpR op_ne (pe_callO (ok_law_letW (P := P) (w := w) (base := base) T) hr rfl (T.g__law_let) pass0 (pa_cons (pe_glob rfl (T.g_lets_world) rfl) (pa_cons (pv 3) (pa_cons (pv 4) pa_nil)))) (pe_callB call_len_seq (by rfl) (T.b_len) (by decide +kernel) (pa_cons (pv 4) pa_nil)) (nomark _))))) (pss_one (ps_ret pe_bl)) pss_nil) (pss_cons (ps_set (i := 5) nd rfl (Or.inl rfl) (pv 3)) (pss_one (ps_for PassesOwn.never rfl (pi_range1 rfl (T.b_range) (pa_cons pe_int pa_nil)) (pg_name (i := 6) nd rfl (Or.inl rfl)) (pss_cons (ps_set (i := 5) nd rfl (Or.inl rfl) (pe_callO (ok_law_barred (P := P) (w := w) (base := base) T) hr rfl (T.g__law_barred) pass0 (pa_cons (pv 1) (pa_cons (pv 5) pa_nil)))) (pss_cons (ps_if (pt_not (pt_val (pe_callO (ok_law_right (P := P) (w := w) (base := base) T) hr rfl (T.g__law_right) pass0 (pa_cons (pv 5) (pa_cons (pv 4) pa_nil))))) (pss_one (ps_ret pe_bl)) pss_nil) (pss_one (ps_if (PW.pt (pw_and (pt_cmpR op_eq (pe_ix ix_tup (pe_callO (ok_world_or_ring (P := P) (w := w) (base := base) T) hr rfl (T.g_world_or_ring) pass0 (pa_cons (pv 5) pa_nil)) pe_int (fun _ _ => rfl)) pe_str (nomark _)) (pw_and1 (PW.pt (pw_or (pt_cmpR op_isN (pe_callO (ok_ring_of (P := P) (w := w) (base := base) T) hr rfl (T.g_ring_of) pass0 (pa_cons (pv 5) pa_nil)) pe_non (nomark _)) (pw_or1 (pt_cmpR op_isN (pe_callO (ok_law_barring (P := P) (w := w) (base := base) T) hr rfl (T.g__law_barring) pass0 (pa_cons (pv 5) pa_nil)) pe_non (nomark _)))))))) (pss_one (ps_ret pe_bl)) pss_nil)))))))))) (pss_one (ps_ret pe_bl))))
end
end K27
set_option maxHeartbeats 0
namespace K27
open PySem PySem.Spec PyProof.Rows L2
def d_NoPaper_init : He.DefD := ⟨("NoPaper", some "__init__"), "__init__", "NoPaper.__init__", defArgs s_NoPaper_init, defBody s_NoPaper_init, defScope s_NoPaper_init, [], []⟩
def d_NoWorld_init : He.DefD := ⟨("NoWorld", some "__init__"), "__init__", "NoWorld.__init__", defArgs s_NoWorld_init, defBody s_NoWorld_init, defScope s_NoWorld_init, [], []⟩
def d_is_number : He.DefD := ⟨("is_number", none), "is_number", "is_number", defArgs s_is_number, defBody s_is_number, defScope s_is_number, [], []⟩
def d_common_divisor : He.DefD := ⟨("common_divisor", none), "common_divisor", "common_divisor", defArgs s_common_divisor, defBody s_common_divisor, defScope s_common_divisor, [], []⟩
def d_is_fraction : He.DefD := ⟨("is_fraction", none), "is_fraction", "is_fraction", defArgs s_is_fraction, defBody s_is_fraction, defScope s_is_fraction, [], []⟩
def d_ratio : He.DefD := ⟨("ratio", none), "ratio", "ratio", defArgs s_ratio, defBody s_ratio, defScope s_ratio, [], []⟩
def d_added : He.DefD := ⟨("added", none), "added", "added", defArgs s_added, defBody s_added, defScope s_added, [], []⟩
def d_less : He.DefD := ⟨("less", none), "less", "less", defArgs s_less, defBody s_less, defScope s_less, [], []⟩
def d_parted : He.DefD := ⟨("parted", none), "parted", "parted", defArgs s_parted, defBody s_parted, defScope s_parted, [], []⟩
def d_is_below : He.DefD := ⟨("is_below", none), "is_below", "is_below", defArgs s_is_below, defBody s_is_below, defScope s_is_below, [], []⟩
def d_rates_of : He.DefD := ⟨("rates_of", none), "rates_of", "rates_of", defArgs s_rates_of, defBody s_rates_of, defScope s_rates_of, [], []⟩
def d_last_ahead : He.DefD := ⟨("last_ahead", none), "last_ahead", "last_ahead", defArgs s_last_ahead, defBody s_last_ahead, defScope s_last_ahead, [], []⟩
def d_link_heard : He.DefD := ⟨("link_heard", none), "link_heard", "link_heard", defArgs s_link_heard, defBody s_link_heard, defScope s_link_heard, [], []⟩
def d_while_between : He.DefD := ⟨("while_between", none), "while_between", "while_between", defArgs s_while_between, defBody s_while_between, defScope s_while_between, [], []⟩
def d_steps_to : He.DefD := ⟨("steps_to", none), "steps_to", "steps_to", defArgs s_steps_to, defBody s_steps_to, defScope s_steps_to, [], []⟩
def d_steps_list : He.DefD := ⟨("steps_list", none), "steps_list", "steps_list", defArgs s_steps_list, defBody s_steps_list, defScope s_steps_list, [], []⟩
def d_history_steps : He.DefD := ⟨("history_steps", none), "history_steps", "history_steps", defArgs s_history_steps, defBody s_history_steps, defScope s_history_steps, [], []⟩
def d_need_event : He.DefD := ⟨("need_event", none), "need_event", "need_event", defArgs s_need_event, defBody s_need_event, defScope s_need_event, [], []⟩
def d_Relaxing_init : He.DefD := ⟨("Relaxing", some "__init__"), "__init__", "Relaxing.__init__", defArgs s_Relaxing_init, defBody s_Relaxing_init, defScope s_Relaxing_init, [], []⟩
def d_Relaxing_go_round : He.DefD := ⟨("Relaxing", some "go_round"), "go_round", "Relaxing.go_round", defArgs s_Relaxing_go_round, defBody s_Relaxing_go_round, defScope s_Relaxing_go_round, [], []⟩
def d_Relaxing_ring_back : He.DefD := ⟨("Relaxing", some "ring_back"), "ring_back", "Relaxing.ring_back", defArgs s_Relaxing_ring_back, defBody s_Relaxing_ring_back, defScope s_Relaxing_ring_back, [], []⟩
def d_relaxed : He.DefD := ⟨("relaxed", none), "relaxed", "relaxed", defArgs s_relaxed, defBody s_relaxed, defScope s_relaxed, [], []⟩
def d_ring_of : He.DefD := ⟨("ring_of", none), "ring_of", "ring_of", defArgs s_ring_of, defBody s_ring_of, defScope s_ring_of, [], []⟩
def d_world_or_ring : He.DefD := ⟨("world_or_ring", none), "world_or_ring", "world_or_ring", defArgs s_world_or_ring, defBody s_world_or_ring, defScope s_world_or_ring, [], []⟩
def d_need_world : He.DefD := ⟨("need_world", none), "need_world", "need_world", defArgs s_need_world, defBody s_need_world, defScope s_need_world, [], []⟩
def d_as_row : He.DefD := ⟨("as_row", none), "as_row", "as_row", defArgs s_as_row, defBody s_as_row, defScope s_as_row, [], []⟩
def d_steps_from : He.DefD := ⟨("steps_from", none), "steps_from", "steps_from", defArgs s_steps_from, defBody s_steps_from, defScope s_steps_from, [], []⟩
def d_going_on : He.DefD := ⟨("going_on", none), "going_on", "going_on", defArgs s_going_on, defBody s_going_on, defScope s_going_on, [], []⟩
def d_reach_clever : He.DefD := ⟨("reach_clever", none), "reach_clever", "reach_clever", defArgs s_reach_clever, defBody s_reach_clever, defScope s_reach_clever, [], []⟩
def d_reach : He.DefD := ⟨("reach", none), "reach", "reach", defArgs s_reach, defBody s_reach, defScope s_reach, [], []⟩
def d_needA : He.DefD := ⟨("need_waychecker", none), "need", "need", defArgs s_needA, defBody s_needA, defScope s_needA, [], []⟩
def d_are_numbers : He.DefD := ⟨("are_numbers", none), "are_numbers", "are_numbers", defArgs s_are_numbers, defBody s_are_numbers, defScope s_are_numbers, [], []⟩
def d_steps_total : He.DefD := ⟨("steps_total", none), "steps_total", "steps_total", defArgs s_steps_total, defBody s_steps_total, defScope s_steps_total, [], []⟩
def d_lets_ring : He.DefD := ⟨("lets_ring", none), "lets_ring", "lets_ring", defArgs s_lets_ring, defBody s_lets_ring, defScope s_lets_ring, [], []⟩
def d_are_times : He.DefD := ⟨("are_times", none), "are_times", "are_times", defArgs s_are_times, defBody s_are_times, defScope s_are_times, [], []⟩
def d_world_bars : He.DefD := ⟨("world_bars", none), "world_bars", "world_bars", defArgs s_world_bars, defBody s_world_bars, defScope s_world_bars, [], []⟩
def d_needB : He.DefD := ⟨("need_worldchecker", none), "need", "need", defArgs s_needB, defBody s_needB, defScope s_needB, [], []⟩
def d_lets_world : He.DefD := ⟨("lets_world", none), "lets_world", "lets_world", defArgs s_lets_world, defBody s_lets_world, defScope s_lets_world, [], []⟩
def d_law_feed : He.DefD := ⟨("_law_feed", none), "_law_feed", "_law_feed", defArgs s_law_feed, defBody s_law_feed, defScope s_law_feed, [], []⟩
def d_law_draw : He.DefD := ⟨("_law_draw", none), "_law_draw", "_law_draw", defArgs s_law_draw, defBody s_law_draw, defScope s_law_draw, [], []⟩
def d_law_frac : He.DefD := ⟨("_law_frac", none), "_law_frac", "_law_frac", defArgs s_law_frac, defBody s_law_frac, defScope s_law_frac, [], []⟩
def d_law_field : He.DefD := ⟨("_law_field", none), "_law_field", "_law_field", defArgs s_law_field, defBody s_law_field, defScope s_law_field, [], []⟩
def d_law_rates : He.DefD := ⟨("_law_rates", none), "_law_rates", "_law_rates", defArgs s_law_rates, defBody s_law_rates, defScope s_law_rates, [], []⟩
def d_law_open : He.DefD := ⟨("_law_open", none), "_law_open", "_law_open", defArgs s_law_open, defBody s_law_open, defScope s_law_open, [], []⟩
def d_law_drawn : He.DefD := ⟨("_law_drawn", none), "_law_drawn", "_law_drawn", defArgs s_law_drawn, defBody s_law_drawn, defScope s_law_drawn, [], []⟩
def d_law_barred : He.DefD := ⟨("_law_barred", none), "_law_barred", "_law_barred", defArgs s_law_barred, defBody s_law_barred, defScope s_law_barred, [], []⟩
def d_law_let : He.DefD := ⟨("_law_let", none), "_law_let", "_law_let", defArgs s_law_let, defBody s_law_let, defScope s_law_let, [], []⟩
def d_law_barring : He.DefD := ⟨("_law_barring", none), "_law_barring", "_law_barring", defArgs s_law_barring, defBody s_law_barring, defScope s_law_barring, [], []⟩
def d_law_right : He.DefD := ⟨("_law_right", none), "_law_right", "_law_right", defArgs s_law_right, defBody s_law_right, defScope s_law_right, [], []⟩
def d_law : He.DefD := ⟨("law", none), "law", "law", defArgs s_law, defBody s_law, defScope s_law, [], []⟩
def fn : List He.DefD := [d_NoPaper_init, d_NoWorld_init, d_is_number, d_common_divisor, d_is_fraction, d_ratio, d_added, d_less, d_parted, d_is_below, d_rates_of, d_last_ahead, d_link_heard, d_while_between, d_steps_to, d_steps_list, d_history_steps, d_need_event, d_Relaxing_init, d_Relaxing_go_round, d_Relaxing_ring_back, d_relaxed, d_ring_of, d_world_or_ring, d_need_world, d_as_row, d_steps_from, d_going_on, d_reach_clever, d_reach, d_needA, d_are_numbers, d_steps_total, d_lets_ring, d_are_times, d_world_bars, d_needB, d_lets_world, d_law_feed, d_law_draw, d_law_frac, d_law_field, d_law_rates, d_law_open, d_law_drawn, d_law_barred, d_law_let, d_law_barring, d_law_right, d_law]
def fa : List He.Fa := [.glo "is_number", .glo "common_divisor", .glo "is_fraction", .glo "ratio", .glo "added", .glo "less", .glo "parted", .glo "is_below", .glo "rates_of", .glo "last_ahead", .glo "link_heard", .glo "while_between", .glo "steps_to", .glo "steps_list", .glo "history_steps", .glo "need_event", .glo "relaxed", .glo "ring_of", .glo "world_or_ring", .glo "need_world", .glo "as_row", .glo "steps_from", .glo "going_on", .glo "reach_clever", .glo "reach", .glo "need_waychecker", .glo "are_numbers", .glo "steps_total", .glo "lets_ring", .glo "are_times", .glo "world_bars", .glo "need_worldchecker", .glo "lets_world", .glo "_law_feed", .glo "_law_draw", .glo "_law_frac", .glo "_law_field", .glo "_law_rates", .glo "_law_open", .glo "_law_drawn", .glo "_law_barred", .glo "_law_let", .glo "_law_barring", .glo "_law_right", .glo "law", .glo "ClockError", .glo "NoPaper", .glo "NoWorld", .glo "Relaxing", .glo "NOUGHT", .free "isinstance", .free "int", .free "bool", .free "tuple", .free "len", .free "all", .free "abs", .free "range", .free "enumerate", .free "list", .free "sorted", .free "max", .cls "Relaxing", .mkr "Relaxing", .meth "Relaxing" "go_round", .meth "Relaxing" "ring_back", .noat "Relaxing" "all_steps", .noat "Relaxing" "sums", .noat "Relaxing" "came_by", .noat "Relaxing" "last", .noat "NoPaper" "word", .noat "NoPaper" "at", .noat "NoWorld" "ring", .exm "NoPaper" "NoPaper" true, .exm "NoWorld" "NoWorld" true]
def loose1 : List PySem.Str := ["ClockError", "LackError", "NoPaper", "NoWorld", "NoNumber", "is_number", "common_divisor", "is_fraction", "ratio", "added", "less", "parted", "is_below", "NOUGHT", "rates_of", "last_ahead", "link_heard", "while_between", "steps_to", "steps_list", "history_steps", "need_event", "Relaxing", "relaxed", "ring_of", "world_or_ring", "need_world", "as_row", "steps_from", "going_on"]
def loose2 : List PySem.Str := ["reach_clever", "reach", "need", "need_waychecker", "are_numbers", "steps_total", "lets_ring", "are_times", "world_bars", "need_worldchecker", "lets_world", "_law_feed", "_law_draw", "_law_frac", "_law_field", "_law_rates", "_law_open", "_law_drawn", "_law_barred", "_law_let", "_law_barring", "_law_right"]
def loose : List PySem.Str := loose1 ++ loose2
/-- an own error class whose root is ValueError -/
def oexB (K : PySem.W.Frag) (C : Addr) : Bool := (match K.lookup C with
  | some ⟨.type "type", _, .cls cd, sl⟩ => (match cd.mro, sl.toList with
    | .ref C' :: bm, [_, _, _, _, some (.builtin n), _] => (C' == C && n == "ValueError.__new__") && ((!cd.hasDel && cd.hasDict) && PySem.HandSPX.refsVE bm)
    | _, _ => false)
  | _ => false) && ((decide (PySem.W.findIn K (.ref C) "__setattr__" = some (some (.builtin "object.__setattr__"))) && decide (PySem.W.subIn K (.ref C) (.type "BaseException") = some true)) && (decide (PySem.W.typeIn K (.ref C) = some (.type "type")) && PySem.W.keepIn K (.ref C)))
theorem oexB_ok {K : PySem.W.Frag} {C : Addr} (q : oexB K C = true) : OexC K C := by
  obtain ⟨q1, q⟩ := He.ba q
  obtain ⟨q2, q3⟩ := He.ba q
  obtain ⟨s1, s2⟩ := He.ba q2
  obtain ⟨s3, s4⟩ := He.ba q3
  refine ⟨?_, of_decide_eq_true s1, of_decide_eq_true s2, of_decide_eq_true s3, s4⟩
  split at q1
  · rename_i dd cd sl ho
    split at q1
    · rename_i C' bm k0 k1 k2 k3 n k5 hm hs
      obtain ⟨u1, u2⟩ := He.ba q1
      obtain ⟨u3, u4⟩ := He.ba u1
      obtain ⟨u5, u6⟩ := He.ba u2
      obtain ⟨u7, u8⟩ := He.ba u5
      have e1 : C' = C := beq_iff_eq.mp u3
      have e2 : n = "ValueError.__new__" := beq_iff_eq.mp u4
      have e3 : cd.hasDel = false := Bool.not_eq_true' _ |>.mp u7
      subst e1 e2
      obtain ⟨nm, bs, mro, ns, qn, hd, sn, sub, ab, col, del⟩ := cd
      dsimp only at hm e3 u8
      subst hm e3 u8
      have hsl : sl = #[k0, k1, k2, k3, some (.builtin "ValueError.__new__"), k5] := by
        obtain ⟨l⟩ := sl
        exact congrArg Array.mk hs
      subst hsl
      exact ⟨nm, qn, ns, bs, bm, sn, sub, ab, col, dd, k0, k1, k2, k3, k5, ho, u6⟩
    · cases q1
  · cases q1
def ownB (K : PySem.W.Frag) (C : Addr) : Bool := He.eqO (PySem.W.specialIn K (.ref C) "__getattribute__") (some (some (.builtin "type.__getattribute__"))) && (PySem.W.readsIn K C (.type "type") && (match PySem.W.findCls K (.ref C) (.type "type") "__init__" with
  | some (.val (.builtin n)) => n == "ValueError.__init__"
  | _ => false))
theorem ownB_ok {K : PySem.W.Frag} {C : Addr} (q : ownB K C = true) : OwnInit K C := by
  obtain ⟨q1, q⟩ := He.ba q
  obtain ⟨q2, q3⟩ := He.ba q
  refine ⟨He.eqO_ok q1, q2, ?_⟩
  split at q3
  · rename_i n e
    have en : n = "ValueError.__init__" := beq_iff_eq.mp q3
    rw [e, en]
  · cases q3
def iniB (K : PySem.W.Frag) (C : Addr) : Bool := He.eqO (PySem.W.findIn K (.ref C) "__init__") (some (some (.ref (He.ma K C "__init__")))) && decide (PySem.W.typeIn K (.ref (He.ma K C "__init__")) = some (.type "function"))
def exB (K : PySem.W.Frag) : Bool := (oexB K (He.ga K "NoPaper") && oexB K (He.ga K "NoWorld")) && ((xfB K (He.ga K "NoWorld") && ownB K (He.ga K "ClockError")) && ((iniB K (He.ga K "NoPaper") && iniB K (He.ga K "NoWorld")) && He.tupB K "NOUGHT" [.int 0, .int 1]))
abbrev AlX : Type := Bool × He.AlD
def obsX (K : PySem.W.Frag) : AlX := (exB K, He.obsD fa fn K)
def valX : AlX := (true, He.valD fn)
/-- what the module's names reach in n steps, and the book of statics -/
def asX (g : Addr → Option Obj) : Nat → List Addr
  | 0 => [mainGlobals, cStatics]
  | n + 1 => He.growD g (asX g n)
def obsXG (g : Addr → Option Obj) : AlX := obsX (He.frG g (asX g 5))
def hk : PySem.W.Hook where
  α := AlX
  obs := fun s => obsXG s.heap.get?
  val := fun _ => valX
  says := fun _ h => ∃ K : PySem.W.Frag, K.In h ∧ obsX K = valX
  of := fun _ _ e => ⟨_, He.frG_in, e⟩
  keeps := fun _ _ _ ⟨K, hK, c⟩ kk => ⟨K, PySem.W.Frag.In.keeps hK kk, c⟩
abbrev R : PySem.W.OpenRow := PySem.W.OpenLaw.row PySem.Challenge.rw_ledclocks_k27_whole_world_or_ring
def ob (s : PySem.W.SharedT) : AlX := obsXG (HandSHeadRun.getT s)
theorem ob_eq (s : PySem.W.SharedT) : ob s = hk.obs s.abs := by
  have e : HandSHeadRun.getT s = s.abs.heap.get? := funext (HandSHeadRun.getT_eq s)
  unfold ob
  rw [e]
  rfl
theorem run (w : World) : HandSHeadRun.RunEq R (PySem.W.view R.prog [66]) hk ob 3000 loose w := by
  intro os
  kernel_rfl
end K27
namespace K27
open PySem PySem.Spec PyProof.Rows L2
theorem facts {K : PySem.W.Frag} {h : Heap} {mg : PySem.Str → Option Value} (X : K.In h) (G : h.Ns mainGlobals mg) (c : obsX K = valX) : Tx K mg := by
  have c1 : exB K = true := congrArg (fun z : AlX => z.1) c
  have c2 : He.SaysD fa fn K := congrArg (fun z : AlX => z.2) c
  obtain ⟨y1, y2⟩ := He.ba c1
  obtain ⟨o1, o2⟩ := He.ba y1
  obtain ⟨y3, y4⟩ := He.ba y2
  obtain ⟨b1, b2⟩ := He.ba y3
  obtain ⟨y5, tn⟩ := He.ba y4
  obtain ⟨p1, p2⟩ := He.ba y5
  exact {
    nought := fun H => He.tupB_ok tn H
    cl := He.cls_ok (c2.fact 62 (f := .cls "Relaxing") rfl)
    nA := He.noat_ok (c2.fact 66 (f := .noat "Relaxing" "all_steps") rfl)
    nS := He.noat_ok (c2.fact 67 (f := .noat "Relaxing" "sums") rfl)
    nC := He.noat_ok (c2.fact 68 (f := .noat "Relaxing" "came_by") rfl)
    nL := He.noat_ok (c2.fact 69 (f := .noat "Relaxing" "last") rfl)
    oP := oexB_ok o1
    oW := oexB_ok o2
    fW := xfB_ok b1
    pW := He.noat_ok (c2.fact 70 (f := .noat "NoPaper" "word") rfl)
    pA := He.noat_ok (c2.fact 71 (f := .noat "NoPaper" "at") rfl)
    wR := He.noat_ok (c2.fact 72 (f := .noat "NoWorld" "ring") rfl)
    eP := He.exm_ok (c2.fact 73 (f := .exm "NoPaper" "NoPaper" true) rfl)
    eW := He.exm_ok (c2.fact 74 (f := .exm "NoWorld" "NoWorld" true) rfl)
    f_NoPaper_init := c2.def_ 0 (d := d_NoPaper_init) rfl
    f_NoWorld_init := c2.def_ 1 (d := d_NoWorld_init) rfl
    f_is_number := c2.def_ 2 (d := d_is_number) rfl
    f_common_divisor := c2.def_ 3 (d := d_common_divisor) rfl
    f_is_fraction := c2.def_ 4 (d := d_is_fraction) rfl
    f_ratio := c2.def_ 5 (d := d_ratio) rfl
    f_added := c2.def_ 6 (d := d_added) rfl
    f_less := c2.def_ 7 (d := d_less) rfl
    f_parted := c2.def_ 8 (d := d_parted) rfl
    f_is_below := c2.def_ 9 (d := d_is_below) rfl
    f_rates_of := c2.def_ 10 (d := d_rates_of) rfl
    f_last_ahead := c2.def_ 11 (d := d_last_ahead) rfl
    f_link_heard := c2.def_ 12 (d := d_link_heard) rfl
    f_while_between := c2.def_ 13 (d := d_while_between) rfl
    f_steps_to := c2.def_ 14 (d := d_steps_to) rfl
    f_steps_list := c2.def_ 15 (d := d_steps_list) rfl
    f_history_steps := c2.def_ 16 (d := d_history_steps) rfl
    f_need_event := c2.def_ 17 (d := d_need_event) rfl
    f_Relaxing_init := c2.def_ 18 (d := d_Relaxing_init) rfl
    f_Relaxing_go_round := c2.def_ 19 (d := d_Relaxing_go_round) rfl
    f_Relaxing_ring_back := c2.def_ 20 (d := d_Relaxing_ring_back) rfl
    f_relaxed := c2.def_ 21 (d := d_relaxed) rfl
    f_ring_of := c2.def_ 22 (d := d_ring_of) rfl
    f_world_or_ring := c2.def_ 23 (d := d_world_or_ring) rfl
    f_need_world := c2.def_ 24 (d := d_need_world) rfl
    f_as_row := c2.def_ 25 (d := d_as_row) rfl
    f_steps_from := c2.def_ 26 (d := d_steps_from) rfl
    f_going_on := c2.def_ 27 (d := d_going_on) rfl
    f_reach_clever := c2.def_ 28 (d := d_reach_clever) rfl
    f_reach := c2.def_ 29 (d := d_reach) rfl
    f_needA := c2.def_ 30 (d := d_needA) rfl
    f_are_numbers := c2.def_ 31 (d := d_are_numbers) rfl
    f_steps_total := c2.def_ 32 (d := d_steps_total) rfl
    f_lets_ring := c2.def_ 33 (d := d_lets_ring) rfl
    f_are_times := c2.def_ 34 (d := d_are_times) rfl
    f_world_bars := c2.def_ 35 (d := d_world_bars) rfl
    f_needB := c2.def_ 36 (d := d_needB) rfl
    f_lets_world := c2.def_ 37 (d := d_lets_world) rfl
    f_law_feed := c2.def_ 38 (d := d_law_feed) rfl
    f_law_draw := c2.def_ 39 (d := d_law_draw) rfl
    f_law_frac := c2.def_ 40 (d := d_law_frac) rfl
    f_law_field := c2.def_ 41 (d := d_law_field) rfl
    f_law_rates := c2.def_ 42 (d := d_law_rates) rfl
    f_law_open := c2.def_ 43 (d := d_law_open) rfl
    f_law_drawn := c2.def_ 44 (d := d_law_drawn) rfl
    f_law_barred := c2.def_ 45 (d := d_law_barred) rfl
    f_law_let := c2.def_ 46 (d := d_law_let) rfl
    f_law_barring := c2.def_ 47 (d := d_law_barring) rfl
    f_law_right := c2.def_ 48 (d := d_law_right) rfl
    f_law := c2.def_ 49 (d := d_law) rfl
    g_is_number := He.glo_ok X G (c2.fact 0 (f := .glo "is_number") rfl)
    g_common_divisor := He.glo_ok X G (c2.fact 1 (f := .glo "common_divisor") rfl)
    g_is_fraction := He.glo_ok X G (c2.fact 2 (f := .glo "is_fraction") rfl)
    g_ratio := He.glo_ok X G (c2.fact 3 (f := .glo "ratio") rfl)
    g_added := He.glo_ok X G (c2.fact 4 (f := .glo "added") rfl)
    g_less := He.glo_ok X G (c2.fact 5 (f := .glo "less") rfl)
    g_parted := He.glo_ok X G (c2.fact 6 (f := .glo "parted") rfl)
    g_is_below := He.glo_ok X G (c2.fact 7 (f := .glo "is_below") rfl)
    g_rates_of := He.glo_ok X G (c2.fact 8 (f := .glo "rates_of") rfl)
    g_last_ahead := He.glo_ok X G (c2.fact 9 (f := .glo "last_ahead") rfl)
    g_link_heard := He.glo_ok X G (c2.fact 10 (f := .glo "link_heard") rfl)
    g_while_between := He.glo_ok X G (c2.fact 11 (f := .glo "while_between") rfl)
    g_steps_to := He.glo_ok X G (c2.fact 12 (f := .glo "steps_to") rfl)
    g_steps_list := He.glo_ok X G (c2.fact 13 (f := .glo "steps_list") rfl)
    g_history_steps := He.glo_ok X G (c2.fact 14 (f := .glo "history_steps") rfl)
    g_need_event := He.glo_ok X G (c2.fact 15 (f := .glo "need_event") rfl)
    g_relaxed := He.glo_ok X G (c2.fact 16 (f := .glo "relaxed") rfl)
    g_ring_of := He.glo_ok X G (c2.fact 17 (f := .glo "ring_of") rfl)
    g_world_or_ring := He.glo_ok X G (c2.fact 18 (f := .glo "world_or_ring") rfl)
    g_need_world := He.glo_ok X G (c2.fact 19 (f := .glo "need_world") rfl)
    g_as_row := He.glo_ok X G (c2.fact 20 (f := .glo "as_row") rfl)
    g_steps_from := He.glo_ok X G (c2.fact 21 (f := .glo "steps_from") rfl)
    g_going_on := He.glo_ok X G (c2.fact 22 (f := .glo "going_on") rfl)
    g_reach_clever := He.glo_ok X G (c2.fact 23 (f := .glo "reach_clever") rfl)
    g_reach := He.glo_ok X G (c2.fact 24 (f := .glo "reach") rfl)
    g_need_waychecker := He.glo_ok X G (c2.fact 25 (f := .glo "need_waychecker") rfl)
    g_are_numbers := He.glo_ok X G (c2.fact 26 (f := .glo "are_numbers") rfl)
    g_steps_total := He.glo_ok X G (c2.fact 27 (f := .glo "steps_total") rfl)
    g_lets_ring := He.glo_ok X G (c2.fact 28 (f := .glo "lets_ring") rfl)
    g_are_times := He.glo_ok X G (c2.fact 29 (f := .glo "are_times") rfl)
    g_world_bars := He.glo_ok X G (c2.fact 30 (f := .glo "world_bars") rfl)
    g_need_worldchecker := He.glo_ok X G (c2.fact 31 (f := .glo "need_worldchecker") rfl)
    g_lets_world := He.glo_ok X G (c2.fact 32 (f := .glo "lets_world") rfl)
    g__law_feed := He.glo_ok X G (c2.fact 33 (f := .glo "_law_feed") rfl)
    g__law_draw := He.glo_ok X G (c2.fact 34 (f := .glo "_law_draw") rfl)
    g__law_frac := He.glo_ok X G (c2.fact 35 (f := .glo "_law_frac") rfl)
    g__law_field := He.glo_ok X G (c2.fact 36 (f := .glo "_law_field") rfl)
    g__law_rates := He.glo_ok X G (c2.fact 37 (f := .glo "_law_rates") rfl)
    g__law_open := He.glo_ok X G (c2.fact 38 (f := .glo "_law_open") rfl)
    g__law_drawn := He.glo_ok X G (c2.fact 39 (f := .glo "_law_drawn") rfl)
    g__law_barred := He.glo_ok X G (c2.fact 40 (f := .glo "_law_barred") rfl)
    g__law_let := He.glo_ok X G (c2.fact 41 (f := .glo "_law_let") rfl)
    g__law_barring := He.glo_ok X G (c2.fact 42 (f := .glo "_law_barring") rfl)
    g__law_right := He.glo_ok X G (c2.fact 43 (f := .glo "_law_right") rfl)
    g_law := He.glo_ok X G (c2.fact 44 (f := .glo "law") rfl)
    g_ClockError := He.glo_ok X G (c2.fact 45 (f := .glo "ClockError") rfl)
    g_NoPaper := He.glo_ok X G (c2.fact 46 (f := .glo "NoPaper") rfl)
    g_NoWorld := He.glo_ok X G (c2.fact 47 (f := .glo "NoWorld") rfl)
    g_Relaxing := He.glo_ok X G (c2.fact 48 (f := .glo "Relaxing") rfl)
    g_NOUGHT := He.glo_ok X G (c2.fact 49 (f := .glo "NOUGHT") rfl)
    b_abs := He.free_ok X G (c2.fact 56 (f := .free "abs") rfl)
    b_all := He.free_ok X G (c2.fact 55 (f := .free "all") rfl)
    b_bool := He.free_ok X G (c2.fact 52 (f := .free "bool") rfl)
    b_enumerate := He.free_ok X G (c2.fact 58 (f := .free "enumerate") rfl)
    b_int := He.free_ok X G (c2.fact 51 (f := .free "int") rfl)
    b_isinstance := He.free_ok X G (c2.fact 50 (f := .free "isinstance") rfl)
    b_len := He.free_ok X G (c2.fact 54 (f := .free "len") rfl)
    b_list := He.free_ok X G (c2.fact 59 (f := .free "list") rfl)
    b_max := He.free_ok X G (c2.fact 61 (f := .free "max") rfl)
    b_range := He.free_ok X G (c2.fact 57 (f := .free "range") rfl)
    b_sorted := He.free_ok X G (c2.fact 60 (f := .free "sorted") rfl)
    b_tuple := He.free_ok X G (c2.fact 53 (f := .free "tuple") rfl)
    mkR := He.mkr_ok (c2.fact 63 (f := .mkr "Relaxing") rfl)
    m_go_round := He.meth_ok (c2.fact 64 (f := .meth "Relaxing" "go_round") rfl)
    m_ring_back := He.meth_ok (c2.fact 65 (f := .meth "Relaxing" "ring_back") rfl)
    i_NoPaper := He.eqO_ok (He.ba p1).1
    t_NoPaper := of_decide_eq_true (He.ba p1).2
    i_NoWorld := He.eqO_ok (He.ba p2).1
    t_NoWorld := of_decide_eq_true (He.ba p2).2
    own := ownB_ok b2
  }
theorem told {P : Program} {w : World} {K : PySem.W.Frag} {h : Heap} {mg : PySem.Str → Option Value} {f : Addr} (X : K.In h) (G : h.Ns mainGlobals mg) (hfa : mg ("law" : PySem.Str) = some (.ref f)) (c : obsX K = valX) :
    ∃ fd : FuncData, (∀ (s : Shared) (v : Value), BindsTo s fd ⟨[v], []⟩ [("_law_script", v)]) ∧ ∀ base : Heap, K.In base → base.Ns mainGlobals mg → FnOk P w K mg base CX0 17 f fd ["_law_script"] (sp_law K) := by
  have T := facts X G c
  obtain ⟨fd, F⟩ := T.f_law
  have e := hfa.symm.trans T.g_law
  cases e
  have b := FunD.bindsA (ps := ["_law_script"]) F fun _ _ _ _ _ _ us hl => match us, hl with | [_], _ => rfl
  exact ⟨fd, fun s v => b s [v] rfl, fun base _ _ => ok_lawF (P := P) (w := w) (base := base) T F⟩
end K27
open PySem PySem.W PySem.Calls PyProof.Rows
theorem PySem.Challenge.cw_ledclocks_k27_whole_world_or_ring_holds : PySem.Challenge.rw_ledclocks_k27_whole_world_or_ring.Holds := by
  w_on; o_law
  refine HandSHeadRun.head_any (r := K27.R) (q := view K27.R.prog [66]) (H := K27.hk) (ob := K27.ob) (M := 3000) (loose := K27.loose) (d := HandSHeadRun.topDef K27.R.prog 66) (kwd := []) K27.ob_eq (by kernel_rfl)
    (fun s => by kernel_rfl) K27.run (by kernel_rfl) (by kernel_rfl) (by kernel_rfl) (by rfl) (by first | assumption | decide +kernel) (by decide +kernel) ⟨rfl, rfl, rfl, rfl, rfl, by decide +kernel⟩ ?hw ?hc
  case hw => w_witness2
  case hc =>
    refine L2.walk_ofE (l := PySem.Challenge.rw_ledclocks_k27_whole_world_or_ring) (n := 63) (k := 17) (x := "_law_script") (CX := L2.CX0) rfl (by decide) (by kernel_rfl) ⟨rfl, by decide, by decide⟩ ?F (fun _ _ _ _ z => z)
    intro w mg fa h Y G hmg0
    obtain ⟨K, KX, c⟩ := Y
    have hmg : mg ("law" : PySem.Str) = some (.ref fa) := by
      have e : (HandSHeadRun.topDef K27.R.prog 66).name = ("law" : PySem.Str) := by kernel_rfl
      rw [← e]
      exact hmg0
    obtain ⟨fd, hb, hF⟩ := K27.told (P := (PySem.Challenge.rw_ledclocks_k27_whole_world_or_ring).prog) (w := w) KX G hmg c
    exact ⟨K, fd, K27.sp_law K, KX, hb, fun H a ns hl _ hS => ⟨a, ns, rfl, hS, hl, fun _ => rfl⟩, hF⟩
