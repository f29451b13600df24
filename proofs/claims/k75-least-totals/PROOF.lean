import PyProof.Rows.All
import Wide.All
import OpenK.AllK
import Wide.FinOn
import HandS.ForMost
import HandS.Deep
import HandS.Defaults
import HandS.Walk
import HandS.Style
import HandS.IsInst
import HandS.Wide
import HandS.Flow
import HandS.ListItems
import KE.KDictZip
import PyProof.ReprRoads
import PyProof.ReprLen
import PyProof.Rows.RegStrFacts
import PySem.Challenge.RW_tierfall_k75_whole_least_totals_at_once
set_option Elab.async false
set_option linter.all false
set_option maxRecDepth 100000
section
set_option autoImplicit false
/-! Bellman-Ford over a list of edges, in plain Lean. -/
namespace Tf
/-- a fact: most or least, the stretch, the value -/
structure Fa where
  mst : Bool
  a : Nat
  b : Nat
  v : Int
  deriving DecidableEq
/-- an edge: from, to, what it adds, its fact -/
structure Ed where
  s : Nat
  e : Nat
  m : Int
  f : Fa
  deriving DecidableEq
def edgeOf (f : Fa) : Ed := if f.mst then ⟨f.a, f.b, f.v, f⟩ else ⟨f.b, f.a, -f.v, f⟩
theorem edgeOf_f (f : Fa) : (edgeOf f).f = f := by unfold edgeOf; split <;> rfl
def flip (x : Ed) : Ed := ⟨x.e, x.s, x.m, x.f⟩
abbrev Ds := List (Option Int)
abbrev Ls := List (Option Ed)
def at_ {α : Type} (d : List (Option α)) (v : Nat) : Option α := (d[v]?).join
theorem at_some {α : Type} {d : List (Option α)} {v : Nat} {x : α} : at_ d v = some x ↔ d[v]? = some (some x) := by
  unfold at_
  cases h : d[v]? with
  | none => simp
  | some o => cases o <;> simp
theorem at_set {α : Type} {d : List (Option α)} {e : Nat} {x : Option α} (h : e < d.length) (v : Nat) : at_ (d.set e x) v = if v = e then x else at_ d v := by
  unfold at_
  by_cases hv : v = e
  · subst hv
    rw [List.getElem?_set_self h, if_pos rfl]
    cases x <;> rfl
  · rw [List.getElem?_set_ne (Ne.symm hv), if_neg hv]
/-- what the if asks -/
def better (d : Ds) (x : Ed) : Bool := match at_ d x.s with
  | none => false
  | some c => match at_ d x.e with
    | none => true
    | some y => decide (c + x.m < y)
structure S where
  d : Ds
  l : Ls
  c : Option Nat
def stepE (t : S) (x : Ed) : S := match at_ t.d x.s with
  | none => t
  | some c => if better t.d x then ⟨t.d.set x.e (some (c + x.m)), t.l.set x.e (some x), some x.e⟩ else t
def round (es : List Ed) (d : Ds) (l : Ls) : S := es.foldl stepE ⟨d, l, none⟩
/-- k more rounds are left -/
def rounds (es : List Ed) : Nat → S → S
  | 0, t => t
  | k + 1, t => let u := round es t.d t.l; if u.c = none then u else rounds es k u
def init (n o : Nat) : S := ⟨(List.replicate n none).set o (some 0), List.replicate n none, none⟩
def relax (es : List Ed) (n o : Nat) : S := rounds es (n + 1) (init n o)
/-! ### walks -/
inductive Wk (es : List Ed) (o : Nat) : Nat → Int → Prop
  | nil : Wk es o o 0
  | snoc {w : Int} {x : Ed} : Wk es o x.s w → x ∈ es → Wk es o x.e (w + x.m)
/-- no edge is violated -/
def Pot (es : List Ed) (p : Nat → Int) : Prop := ∀ x ∈ es, p x.e ≤ p x.s + x.m
def In (es : List Ed) (n : Nat) : Prop := ∀ x ∈ es, x.s < n ∧ x.e < n
section
variable {es : List Ed} {o n : Nat} {p : Nat → Int}
theorem Wk.ge (hp : Pot es p) {v : Nat} {w : Int} (h : Wk es o v w) : p v - p o ≤ w := by
  induction h with
  | nil => omega
  | snoc _ hm ih =>
    have := hp _ hm
    omega
theorem min_of {P : Int → Prop} {b : Int} (hb : ∀ w, P w → b ≤ w) : ∀ (k : Nat) (w : Int), (w - b).toNat = k → P w → ∃ u, P u ∧ ∀ z, P z → u ≤ z := by
  intro k
  induction k using Nat.strongRecOn with
  | ind k ih =>
    intro w hk hw
    by_cases h : ∃ z, P z ∧ z < w
    · obtain ⟨z, hz, hl⟩ := h
      have h1 := hb z hz
      have h2 := hb w hw
      exact ih (z - b).toNat (by omega) z rfl hz
    · refine ⟨w, hw, fun z hz => ?_⟩
      by_cases hl : z < w
      · exact absurd ⟨z, hz, hl⟩ h
      · omega
def Mn (es : List Ed) (o v : Nat) (w : Int) : Prop := Wk es o v w ∧ ∀ z, Wk es o v z → w ≤ z
theorem mn_of (hp : Pot es p) {v : Nat} {w : Int} (h : Wk es o v w) : ∃ u, Mn es o v u :=
  min_of (b := p v - p o) (fun _ hw => hw.ge hp) _ w rfl h
theorem Mn.unique {v : Nat} {w z : Int} (a : Mn es o v w) (b : Mn es o v z) : w = z := by
  have := a.2 z b.1
  have := b.2 w a.1
  omega
theorem mn_o (hp : Pot es p) : Mn es o o 0 := ⟨.nil, fun z hz => by have := hz.ge hp; omega⟩
/-- the label is the least one -/
def Fn (es : List Ed) (o : Nat) (d : Ds) (v : Nat) : Prop := ∀ w, Mn es o v w → at_ d v = some w
/-- each label is a walk's; o has one -/
structure Good (es : List Ed) (o n : Nat) (d : Ds) : Prop where
  len : d.length = n
  wk : ∀ v x, at_ d v = some x → Wk es o v x
  org : at_ d o = some 0
theorem better_iff {d : Ds} {x : Ed} : better d x = true ↔ ∃ c, at_ d x.s = some c ∧ ∀ y, at_ d x.e = some y → c + x.m < y := by
  unfold better
  cases h : at_ d x.s with
  | none => simp
  | some c =>
    cases h2 : at_ d x.e with
    | none => simp
    | some y => simp
/-- labels only fall -/
def Le (d d' : Ds) : Prop := ∀ v x, at_ d v = some x → ∃ y, at_ d' v = some y ∧ y ≤ x
theorem Le.refl (d : Ds) : Le d d := fun _ x h => ⟨x, h, Int.le_refl _⟩
theorem Le.trans {d d1 d2 : Ds} (a : Le d d1) (b : Le d1 d2) : Le d d2 := fun v x h => by
  obtain ⟨y, h1, l1⟩ := a v x h
  obtain ⟨z, h2, l2⟩ := b v y h1
  exact ⟨z, h2, Int.le_trans l2 l1⟩
theorem step_no {t : S} {x : Ed} (h : better t.d x = false) : stepE t x = t := by
  unfold stepE
  cases at_ t.d x.s with
  | none => rfl
  | some c => simp [h]
theorem step_yes {t : S} {x : Ed} {c : Int} (h : better t.d x = true) (hc : at_ t.d x.s = some c) : stepE t x = ⟨t.d.set x.e (some (c + x.m)), t.l.set x.e (some x), some x.e⟩ := by
  unfold stepE
  rw [hc]
  simp [h]
theorem step_le {t : S} {x : Ed} (hx : x.e < t.d.length) : Le t.d (stepE t x).d := by
  cases h : better t.d x with
  | false => rw [step_no h]; exact Le.refl _
  | true =>
    obtain ⟨c, hc, hl⟩ := better_iff.mp h
    rw [step_yes h hc]
    intro v y hy
    show ∃ z, at_ (t.d.set x.e (some (c + x.m))) v = some z ∧ z ≤ y
    rw [at_set hx]
    by_cases hv : v = x.e
    · subst hv
      rw [if_pos rfl]
      exact ⟨_, rfl, Int.le_of_lt (hl y hy)⟩
    · rw [if_neg hv]
      exact ⟨y, hy, Int.le_refl _⟩
theorem step_len {t : S} {x : Ed} : (stepE t x).d.length = t.d.length ∧ (stepE t x).l.length = t.l.length := by
  cases h : better t.d x with
  | false => rw [step_no h]; exact ⟨rfl, rfl⟩
  | true =>
    obtain ⟨c, hc, hl⟩ := better_iff.mp h
    rw [step_yes h hc]
    simp
theorem step_good (hp : Pot es p) {t : S} {x : Ed} (g : Good es o n t.d) (hm : x ∈ es) (hx : x.e < n) : Good es o n (stepE t x).d := by
  cases h : better t.d x with
  | false => rw [step_no h]; exact g
  | true =>
    obtain ⟨c, hc, hl⟩ := better_iff.mp h
    have wx : Wk es o x.e (c + x.m) := .snoc (g.wk _ _ hc) hm
    have hxl : x.e < t.d.length := by rw [g.len]; exact hx
    rw [step_yes h hc]
    refine ⟨by show (t.d.set _ _).length = n; rw [List.length_set]; exact g.len, fun v y hy => ?_, ?_⟩
    · have hy : at_ (t.d.set x.e (some (c + x.m))) v = some y := hy
      rw [at_set hxl] at hy
      by_cases hv : v = x.e
      · subst hv
        rw [if_pos rfl] at hy
        cases hy
        exact wx
      · rw [if_neg hv] at hy
        exact g.wk v y hy
    · show at_ (t.d.set x.e (some (c + x.m))) o = some 0
      rw [at_set hxl]
      by_cases hv : o = x.e
      · exfalso
        have h1 := hl 0 (by rw [← hv]; exact g.org)
        have h2 := wx.ge hp
        rw [← hv] at h2
        omega
      · rw [if_neg hv]
        exact g.org
theorem fin_keep {d d' : Ds} (g : Good es o n d') (hl : Le d d') {v : Nat} (h : Fn es o d v) : Fn es o d' v := fun w hw => by
  obtain ⟨y, hy, ly⟩ := hl v w (h w hw)
  have := hw.2 y (g.wk v y hy)
  have e : y = w := by omega
  rw [← e]
  exact hy
/-- a tight edge from a final place makes its end final -/
theorem step_fin (hp : Pot es p) {t : S} {x : Ed} (g : Good es o n t.d) (hm : x ∈ es) (hx : x.e < n) {w : Int} (hs : Mn es o x.s w) (hf : Fn es o t.d x.s) (he : Mn es o x.e (w + x.m)) : Fn es o (stepE t x).d x.e := fun z hz => by
  have ez : z = w + x.m := hz.unique he
  subst ez
  have hc := hf w hs
  have hxl : x.e < t.d.length := by rw [g.len]; exact hx
  cases h : better t.d x with
  | true =>
    rw [step_yes h hc]
    show at_ (t.d.set x.e (some (w + x.m))) x.e = _
    rw [at_set hxl, if_pos rfl]
  | false =>
    rw [step_no h]
    cases hy : at_ t.d x.e with
    | none =>
      have : better t.d x = true := better_iff.mpr ⟨w, hc, fun y h => by rw [hy] at h; cases h⟩
      rw [h] at this
      cases this
    | some y =>
      have h1 := he.2 y (g.wk _ _ hy)
      have h2 : ¬ (w + x.m < y) := fun q => by
        have : better t.d x = true := better_iff.mpr ⟨w, hc, fun y' h => by rw [hy] at h; cases h; exact q⟩
        rw [h] at this
        cases this
      have : y = w + x.m := by omega
      rw [this]
theorem fold_good (hp : Pot es p) (hn : In es n) : ∀ (xs : List Ed), (∀ x ∈ xs, x ∈ es) → ∀ t : S, Good es o n t.d → Good es o n (xs.foldl stepE t).d ∧ Le t.d (xs.foldl stepE t).d
  | [], _, t, g => ⟨g, Le.refl _⟩
  | x :: xs, hs, t, g => by
    have hm := hs x List.mem_cons_self
    have g1 := step_good hp g hm (hn x hm).2
    have l1 : Le t.d (stepE t x).d := step_le (by rw [g.len]; exact (hn x hm).2)
    obtain ⟨g2, l2⟩ := fold_good hp hn xs (fun y hy => hs y (List.mem_cons_of_mem _ hy)) (stepE t x) g1
    exact ⟨g2, l1.trans l2⟩
/-- behind a round the end of a tight edge from a final place is final -/
theorem fold_fin (hp : Pot es p) (hn : In es n) {x : Ed} {w : Int} (hs : Mn es o x.s w) (he : Mn es o x.e (w + x.m)) : ∀ (xs : List Ed), (∀ x ∈ xs, x ∈ es) → x ∈ xs → ∀ t : S, Good es o n t.d → Fn es o t.d x.s → Fn es o (xs.foldl stepE t).d x.e
  | [], _, h, _, _, _ => by cases h
  | y :: xs, hss, hx, t, g, hf => by
    have hm := hss y List.mem_cons_self
    have g1 := step_good hp g hm (hn y hm).2
    have l1 : Le t.d (stepE t y).d := step_le (by rw [g.len]; exact (hn y hm).2)
    have hr := fun z hz => hss z (List.mem_cons_of_mem y hz)
    by_cases e : y = x
    · subst e
      have f1 := step_fin hp g hm (hn y hm).2 hs hf he
      obtain ⟨g2, l2⟩ := fold_good hp hn xs hr (stepE t y) g1
      exact fin_keep g2 l2 f1
    · have hx' : x ∈ xs := by
        rcases List.mem_cons.mp hx with q | q
        · exact absurd q.symm e
        · exact q
      exact fold_fin hp hn hs he xs hr hx' (stepE t y) g1 (fin_keep g1 l1 hf)
/-- where not all is final there is a tight edge from a final place to one that is not -/
theorem crossing (hp : Pot es p) {d : Ds} (ho : Fn es o d o) : ∀ {v : Nat} {w : Int}, Wk es o v w → Mn es o v w → ¬ Fn es o d v → ∃ x u, x ∈ es ∧ Mn es o x.s u ∧ Mn es o x.e (u + x.m) ∧ Fn es o d x.s ∧ ¬ Fn es o d x.e := by
  intro v w h
  induction h with
  | nil => intro _ hf; exact absurd ho hf
  | snoc hw hm ih =>
    rename_i w x
    intro hmin hf
    have hmw : Mn es o x.s w := ⟨hw, fun z hz => by have := hmin.2 _ (.snoc hz hm); omega⟩
    by_cases hfs : Fn es o d x.s
    · exact ⟨x, w, hm, hmw, hmin, hfs, hf⟩
    · exact ih hmw hfs
open Classical in
noncomputable def cnt (es : List Ed) (o n : Nat) (d : Ds) : Nat := (List.range n).countP fun v => decide (Fn es o d v)
open Classical in
theorem countP_lt {α : Type} {q r : α → Bool} : ∀ {l : List α} {a : α}, (∀ x ∈ l, q x = true → r x = true) → a ∈ l → q a = false → r a = true → l.countP q < l.countP r
  | [], _, _, h, _, _ => by cases h
  | x :: l, a, hi, ha, h1, h2 => by
    have hle : l.countP q ≤ l.countP r := List.countP_mono_left fun y hy => hi y (List.mem_cons_of_mem _ hy)
    by_cases e : x = a
    · subst e
      rw [List.countP_cons_of_neg (by simp [h1]), List.countP_cons_of_pos h2]
      omega
    · have ha' : a ∈ l := by
        rcases List.mem_cons.mp ha with q | q
        · exact absurd q.symm e
        · exact q
      have ih := countP_lt (fun y hy => hi y (List.mem_cons_of_mem _ hy)) ha' h1 h2
      rw [List.countP_cons, List.countP_cons]
      have := hi x List.mem_cons_self
      by_cases hq : q x = true
      · rw [if_pos hq, if_pos (this hq)]; omega
      · rw [if_neg hq]
        split <;> omega
def AllF (es : List Ed) (o n : Nat) (d : Ds) : Prop := ∀ v, v < n → Fn es o d v
open Classical in
theorem round_cnt (hp : Pot es p) (hn : In es n) (ho : o < n) {d : Ds} {l : Ls} (g : Good es o n d) (h : ¬ AllF es o n d) : cnt es o n d < cnt es o n (round es d l).d := by
  have fo : Fn es o d o := fun w hw => by
    have := hw.unique (mn_o hp)
    rw [this]; exact g.org
  obtain ⟨v, hv, hf⟩ : ∃ v, v < n ∧ ¬ Fn es o d v := by
    apply Classical.byContradiction
    intro q
    exact h fun v hv => Classical.byContradiction fun r => q ⟨v, hv, r⟩
  obtain ⟨w, hw, hne⟩ : ∃ w, Mn es o v w ∧ ¬ at_ d v = some w := by
    apply Classical.byContradiction
    intro q
    exact hf fun w hw => Classical.byContradiction fun r => q ⟨w, hw, r⟩
  obtain ⟨x, u, hm, h1, h2, h3, h4⟩ := crossing hp fo hw.1 hw hf
  have g' := fold_good hp hn es (fun x hx => hx) ⟨d, l, none⟩ g
  have f' := fold_fin hp hn h1 h2 es (fun x hx => hx) hm ⟨d, l, none⟩ g h3
  refine countP_lt (a := x.e) (fun y _ hy => ?_) (List.mem_range.mpr (hn x hm).2) (decide_eq_false h4) (decide_eq_true f')
  exact decide_eq_true (fin_keep g'.1 g'.2 (of_decide_eq_true hy))
theorem cnt_le (es : List Ed) (o n : Nat) (d : Ds) : cnt es o n d ≤ n := by
  unfold cnt
  have := List.countP_le_length (p := fun v => @decide (Fn es o d v) (Classical.propDecidable _)) (l := List.range n)
  rw [List.length_range] at this
  exact this
theorem cnt_all {d : Ds} (h : cnt es o n d = n) : AllF es o n d := fun v hv => by
  unfold cnt at h
  have h2 : (List.range n).countP (fun v => @decide (Fn es o d v) (Classical.propDecidable _)) = (List.range n).length := by rw [h, List.length_range]
  have := List.countP_eq_length.mp h2 v (List.mem_range.mpr hv)
  exact @of_decide_eq_true _ (Classical.propDecidable _) this
theorem cnt_pos (hp : Pot es p) (ho : o < n) {d : Ds} (g : Good es o n d) : 1 ≤ cnt es o n d := by
  unfold cnt
  refine List.countP_pos_iff.mpr ⟨o, List.mem_range.mpr ho, ?_⟩
  refine @decide_eq_true _ (Classical.propDecidable _) fun w hw => ?_
  rw [hw.unique (mn_o hp)]
  exact g.org
/-- a round that ends with none has found nothing better -/
theorem fold_none : ∀ (xs : List Ed) (t : S), (xs.foldl stepE t).c = none → xs.foldl stepE t = t ∧ ∀ x ∈ xs, better t.d x = false
  | [], _, _ => ⟨rfl, fun _ h => by cases h⟩
  | x :: xs, t, h => by
    have keep : ∀ (ys : List Ed) (u : S), u.c ≠ none → (ys.foldl stepE u).c ≠ none := by
      intro ys
      induction ys with
      | nil => intro u hu; exact hu
      | cons y ys ih =>
        intro u hu
        refine ih (stepE u y) ?_
        cases hb : better u.d y with
        | false => rw [step_no hb]; exact hu
        | true =>
          obtain ⟨c, hc, _⟩ := better_iff.mp hb
          rw [step_yes hb hc]
          exact fun q => by cases q
    cases hb : better t.d x with
    | true =>
      exfalso
      obtain ⟨c, hc, _⟩ := better_iff.mp hb
      have h' : (xs.foldl stepE (stepE t x)).c = none := h
      rw [step_yes hb hc] at h'
      exact keep xs _ (fun q => by cases q) h'
    | false =>
      have h' : (xs.foldl stepE (stepE t x)).c = none := h
      rw [step_no hb] at h'
      obtain ⟨e1, e2⟩ := fold_none xs t h'
      refine ⟨?_, fun y hy => ?_⟩
      · show xs.foldl stepE (stepE t x) = t
        rw [step_no hb]; exact e1
      · rcases List.mem_cons.mp hy with q | q
        · subst q; exact hb
        · exact e2 y q
theorem fold_same : ∀ (xs : List Ed) (t : S), (∀ x ∈ xs, better t.d x = false) → xs.foldl stepE t = t
  | [], _, _ => rfl
  | x :: xs, t, h => by
    show xs.foldl stepE (stepE t x) = t
    rw [step_no (h x List.mem_cons_self)]
    exact fold_same xs t fun y hy => h y (List.mem_cons_of_mem _ hy)
theorem round_all (hp : Pot es p) (hn : In es n) {d : Ds} {l : Ls} (g : Good es o n d) (h : AllF es o n d) : round es d l = ⟨d, l, none⟩ := by
  refine fold_same es ⟨d, l, none⟩ fun x hx => ?_
  cases hb : better d x with
  | false => rfl
  | true =>
    exfalso
    obtain ⟨c, hc, hl⟩ := better_iff.mp hb
    have wx : Wk es o x.e (c + x.m) := .snoc (g.wk _ _ hc) hx
    obtain ⟨w, hw⟩ := mn_of hp wx
    have h1 := h x.e (hn x hx).2 w hw
    have h2 := hl w h1
    have h3 := hw.2 _ wx
    omega
/-- what stands behind all rounds -/
structure Done (es : List Ed) (o n : Nat) (t : S) : Prop where
  good : Good es o n t.d
  none : t.c = none
  fix : ∀ x ∈ es, better t.d x = false
theorem rounds_done (hp : Pot es p) (hn : In es n) (ho : o < n) : ∀ (k : Nat) (t : S), Good es o n t.d → (AllF es o n t.d ∨ n < cnt es o n t.d + k) → 1 ≤ k → Done es o n (rounds es k t)
  | 0, _, _, _, h => by omega
  | k + 1, t, g, h, _ => by
    have g1 := (fold_good hp hn es (fun x hx => hx) ⟨t.d, t.l, none⟩ g).1
    show Done es o n (if (round es t.d t.l).c = none then round es t.d t.l else rounds es k (round es t.d t.l))
    by_cases hc : (round es t.d t.l).c = none
    · rw [if_pos hc]
      obtain ⟨e1, e2⟩ := fold_none es ⟨t.d, t.l, none⟩ hc
      refine ⟨g1, hc, ?_⟩
      have : (round es t.d t.l).d = t.d := by rw [show round es t.d t.l = ⟨t.d, t.l, none⟩ from e1]
      rw [this]
      exact e2
    · rw [if_neg hc]
      have nf : ¬ AllF es o n t.d := fun q => hc (by rw [round_all hp hn g q])
      have hk : n < cnt es o n t.d + (k + 1) := by
        rcases h with q | q
        · exact absurd q nf
        · exact q
      have hl := round_cnt hp hn ho (l := t.l) g nf
      have hcl := cnt_le es o n (round es t.d t.l).d
      exact rounds_done hp hn ho k _ g1 (.inr (by omega)) (by omega)
theorem init_good (ho : o < n) : Good es o n (init n o).d := by
  have hl : o < (List.replicate n (none : Option Int)).length := by rw [List.length_replicate]; exact ho
  refine ⟨by show ((List.replicate n (none : Option Int)).set o (some 0)).length = n; rw [List.length_set, List.length_replicate], fun v x hx => ?_, ?_⟩
  · have hx : at_ ((List.replicate n (none : Option Int)).set o (some 0)) v = some x := hx
    rw [at_set hl] at hx
    by_cases hv : v = o
    · subst hv
      rw [if_pos rfl] at hx
      cases hx
      exact .nil
    · rw [if_neg hv] at hx
      exfalso
      have := at_some.mp hx
      rw [List.getElem?_replicate] at this
      split at this <;> cases this
  · show at_ ((List.replicate n (none : Option Int)).set o (some 0)) o = some 0
    rw [at_set hl, if_pos rfl]
theorem relax_done (hp : Pot es p) (hn : In es n) (ho : o < n) : Done es o n (relax es n o) := by
  refine rounds_done hp hn ho (n + 1) (init n o) (init_good ho) (.inr ?_) (by omega)
  have := cnt_pos hp ho (init_good (es := es) ho)
  omega
end
/-! ### the last edges lead back -/
/-- k steps back from v to o -/
inductive Ch (l : Ls) (o : Nat) : Nat → Nat → Prop
  | nil : Ch l o 0 o
  | step {k v : Nat} {x : Ed} : v ≠ o → at_ l v = some x → Ch l o k x.s → Ch l o (k + 1) v
section
variable {es : List Ed} {o n : Nat} {p : Nat → Int}
/-- each labelled place has its last edge, an edge of the list that ends there and is tight or slack the right way; it leads back -/
structure Back (es : List Ed) (o n : Nat) (d : Ds) (l : Ls) : Prop where
  len : l.length = n
  edge : ∀ v x, at_ l v = some x → x ∈ es ∧ x.e = v ∧ v ≠ o ∧ ∃ a b, at_ d x.s = some a ∧ at_ d v = some b ∧ a + x.m ≤ b
  ch : ∀ v y, at_ d v = some y → ∃ k, Ch l o k v
theorem init_back (ho : o < n) : Back es o n (init n o).d (init n o).l := by
  have hl : o < (List.replicate n (none : Option Int)).length := by rw [List.length_replicate]; exact ho
  refine ⟨by show (List.replicate n (none : Option Ed)).length = n; rw [List.length_replicate], fun v x hx => ?_, fun v y hy => ?_⟩
  · exfalso
    have := at_some.mp (show at_ (List.replicate n (none : Option Ed)) v = some x from hx)
    rw [List.getElem?_replicate] at this
    split at this <;> cases this
  · have hy : at_ ((List.replicate n (none : Option Int)).set o (some 0)) v = some y := hy
    rw [at_set hl] at hy
    by_cases hv : v = o
    · subst hv; exact ⟨0, .nil⟩
    · exfalso
      rw [if_neg hv] at hy
      have := at_some.mp hy
      rw [List.getElem?_replicate] at this
      split at this <;> cases this
theorem step_back (hp : Pot es p) {t : S} {x : Ed} (g : Good es o n t.d) (b : Back es o n t.d t.l) (hm : x ∈ es) (hs : x.s < n) (hx : x.e < n) : Back es o n (stepE t x).d (stepE t x).l := by
  cases h : better t.d x with
  | false => rw [step_no h]; exact b
  | true =>
    obtain ⟨c, hc, hl⟩ := better_iff.mp h
    have hxl : x.e < t.d.length := by rw [g.len]; exact hx
    have hxl2 : x.e < t.l.length := by rw [b.len]; exact hx
    have xo : x.e ≠ o := fun q => by
      have h1 := hl 0 (by rw [q]; exact g.org)
      have h2 := (Wk.snoc (g.wk _ _ hc) hm : Wk es o x.e (c + x.m)).ge hp
      rw [q] at h2
      omega
    have xne : x.s ≠ x.e := fun q => by
      have h1 := hl c (by rw [← q]; exact hc)
      have h2 := hp x hm
      rw [q] at h2
      omega
    rw [step_yes h hc]
    -- the order along the last edges
    have chain : ∀ k v, Ch t.l o k v → ∀ r, at_ t.d v = some r → (∀ y, at_ t.d x.e = some y → r - p v < y - p x.e) → Ch (t.l.set x.e (some x)) o k v := by
      intro k v hch
      induction hch with
      | nil => intro _ _ _; exact .nil
      | step hv he hr ih =>
        rename_i k v z
        intro r hr' hlt
        obtain ⟨hz, hze, _, a, bb, ha, hbv, hab⟩ := b.edge v z he
        rw [hr'] at hbv; cases hbv
        have hvx : v ≠ x.e := fun q => by
          have := hlt r (by rw [← q]; exact hr')
          rw [q] at this
          omega
        refine .step hv (by rw [at_set hxl2, if_neg hvx]; exact he) (ih a ha fun y hy => ?_)
        have h1 := hlt y hy
        have h2 := hp z hz
        rw [hze] at h2
        omega
    obtain ⟨ks, hks⟩ := b.ch x.s c hc
    have chs : Ch (t.l.set x.e (some x)) o ks x.s := chain ks x.s hks c hc fun y hy => by
      have h1 := hl y hy
      have h2 := hp x hm
      omega
    have che : Ch (t.l.set x.e (some x)) o (ks + 1) x.e := .step xo (by rw [at_set hxl2, if_pos rfl]) chs
    have all : ∀ k v, Ch t.l o k v → ∃ j, Ch (t.l.set x.e (some x)) o j v := by
      intro k v hch
      induction hch with
      | nil => exact ⟨0, .nil⟩
      | step hv he hr ih =>
        rename_i k v z
        by_cases hvx : v = x.e
        · rw [hvx]; exact ⟨_, che⟩
        · obtain ⟨j, hj⟩ := ih
          exact ⟨j + 1, .step hv (by rw [at_set hxl2, if_neg hvx]; exact he) hj⟩
    refine ⟨by show (t.l.set _ _).length = n; rw [List.length_set]; exact b.len, fun v z hz => ?_, fun v y hy => ?_⟩
    · have hz : at_ (t.l.set x.e (some x)) v = some z := hz
      show z ∈ es ∧ z.e = v ∧ v ≠ o ∧ ∃ a b, at_ (t.d.set x.e (some (c + x.m))) z.s = some a ∧ at_ (t.d.set x.e (some (c + x.m))) v = some b ∧ a + z.m ≤ b
      rw [at_set hxl2] at hz
      by_cases hv : v = x.e
      · rw [if_pos hv] at hz
        cases hz
        subst hv
        refine ⟨hm, rfl, xo, c, c + x.m, ?_, ?_, Int.le_refl _⟩
        · rw [at_set hxl, if_neg xne]; exact hc
        · rw [at_set hxl, if_pos rfl]
      · rw [if_neg hv] at hz
        obtain ⟨h1, h2, h3, a, bb, h4, h5, h6⟩ := b.edge v z hz
        refine ⟨h1, h2, h3, ?_⟩
        by_cases hzs : z.s = x.e
        · have := hl a (by rw [← hzs]; exact h4)
          exact ⟨c + x.m, bb, by rw [at_set hxl, if_pos hzs], by rw [at_set hxl, if_neg hv]; exact h5, by omega⟩
        · exact ⟨a, bb, by rw [at_set hxl, if_neg hzs]; exact h4, by rw [at_set hxl, if_neg hv]; exact h5, h6⟩
    · have hy : at_ (t.d.set x.e (some (c + x.m))) v = some y := hy
      show ∃ k, Ch (t.l.set x.e (some x)) o k v
      rw [at_set hxl] at hy
      by_cases hv : v = x.e
      · rw [hv]; exact ⟨_, che⟩
      · rw [if_neg hv] at hy
        obtain ⟨k, hk⟩ := b.ch v y hy
        exact all k v hk
theorem fold_back (hp : Pot es p) (hn : In es n) : ∀ (xs : List Ed), (∀ x ∈ xs, x ∈ es) → ∀ t : S, Good es o n t.d → Back es o n t.d t.l → Back es o n (xs.foldl stepE t).d (xs.foldl stepE t).l
  | [], _, _, _, b => b
  | x :: xs, hs, t, g, b => by
    have hm := hs x List.mem_cons_self
    exact fold_back hp hn xs (fun y hy => hs y (List.mem_cons_of_mem _ hy)) (stepE t x) (step_good hp g hm (hn x hm).2) (step_back hp g b hm (hn x hm).1 (hn x hm).2)
theorem rounds_back (hp : Pot es p) (hn : In es n) : ∀ (k : Nat) (t : S), Good es o n t.d → Back es o n t.d t.l → Back es o n (rounds es k t).d (rounds es k t).l
  | 0, _, _, b => b
  | k + 1, t, g, b => by
    have g1 := (fold_good hp hn es (fun x hx => hx) ⟨t.d, t.l, none⟩ g).1
    have b1 := fold_back hp hn es (fun x hx => hx) ⟨t.d, t.l, none⟩ g b
    show Back es o n (if (round es t.d t.l).c = none then round es t.d t.l else rounds es k (round es t.d t.l)).d (if (round es t.d t.l).c = none then round es t.d t.l else rounds es k (round es t.d t.l)).l
    split
    · exact b1
    · exact rounds_back hp hn k _ g1 b1
theorem relax_back (hp : Pot es p) (hn : In es n) (ho : o < n) : Back es o n (relax es n o).d (relax es n o).l := rounds_back hp hn (n + 1) (init n o) (init_good ho) (init_back ho)
end
/-! ### how long a way back is -/
theorem nodup_lt : ∀ (n : Nat) (l : List Nat), l.Nodup → (∀ x ∈ l, x < n) → l.length ≤ n
  | 0, l, _, h => by
    cases l with
    | nil => exact Nat.le_refl _
    | cons x r => have := h x List.mem_cons_self; omega
  | n + 1, l, hd, h => by
    have h1 : (l.erase n).Nodup := hd.erase n
    have h2 : ∀ x ∈ l.erase n, x < n := fun x hx => by
      have hm := List.mem_of_mem_erase hx
      have := h x hm
      have hne : x ≠ n := fun q => by
        subst q
        exact absurd hx (List.Nodup.not_mem_erase hd)
      omega
    have ih := nodup_lt n _ h1 h2
    by_cases hn : n ∈ l
    · have := List.length_erase_of_mem hn
      omega
    · rw [List.erase_of_not_mem hn] at ih
      omega
section
variable {l : Ls} {o n : Nat}
theorem Ch.det {k j v : Nat} (a : Ch l o k v) : Ch l o j v → k = j := by
  intro b
  induction a generalizing j with
  | nil =>
    cases b with
    | nil => rfl
    | step h _ _ => exact absurd rfl h
  | step hv he hr ih =>
    cases b with
    | nil => exact absurd rfl hv
    | step hv' he' hr' =>
      rw [he] at he'
      cases he'
      exact congrArg Nat.succ (ih hr')
/-- the places on the way are all different: their ways back differ in length -/
theorem Ch.path (hb : ∀ v x, at_ l v = some x → x.s < n) (ho : o < n) {k v : Nat} (a : Ch l o k v) (hv : v < n) : ∃ q : List Nat, q.length = k + 1 ∧ q.Nodup ∧ (∀ x ∈ q, x < n ∧ ∃ j, j ≤ k ∧ Ch l o j x) := by
  induction a with
  | nil => exact ⟨[o], rfl, by simp, fun x hx => by simp at hx; subst hx; exact ⟨ho, 0, Nat.le_refl _, .nil⟩⟩
  | step hne he hr ih =>
    rename_i k v x
    obtain ⟨q, h1, h2, h3⟩ := ih (hb v x he)
    refine ⟨v :: q, by rw [List.length_cons, h1], List.nodup_cons.mpr ⟨fun hm => ?_, h2⟩, fun y hy => ?_⟩
    · obtain ⟨_, j, hj, hc⟩ := h3 v hm
      have := hc.det (.step hne he hr)
      omega
    · rcases List.mem_cons.mp hy with e | hy
      · subst e
        exact ⟨hv, k + 1, Nat.le_refl _, .step hne he hr⟩
      · obtain ⟨a, j, hj, hc⟩ := h3 y hy
        exact ⟨a, j, by omega, hc⟩
theorem Ch.short (hb : ∀ v x, at_ l v = some x → x.s < n) (ho : o < n) {k v : Nat} (a : Ch l o k v) (hv : v < n) : k < n := by
  obtain ⟨q, h1, h2, h3⟩ := a.path hb ho hv
  have := nodup_lt n q h2 fun x hx => (h3 x hx).1
  omega
end
end Tf
end
section
set_option autoImplicit false
/-! Tables of the oldest entries of the tiers, in plain Lean. -/
namespace Tf
abbrev Tab := List (List Nat)
def rowAt (t : Tab) (i : Nat) : List Nat := t.getD i []
/-- the row ahead; zeros ahead of the first -/
def prevAt (k : Nat) (t : Tab) : Nat → List Nat
  | 0 => List.replicate k 0
  | i + 1 => rowAt t i
/-- how many each tier holds -/
def cnts : Nat → List Nat → List Nat
  | _, [] => []
  | stop, f :: r => (stop - f) :: cnts f r
def Desc : Nat → List Nat → Prop
  | _, [] => True
  | stop, f :: r => f ≤ stop ∧ Desc f r
structure Valid (k : Nat) (t : Tab) : Prop where
  len : ∀ i, i < t.length → (rowAt t i).length = k
  desc : ∀ i, i < t.length → Desc (i + 1) (rowAt t i)
  mono : ∀ i j, i < t.length → j < k → (prevAt k t i).getD j 0 ≤ (rowAt t i).getD j 0
theorem cnts_len : ∀ (stop : Nat) (fs : List Nat), (cnts stop fs).length = fs.length
  | _, [] => rfl
  | stop, f :: r => congrArg Nat.succ (cnts_len f r)
theorem cnts_get : ∀ (stop : Nat) (fs : List Nat) (j a b : Nat), (stop :: fs)[j]? = some a → fs[j]? = some b → (cnts stop fs)[j]? = some (a - b)
  | _, [], j, a, b, _, h => by simp at h
  | stop, f :: r, 0, a, b, h1, h2 => by
    simp at h1 h2
    subst h1 h2
    rfl
  | stop, f :: r, j + 1, a, b, h1, h2 => cnts_get f r j a b (by simpa using h1) (by simpa using h2)
theorem desc_get : ∀ (stop : Nat) (fs : List Nat), Desc stop fs → ∀ (j a b : Nat), (stop :: fs)[j]? = some a → fs[j]? = some b → b ≤ a
  | _, [], _, j, a, b, _, h => by simp at h
  | stop, f :: r, hd, 0, a, b, h1, h2 => by
    simp at h1 h2
    subst h1 h2
    exact hd.1
  | stop, f :: r, hd, j + 1, a, b, h1, h2 => desc_get f r hd.2 j a b (by simpa using h1) (by simpa using h2)
theorem desc_le : ∀ (stop : Nat) (fs : List Nat), Desc stop fs → ∀ (j b : Nat), fs[j]? = some b → b ≤ stop
  | _, [], _, j, b, h => by simp at h
  | stop, f :: r, hd, 0, b, h => by
    simp at h
    subst h
    exact hd.1
  | stop, f :: r, hd, j + 1, b, h => Nat.le_trans (desc_le f r hd.2 j b (by simpa using h)) hd.1
end Tf
namespace Tf
/-! ### the facts of a table -/
def bnds (low : Int) (high : Option Int) (i : Nat) : List Fa := ⟨false, i, i + 1, low⟩ :: (match high with | none => [] | some h => [⟨true, i, i + 1, h⟩])
/-- of one tier at one addition -/
def tierFs (m : Nat) (ti : Nat × Int) (pf f stop : Nat) : List Fa :=
  if ti.1 = m then (if f < stop then [⟨true, f, stop, ti.2⟩] else []) ++ (if pf < f then [⟨false, f - 1, stop, ti.2 + 1⟩] else []) else []
def tierAt (ts : List (Nat × Int)) (j : Nat) : Nat × Int := ts.getD j (0, 0)
def cellFs (ts : List (Nat × Int)) (t : Tab) (m i j : Nat) : List Fa := tierFs m (tierAt ts j) ((prevAt ts.length t i).getD j 0) ((rowAt t i).getD j 0) (((i + 1) :: rowAt t i).getD j 0)
def rowFs (ts : List (Nat × Int)) (t : Tab) (m i : Nat) : List Fa := (List.range ts.length).flatMap (cellFs ts t m i)
def factsM (ts : List (Nat × Int)) (t : Tab) (m : Nat) (low : Int) (high : Option Int) : List Fa := (List.range t.length).flatMap (bnds low high) ++ (List.range t.length).flatMap (rowFs ts t m)
theorem fm_succ {α : Type} (n : Nat) (f : Nat → List α) : (List.range (n + 1)).flatMap f = (List.range n).flatMap f ++ f n := by
  rw [List.range_succ, List.flatMap_append]
  simp
theorem fm_len {α : Type} {f : Nat → List α} {c : Nat} (h : ∀ i, (f i).length ≤ c) : ∀ n, ((List.range n).flatMap f).length ≤ c * n
  | 0 => by simp
  | n + 1 => by
    rw [fm_succ, List.length_append, Nat.mul_succ]
    have := fm_len h n
    have := h n
    omega
theorem bnds_len (low : Int) (high : Option Int) (i : Nat) : (bnds low high i).length ≤ 2 := by
  unfold bnds
  cases high <;> simp
theorem tierFs_len (m : Nat) (ti : Nat × Int) (pf f stop : Nat) : (tierFs m ti pf f stop).length ≤ 2 := by
  unfold tierFs
  split
  · split <;> split <;> simp
  · simp
theorem cellFs_len (ts : List (Nat × Int)) (t : Tab) (m i j : Nat) : (cellFs ts t m i j).length ≤ 2 := tierFs_len _ _ _ _ _
theorem rowFs_len (ts : List (Nat × Int)) (t : Tab) (m i : Nat) : (rowFs ts t m i).length ≤ 2 * ts.length := fm_len (cellFs_len ts t m i) _
theorem factsM_len {ts : List (Nat × Int)} {t : Tab} {m : Nat} {low : Int} {high : Option Int} (h1 : t.length ≤ 100) (h2 : ts.length ≤ 10) : (factsM ts t m low high).length ≤ 3000 := by
  unfold factsM
  rw [List.length_append]
  have a := fm_len (bnds_len low high) t.length
  have b := fm_len (rowFs_len ts t m) t.length
  have c : 2 * ts.length * t.length ≤ 20 * 100 := Nat.mul_le_mul (by omega) h1
  omega
end Tf
namespace Tf
/-! ### sums, differences, least totals -/
/-- the differences of neighbours -/
def difs (ts : List Int) : List Int := (List.range (ts.length - 1)).map fun i => ts.getD (i + 1) 0 - ts.getD i 0
theorem difs_len (ts : List Int) : (difs ts).length = ts.length - 1 := by unfold difs; rw [List.length_map, List.length_range]
def psum (c : List Int) (i : Nat) : Int := (c.take i).sum
theorem psum_zero (c : List Int) : psum c 0 = 0 := rfl
theorem psum_succ {c : List Int} {i : Nat} {z : Int} (h : c[i]? = some z) : psum c (i + 1) = psum c i + z := by
  unfold psum
  rw [List.take_add_one, h, List.sum_append]
  simp
def bEs (fs : List Fa) : List Ed := (fs.map edgeOf).map flip
def lts (fs : List Fa) (n : Nat) : List Int := (relax (bEs fs) n 0).d.map fun o => -(o.getD 0)
end Tf
end
section
set_option autoImplicit false
/-! What an observer sees: the table of a log, in plain Lean. -/
namespace Tf
/-- the least f from f on with T stop - T f ≤ L, in at most k steps -/
def trimN (T : Nat → Int) (L : Int) (stop : Nat) : Nat → Nat → Nat
  | 0, f => f
  | k + 1, f => if T stop - T f > L then trimN T L stop k (f + 1) else f
def trim (T : Nat → Int) (L : Int) (stop f : Nat) : Nat := trimN T L stop (stop - f) f
theorem trimN_ge (T : Nat → Int) (L : Int) (stop : Nat) : ∀ k f, f ≤ trimN T L stop k f
  | 0, f => Nat.le_refl _
  | k + 1, f => by
    unfold trimN
    split
    · exact Nat.le_trans (Nat.le_succ f) (trimN_ge T L stop k (f + 1))
    · exact Nat.le_refl _
theorem trimN_le (T : Nat → Int) (L : Int) (stop : Nat) : ∀ k f, trimN T L stop k f ≤ f + k
  | 0, f => Nat.le_refl _
  | k + 1, f => by
    unfold trimN
    split
    · have := trimN_le T L stop k (f + 1)
      omega
    · omega
theorem trim_ge (T : Nat → Int) (L : Int) (stop f : Nat) : f ≤ trim T L stop f := trimN_ge T L stop _ f
theorem trim_le {T : Nat → Int} {L : Int} {stop f : Nat} (h : f ≤ stop) : trim T L stop f ≤ stop := by
  have := trimN_le T L stop (stop - f) f
  unfold trim
  omega
theorem trim_step {T : Nat → Int} {L : Int} {stop f : Nat} (h : T stop - T f > L) (hf : f < stop) : trim T L stop f = trim T L stop (f + 1) := by
  unfold trim
  have e : stop - f = (stop - (f + 1)) + 1 := by omega
  rw [e]
  show (if T stop - T f > L then _ else _) = _
  rw [if_pos h]
theorem trim_stop {T : Nat → Int} {L : Int} {stop f : Nat} (h : ¬ T stop - T f > L) : trim T L stop f = f := by
  unfold trim
  cases e : stop - f with
  | zero => rfl
  | succ k =>
    show (if T stop - T f > L then _ else _) = _
    rw [if_neg h]
/-- it is the least such place -/
theorem trim_is {T : Nat → Int} {L : Int} {stop f g : Nat} (h1 : f ≤ g) (h2 : g ≤ stop) (h3 : ¬ T stop - T g > L) (h4 : ∀ x, f ≤ x → x < g → T stop - T x > L) : trim T L stop f = g := by
  have aux : ∀ d f, g - f = d → f ≤ g → (∀ x, f ≤ x → x < g → T stop - T x > L) → trim T L stop f = g := by
    intro d
    induction d with
    | zero =>
      intro f hd hf _
      have : f = g := by omega
      subst this
      exact trim_stop h3
    | succ d ih =>
      intro f hd hf hx
      rw [trim_step (hx f (Nat.le_refl _) (by omega)) (by omega)]
      exact ih (f + 1) (by omega) (by omega) fun x hx1 hx2 => hx x (by omega) hx2
  exact aux _ f rfl h1 h4
theorem trim_ok {T : Nat → Int} {L : Int} {stop f : Nat} (hf : f ≤ stop) (hL : 0 ≤ L) : ¬ T stop - T (trim T L stop f) > L ∧ ∀ x, f ≤ x → x < trim T L stop f → T stop - T x > L := by
  have aux : ∀ d f, stop - f = d → f ≤ stop → ¬ T stop - T (trim T L stop f) > L ∧ ∀ x, f ≤ x → x < trim T L stop f → T stop - T x > L := by
    intro d
    induction d with
    | zero =>
      intro f hd hf
      have : f = stop := by omega
      subst this
      have h : ¬ T f - T f > L := by omega
      rw [trim_stop h]
      exact ⟨h, fun x h1 h2 => by omega⟩
    | succ d ih =>
      intro f hd hf
      by_cases h : T stop - T f > L
      · rw [trim_step h (by omega)]
        obtain ⟨a, b⟩ := ih (f + 1) (by omega) (by omega)
        refine ⟨a, fun x h1 h2 => ?_⟩
        by_cases hx : x = f
        · rw [hx]; exact h
        · exact b x (by omega) h2
      · rw [trim_stop h]
        exact ⟨h, fun x h1 h2 => by omega⟩
  exact aux _ f rfl hf
/-- Tm m: the running totals in measure m -/
def trimRow (Tm : Nat → Nat → Int) : List (Nat × Int) → List Nat → Nat → List Nat
  | q :: ts, o :: os, stop => trim (Tm q.1) q.2 stop o :: trimRow Tm ts os (trim (Tm q.1) q.2 stop o)
  | _, _, _ => []
theorem trimRow_len {Tm : Nat → Nat → Int} : ∀ (ts : List (Nat × Int)) (os : List Nat) (stop : Nat), os.length = ts.length → (trimRow Tm ts os stop).length = ts.length
  | [], [], _, _ => rfl
  | [], _ :: _, _, h => by cases h
  | _ :: _, [], _, h => by cases h
  | q :: ts, o :: os, stop, h => congrArg Nat.succ (trimRow_len ts os _ (Nat.succ.inj h))
theorem trimRow_get {Tm : Nat → Nat → Int} : ∀ (ts : List (Nat × Int)) (os : List Nat) (stop j : Nat) (q : Nat × Int) (o s : Nat), ts[j]? = some q → os[j]? = some o → (stop :: trimRow Tm ts os stop)[j]? = some s → (trimRow Tm ts os stop)[j]? = some (trim (Tm q.1) q.2 s o)
  | [], _, _, j, _, _, _, h, _, _ => by simp at h
  | _ :: _, [], _, j, _, _, _, _, h, _ => by simp at h
  | q' :: ts, o' :: os, stop, 0, q, o, s, h1, h2, h3 => by
    simp at h1 h2 h3
    subst h1 h2 h3
    rfl
  | q' :: ts, o' :: os, stop, j + 1, q, o, s, h1, h2, h3 => trimRow_get ts os _ j q o s (by simpa using h1) (by simpa using h2) (by have h := h3; rw [List.getElem?_cons_succ] at h; exact h)
theorem trimRow_ok {Tm : Nat → Nat → Int} : ∀ (ts : List (Nat × Int)) (os : List Nat) (s0 stop : Nat), os.length = ts.length → Desc s0 os → s0 ≤ stop → Desc stop (trimRow Tm ts os stop) ∧ ∀ (j a b : Nat), os[j]? = some a → (trimRow Tm ts os stop)[j]? = some b → a ≤ b
  | [], [], _, _, _, _, _ => ⟨trivial, fun j a b h _ => by simp at h⟩
  | [], _ :: _, _, _, h, _, _ => by cases h
  | _ :: _, [], _, _, h, _, _ => by cases h
  | q :: ts, o :: os, s0, stop, h, hd, hs => by
    have h1 : o ≤ stop := Nat.le_trans hd.1 hs
    obtain ⟨a, b⟩ := trimRow_ok (Tm := Tm) ts os o (trim (Tm q.1) q.2 stop o) (Nat.succ.inj h) hd.2 (trim_ge _ _ _ _)
    refine ⟨⟨trim_le h1, a⟩, fun j x y hx hy => ?_⟩
    cases j with
    | zero =>
      simp [trimRow] at hx hy
      subst hx hy
      exact trim_ge _ _ _ _
    | succ j => exact b j x y (by simpa using hx) (by simpa [trimRow] using hy)
/-- the oldest entries behind i additions -/
def rowS (Tm : Nat → Nat → Int) (ts : List (Nat × Int)) : Nat → List Nat
  | 0 => List.replicate ts.length 0
  | i + 1 => trimRow Tm ts (rowS Tm ts i) (i + 1)
theorem rowS_len (Tm : Nat → Nat → Int) (ts : List (Nat × Int)) : ∀ i, (rowS Tm ts i).length = ts.length
  | 0 => List.length_replicate
  | i + 1 => trimRow_len ts _ _ (rowS_len Tm ts i)
theorem desc_zeros : ∀ k s, Desc s (List.replicate k 0)
  | 0, _ => trivial
  | k + 1, s => ⟨Nat.zero_le _, desc_zeros k 0⟩
theorem rowS_desc (Tm : Nat → Nat → Int) (ts : List (Nat × Int)) : ∀ i, Desc i (rowS Tm ts i)
  | 0 => desc_zeros _ _
  | i + 1 => (trimRow_ok ts _ i (i + 1) (rowS_len Tm ts i) (rowS_desc Tm ts i) (Nat.le_succ i)).1
def sight (Tm : Nat → Nat → Int) (ts : List (Nat × Int)) (n : Nat) : Tab := (List.range n).map fun i => rowS Tm ts (i + 1)
theorem sight_len (Tm : Nat → Nat → Int) (ts : List (Nat × Int)) (n : Nat) : (sight Tm ts n).length = n := by unfold sight; rw [List.length_map, List.length_range]
theorem sight_row {Tm : Nat → Nat → Int} {ts : List (Nat × Int)} {n i : Nat} (h : i < n) : rowAt (sight Tm ts n) i = rowS Tm ts (i + 1) := by
  unfold rowAt sight
  rw [List.getD_eq_getElem?_getD, List.getElem?_map, List.getElem?_range h]
  rfl
theorem sight_prev {Tm : Nat → Nat → Int} {ts : List (Nat × Int)} {n i : Nat} (h : i < n) : prevAt ts.length (sight Tm ts n) i = rowS Tm ts i := by
  cases i with
  | zero => rfl
  | succ i => exact sight_row (by omega)
theorem sight_valid (Tm : Nat → Nat → Int) (ts : List (Nat × Int)) (n : Nat) : Valid ts.length (sight Tm ts n) where
  len := fun i hi => by
    rw [sight_len] at hi
    rw [sight_row hi]
    exact rowS_len _ _ _
  desc := fun i hi => by
    rw [sight_len] at hi
    rw [sight_row hi]
    exact rowS_desc _ _ _
  mono := fun i j hi hj => by
    rw [sight_len] at hi
    rw [sight_row hi, sight_prev hi]
    have h1 : j < (rowS Tm ts i).length := by rw [rowS_len]; exact hj
    have h2 : j < (rowS Tm ts (i + 1)).length := by rw [rowS_len]; exact hj
    rw [List.getD_eq_getElem?_getD, List.getD_eq_getElem?_getD, List.getElem?_eq_getElem h1, List.getElem?_eq_getElem h2]
    exact (trimRow_ok ts _ i (i + 1) (rowS_len Tm ts i) (rowS_desc Tm ts i) (Nat.le_succ i)).2 j _ _ (List.getElem?_eq_getElem h1) (List.getElem?_eq_getElem h2)
/-- the new ones ahead, the old ones behind -/
def mix (new old : List Nat) (j : Nat) : List Nat := new.take j ++ old.drop j
theorem mix_zero (new old : List Nat) : mix new old 0 = old := rfl
theorem mix_all {new old : List Nat} (h : old.length = new.length) : mix new old new.length = new := by
  unfold mix
  rw [List.take_of_length_le (Nat.le_refl _), List.drop_of_length_le (by omega), List.append_nil]
theorem mix_get {new old : List Nat} {j : Nat} (hn : j ≤ new.length) : (mix new old j)[j]? = old[j]? := by
  unfold mix
  rw [List.getElem?_append_right (by rw [List.length_take]; omega), List.length_take, List.getElem?_drop]
  congr 1
  omega
theorem mix_len {new old : List Nat} {j : Nat} (h : old.length = new.length) (hj : j ≤ new.length) : (mix new old j).length = new.length := by
  unfold mix
  rw [List.length_append, List.length_take, List.length_drop]
  omega
theorem mix_set {new old : List Nat} {j x : Nat} (h : old.length = new.length) (hx : new[j]? = some x) : (mix new old j).set j x = mix new old (j + 1) := by
  have hj : j < new.length := (List.getElem?_eq_some_iff.mp hx).1
  apply List.ext_getElem?
  intro i
  by_cases hij : i = j
  · subst hij
    rw [List.getElem?_set_self (by rw [mix_len h (by omega)]; exact hj)]
    unfold mix
    rw [List.getElem?_append_left (by rw [List.length_take]; omega), List.getElem?_take_of_lt (by omega), hx]
  · rw [List.getElem?_set_ne (Ne.symm hij)]
    unfold mix
    by_cases hlt : i < j
    · rw [List.getElem?_append_left (by rw [List.length_take]; omega), List.getElem?_append_left (by rw [List.length_take]; omega), List.getElem?_take_of_lt hlt, List.getElem?_take_of_lt (by omega)]
    · rw [List.getElem?_append_right (by rw [List.length_take]; omega), List.getElem?_append_right (by rw [List.length_take]; omega), List.length_take, List.length_take, List.getElem?_drop, List.getElem?_drop]
      congr 1
      omega
end Tf
end
section
set_option autoImplicit false
/-! The least and the spread totals of a list of facts, in plain Lean. -/
namespace Tf
/-- running totals T keep a fact -/
def Sat (T : Nat → Int) (f : Fa) : Prop := if f.mst then T f.b - T f.a ≤ f.v else f.v ≤ T f.b - T f.a
/-- the facts lie on n places, tell of each step up, and some totals keep them -/
structure Ok (fs : List Fa) (n : Nat) : Prop where
  pos : 0 < n
  inn : ∀ f ∈ fs, f.a < n ∧ f.b < n
  up : ∀ i, i + 1 < n → ∃ v, 0 ≤ v ∧ (⟨false, i, i + 1, v⟩ : Fa) ∈ fs
  sat : ∃ T : Nat → Int, ∀ f ∈ fs, Sat T f
theorem pot_f {fs : List Fa} {T : Nat → Int} (h : ∀ f ∈ fs, Sat T f) : Pot (fs.map edgeOf) T := fun x hx => by
  obtain ⟨f, hf, rfl⟩ := List.mem_map.mp hx
  have hs := h f hf
  unfold Sat at hs
  unfold edgeOf
  split
  · rename_i hm
    rw [if_pos hm] at hs
    show T f.b ≤ T f.a + f.v
    omega
  · rename_i hm
    rw [if_neg hm] at hs
    show T f.a ≤ T f.b + -f.v
    omega
theorem pot_b {fs : List Fa} {T : Nat → Int} (h : ∀ f ∈ fs, Sat T f) : Pot (bEs fs) fun i => -T i := fun x hx => by
  obtain ⟨y, hy, rfl⟩ := List.mem_map.mp hx
  have := pot_f h y hy
  show -T y.s ≤ -T y.e + y.m
  omega
theorem in_f {fs : List Fa} {n : Nat} (h : ∀ f ∈ fs, f.a < n ∧ f.b < n) : In (fs.map edgeOf) n := fun x hx => by
  obtain ⟨f, hf, rfl⟩ := List.mem_map.mp hx
  have := h f hf
  unfold edgeOf
  split
  · exact this
  · exact ⟨this.2, this.1⟩
theorem in_b {fs : List Fa} {n : Nat} (h : ∀ f ∈ fs, f.a < n ∧ f.b < n) : In (bEs fs) n := fun x hx => by
  obtain ⟨y, hy, rfl⟩ := List.mem_map.mp hx
  have := in_f h y hy
  exact ⟨this.2, this.1⟩
/-- labels at a fixpoint -/
theorem fix_lab {es : List Ed} {d : Ds} {x : Ed} (h : better d x = false) {c : Int} (hc : at_ d x.s = some c) : ∃ y, at_ d x.e = some y ∧ y ≤ c + x.m := by
  cases hy : at_ d x.e with
  | none =>
    have : better d x = true := better_iff.mpr ⟨c, hc, fun y h => by rw [hy] at h; cases h⟩
    rw [h] at this
    cases this
  | some y =>
    refine ⟨y, rfl, ?_⟩
    rcases Int.lt_or_le (c + x.m) y with hl | hl
    · have : better d x = true := better_iff.mpr ⟨c, hc, fun y' h' => by rw [hy] at h'; cases h'; exact hl⟩
      rw [h] at this
      cases this
    · exact hl
section
variable {fs : List Fa} {n : Nat}
theorem Ok.done (k : Ok fs n) : Done (bEs fs) 0 n (relax (bEs fs) n 0) := by
  obtain ⟨T, hT⟩ := k.sat
  exact relax_done (pot_b hT) (in_b k.inn) k.pos
/-- every place has a label -/
theorem Ok.lab (k : Ok fs n) : ∀ v, v < n → ∃ x, at_ (relax (bEs fs) n 0).d v = some x
  | 0, _ => ⟨0, k.done.good.org⟩
  | v + 1, hv => by
    obtain ⟨x, hx⟩ := Ok.lab k v (by omega)
    obtain ⟨w, _, hw⟩ := k.up v hv
    have hm : flip (edgeOf ⟨false, v, v + 1, w⟩) ∈ bEs fs := List.mem_map.mpr ⟨_, List.mem_map.mpr ⟨_, hw, rfl⟩, rfl⟩
    obtain ⟨y, hy, _⟩ := fix_lab (es := bEs fs) (k.done.fix _ hm) (c := x) hx
    exact ⟨y, hy⟩
/-- the least totals as a function -/
def lt (fs : List Fa) (n : Nat) (i : Nat) : Int := (lts fs n).getD i 0
theorem lts_len (k : Ok fs n) : (lts fs n).length = n := by
  unfold lts
  rw [List.length_map]
  exact k.done.good.len
theorem lt_of {v : Nat} {x : Int} (h : at_ (relax (bEs fs) n 0).d v = some x) : lt fs n v = -x := by
  unfold lt lts
  rw [List.getD_eq_getElem?_getD, List.getElem?_map, at_some.mp h]
  rfl
theorem lt_zero (k : Ok fs n) : lt fs n 0 = 0 := by
  rw [lt_of k.done.good.org]
  rfl
theorem lt_sat (k : Ok fs n) : ∀ f ∈ fs, Sat (lt fs n) f := fun f hf => by
  have hm : flip (edgeOf f) ∈ bEs fs := List.mem_map.mpr ⟨_, List.mem_map.mpr ⟨_, hf, rfl⟩, rfl⟩
  have hfix := k.done.fix _ hm
  obtain ⟨ha, hb⟩ := k.inn f hf
  unfold Sat
  unfold edgeOf at hfix
  split
  · rename_i h
    rw [if_pos h] at hfix
    obtain ⟨x, hx⟩ := k.lab f.b hb
    obtain ⟨y, hy, hl⟩ := fix_lab (es := bEs fs) (x := flip ⟨f.a, f.b, f.v, f⟩) hfix (c := x) hx
    rw [lt_of hx, lt_of (show at_ _ f.a = some y from hy)]
    have hl : y ≤ x + f.v := hl
    omega
  · rename_i h
    rw [if_neg h] at hfix
    obtain ⟨x, hx⟩ := k.lab f.a ha
    obtain ⟨y, hy, hl⟩ := fix_lab (es := bEs fs) (x := flip ⟨f.b, f.a, -f.v, f⟩) hfix (c := x) hx
    rw [lt_of hx, lt_of (show at_ _ f.b = some y from hy)]
    have hl : y ≤ x + -f.v := hl
    omega
theorem lt_least (k : Ok fs n) {T : Nat → Int} (hT : ∀ f ∈ fs, Sat T f) (h0 : T 0 = 0) {v : Nat} (hv : v < n) : lt fs n v ≤ T v := by
  obtain ⟨x, hx⟩ := k.lab v hv
  have h1 := (k.done.good.wk v x hx).ge (pot_b hT)
  rw [lt_of hx]
  have h1 : -T v - -T 0 ≤ x := h1
  omega
/-! ### the greatest totals from a place on -/
abbrev fEs (fs : List Fa) : List Ed := fs.map edgeOf
def far : Int := 100000000000000000000
theorem Ok.fdone (k : Ok fs n) {o : Nat} (ho : o < n) : Done (fEs fs) o n (relax (fEs fs) n o) := by
  obtain ⟨T, hT⟩ := k.sat
  exact relax_done (pot_f hT) (in_f k.inn) ho
theorem Ok.fback (k : Ok fs n) {o : Nat} (ho : o < n) : Back (fEs fs) o n (relax (fEs fs) n o).d (relax (fEs fs) n o).l := by
  obtain ⟨T, hT⟩ := k.sat
  exact relax_back (pot_f hT) (in_f k.inn) ho
/-- what may be walked back to, it is not far -/
theorem Ok.walk (k : Ok fs n) {o v : Nat} {x : Int} (ho : o < n) (hv : v < n) (hx : at_ (relax (fEs fs) n o).d v = some x) : ∃ j, Ch (relax (fEs fs) n o).l o j v ∧ j < n := by
  obtain ⟨j, hj⟩ := (k.fback ho).ch v x hx
  refine ⟨j, hj, hj.short (fun u e he => ?_) ho hv⟩
  exact (in_f k.inn e ((k.fback ho).edge u e he).1).1
/-- all places up to the origin are reached -/
theorem Ok.below (k : Ok fs n) {o : Nat} (ho : o < n) : ∀ d v, v + d = o → ∃ x, at_ (relax (fEs fs) n o).d v = some x
  | 0, v, h => by
    have : v = o := by omega
    rw [this]
    exact ⟨0, (k.fdone ho).good.org⟩
  | d + 1, v, h => by
    obtain ⟨x, hx⟩ := Ok.below k ho d (v + 1) (by omega)
    obtain ⟨w, _, hw⟩ := k.up v (by omega)
    have hm : edgeOf ⟨false, v, v + 1, w⟩ ∈ fEs fs := List.mem_map.mpr ⟨_, hw, rfl⟩
    obtain ⟨y, hy, _⟩ := fix_lab (es := fEs fs) ((k.fdone ho).fix _ hm) (c := x) hx
    exact ⟨y, hy⟩
def liftS (d : Ds) (base : Nat → Int) (acc : Int) (x : Ed) : Int := match at_ d x.s, at_ d x.e with
  | none, some y => if far + y - x.m - base x.s > acc then far + y - x.m - base x.s else acc
  | _, _ => acc
def lift (d : Ds) (base : Nat → Int) (es : List Ed) : Int := es.foldl (liftS d base) far
theorem liftS_ge (d : Ds) (base : Nat → Int) (acc : Int) (x : Ed) : acc ≤ liftS d base acc x := by
  unfold liftS
  split
  · split <;> omega
  · exact Int.le_refl _
theorem lift_ge (d : Ds) (base : Nat → Int) : ∀ (es : List Ed) (acc : Int), acc ≤ es.foldl (liftS d base) acc
  | [], _ => Int.le_refl _
  | x :: es, acc => Int.le_trans (liftS_ge d base acc x) (lift_ge d base es _)
theorem lift_edge (d : Ds) (base : Nat → Int) : ∀ (es : List Ed) (acc : Int) (x : Ed), x ∈ es → at_ d x.s = none → ∀ y, at_ d x.e = some y → far + y - x.m - base x.s ≤ es.foldl (liftS d base) acc
  | [], _, _, h, _, _, _ => by cases h
  | z :: es, acc, x, h, hs, y, hy => by
    by_cases e : z = x
    · subst e
      refine Int.le_trans ?_ (lift_ge d base es _)
      have e : liftS d base acc z = if far + y - z.m - base z.s > acc then far + y - z.m - base z.s else acc := by
        unfold liftS
        rw [hs, hy]
      rw [e]
      split <;> omega
    · have h' : x ∈ es := by
        rcases List.mem_cons.mp h with q | q
        · exact absurd q.symm e
        · exact q
      exact lift_edge d base es _ x h' hs y hy
/-- the totals that spread returns -/
def sprT (fs : List Fa) (n o : Nat) (i : Nat) : Int := match at_ (relax (fEs fs) n o).d i with
  | none => lt fs n i + lift (relax (fEs fs) n o).d (lt fs n) (fEs fs)
  | some x => x
def spr (fs : List Fa) (n o : Nat) : List Int := (List.range n).map (sprT fs n o)
theorem spr_len (fs : List Fa) (n o : Nat) : (spr fs n o).length = n := by unfold spr; rw [List.length_map, List.length_range]
theorem spr_get {fs : List Fa} {n o i : Nat} (h : i < n) : (spr fs n o).getD i 0 = sprT fs n o i := by
  unfold spr
  rw [List.getD_eq_getElem?_getD, List.getElem?_map, List.getElem?_range h]
  rfl
theorem spr_edge (k : Ok fs n) {o : Nat} (ho : o < n) : ∀ x ∈ fEs fs, sprT fs n o x.e ≤ sprT fs n o x.s + x.m := fun x hx => by
  have hfix := (k.fdone ho).fix x hx
  unfold sprT
  cases hs : at_ (relax (fEs fs) n o).d x.s with
  | some c =>
    obtain ⟨y, hy, hl⟩ := fix_lab (es := fEs fs) hfix hs
    rw [hy]
    exact hl
  | none =>
    cases he : at_ (relax (fEs fs) n o).d x.e with
    | some y =>
      have h1 := lift_edge (relax (fEs fs) n o).d (lt fs n) (fEs fs) far x hx hs y he
      show y ≤ lt fs n x.s + lift _ _ _ + x.m
      unfold lift
      have h2 : (0 : Int) ≤ far := by decide
      omega
    | none =>
      have h1 := pot_f (lt_sat k) x hx
      show lt fs n x.e + _ ≤ lt fs n x.s + _ + x.m
      omega
theorem spr_sat (k : Ok fs n) {o : Nat} (ho : o < n) : ∀ f ∈ fs, Sat (sprT fs n o) f := fun f hf => by
  have h := spr_edge k ho (edgeOf f) (List.mem_map.mpr ⟨f, hf, rfl⟩)
  unfold Sat
  unfold edgeOf at h
  split
  · rename_i hm
    rw [if_pos hm] at h
    have h : sprT fs n o f.b ≤ sprT fs n o f.a + f.v := h
    omega
  · rename_i hm
    rw [if_neg hm] at h
    have h : sprT fs n o f.a ≤ sprT fs n o f.b + -f.v := h
    omega
end
/-! ### sizes -/
theorem psum_difs (ts : List Int) : ∀ i, i < ts.length → psum (difs ts) i = ts.getD i 0 - ts.getD 0 0
  | 0, _ => by rw [psum_zero]; omega
  | i + 1, h => by
    have hg : (difs ts)[i]? = some (ts.getD (i + 1) 0 - ts.getD i 0) := by
      unfold difs
      rw [List.getElem?_map, List.getElem?_range (by omega)]
      rfl
    rw [psum_succ hg, psum_difs ts i (by omega)]
    omega
theorem difs_nonneg {ts : List Int} (h : ∀ i, i + 1 < ts.length → ts.getD i 0 ≤ ts.getD (i + 1) 0) : ∀ z ∈ difs ts, 0 ≤ z := fun z hz => by
  unfold difs at hz
  obtain ⟨i, hi, rfl⟩ := List.mem_map.mp hz
  have := h i (by have := List.mem_range.mp hi; omega)
  omega
/-- sizes: as many as steps, none below nought, and they keep the facts -/
structure Agr (fs : List Fa) (n : Nat) (zs : List Int) : Prop where
  len : zs.length + 1 = n
  pos : ∀ z ∈ zs, 0 ≤ z
  sat : ∀ f ∈ fs, Sat (psum zs) f
theorem sat_congr {fs : List Fa} {n : Nat} {T U : Nat → Int} {c : Int} (inn : ∀ f ∈ fs, f.a < n ∧ f.b < n) (h : ∀ i, i < n → U i = T i - c) (s : ∀ f ∈ fs, Sat T f) : ∀ f ∈ fs, Sat U f := fun f hf => by
  have h1 := s f hf
  obtain ⟨ha, hb⟩ := inn f hf
  unfold Sat at h1 ⊢
  rw [h _ ha, h _ hb]
  split
  · rename_i hm
    rw [if_pos hm] at h1
    omega
  · rename_i hm
    rw [if_neg hm] at h1
    omega
theorem up_of {fs : List Fa} {n : Nat} (k : Ok fs n) {T : Nat → Int} (s : ∀ f ∈ fs, Sat T f) {i : Nat} (h : i + 1 < n) : T i ≤ T (i + 1) := by
  obtain ⟨v, hv, hm⟩ := k.up i h
  have h1 := s _ hm
  unfold Sat at h1
  have h1 : v ≤ T (i + 1) - T i := h1
  omega
theorem agr_difs {fs : List Fa} {n : Nat} (k : Ok fs n) {ts : List Int} (hl : ts.length = n) (s : ∀ f ∈ fs, Sat (fun i => ts.getD i 0) f) : Agr fs n (difs ts) := by
  have hp := k.pos
  refine ⟨by rw [difs_len]; omega, difs_nonneg fun i hi => ?_, ?_⟩
  · exact up_of k s (by omega)
  · exact sat_congr k.inn (fun i hi => psum_difs ts i (by omega)) s
theorem agr_lts {fs : List Fa} {n : Nat} (k : Ok fs n) : Agr fs n (difs (lts fs n)) := agr_difs k (lts_len k) (lt_sat k)
theorem agr_spr {fs : List Fa} {n o : Nat} (k : Ok fs n) (ho : o < n) : Agr fs n (difs (spr fs n o)) :=
  agr_difs k (spr_len _ _ _) (sat_congr (c := 0) k.inn (fun i hi => by rw [spr_get hi]; omega) (spr_sat k ho))
theorem psum_lts {fs : List Fa} {n : Nat} (k : Ok fs n) {i : Nat} (h : i < n) : psum (difs (lts fs n)) i = lt fs n i := by
  rw [psum_difs _ i (by rw [lts_len k]; exact h)]
  have := lt_zero k
  unfold lt at this ⊢
  omega
/-- no running total of the least sizes is above that of others -/
theorem least_le {fs : List Fa} {n : Nat} (k : Ok fs n) {zs : List Int} (a : Agr fs n zs) {i : Nat} (h : i < n) : psum (difs (lts fs n)) i ≤ psum zs i := by
  rw [psum_lts k h]
  exact lt_least k a.sat (psum_zero zs) h
end Tf
end
section
set_option autoImplicit false
namespace Tf
theorem sum_cut {c : List Int} {a b : Nat} (h : a ≤ b) : ((c.drop a).take (b - a)).sum = psum c b - psum c a := by
  obtain ⟨k, rfl⟩ : ∃ k, b = a + k := ⟨b - a, by omega⟩
  unfold psum
  rw [List.take_add, List.sum_append, show a + k - a = k by omega]
  omega
theorem Agr.sub {fs gs : List Fa} {n : Nat} {zs : List Int} (h : Agr (fs ++ gs) n zs) : Agr fs n zs := ⟨h.len, h.pos, fun f hf => h.sat f (List.mem_append_left _ hf)⟩
theorem ok_app {fs : List Fa} {n : Nat} {c : List Int} (k : Ok fs n) (ag : Agr fs n c) {a b : Nat} (ha : a ≤ b) (hb : b < n) : Ok (fs ++ [⟨true, a, b, psum c b - psum c a⟩, ⟨false, a, b, psum c b - psum c a⟩]) n := by
  refine ⟨k.pos, fun f hf => ?_, fun i hi => ?_, psum c, fun f hf => ?_⟩
  · rcases List.mem_append.mp hf with h | h
    · exact k.inn f h
    · rcases List.mem_cons.mp h with h | h
      · subst h; exact ⟨Nat.lt_of_le_of_lt ha hb, hb⟩
      · rw [List.mem_singleton] at h
        subst h; exact ⟨Nat.lt_of_le_of_lt ha hb, hb⟩
  · obtain ⟨v, hv, hm⟩ := k.up i hi
    exact ⟨v, hv, List.mem_append_left _ hm⟩
  · rcases List.mem_append.mp hf with h | h
    · exact ag.sat f h
    · rcases List.mem_cons.mp h with h | h
      · subst h
        exact Int.le_refl _
      · rw [List.mem_singleton] at h
        subst h
        exact Int.le_refl _
end Tf
end
section
set_option autoImplicit false
/-! The true totals keep the facts of what is seen; totals that keep the facts are seen alike. -/
namespace Tf
theorem mem_fm {α : Type} {f : Nat → List α} {n : Nat} {x : α} : x ∈ (List.range n).flatMap f ↔ ∃ i, i < n ∧ x ∈ f i := by
  rw [List.mem_flatMap]
  constructor
  · rintro ⟨i, hi, h⟩
    exact ⟨i, List.mem_range.mp hi, h⟩
  · rintro ⟨i, hi, h⟩
    exact ⟨i, List.mem_range.mpr hi, h⟩
section
variable {Tm : Nat → Nat → Int} {ts : List (Nat × Int)} {n : Nat}
/-- one tier at one addition -/
theorem cell_at {i j : Nat} {q : Nat × Int} (hi : i < n) (hq : ts[j]? = some q) : ∃ o s g : Nat, (rowS Tm ts i)[j]? = some o ∧ ((i + 1) :: rowS Tm ts (i + 1))[j]? = some s ∧ (rowS Tm ts (i + 1))[j]? = some g ∧ g = trim (Tm q.1) q.2 s o ∧ o ≤ s ∧ s ≤ i + 1 ∧
    ∀ m, cellFs ts (sight Tm ts n) m i j = tierFs m q o g s := by
  have hj : j < ts.length := (List.getElem?_eq_some_iff.mp hq).1
  have h1 : j < (rowS Tm ts i).length := by rw [rowS_len]; exact hj
  have h2 : j < ((i + 1) :: rowS Tm ts (i + 1)).length := by rw [List.length_cons, rowS_len]; omega
  have ho := List.getElem?_eq_getElem h1
  have hs := List.getElem?_eq_getElem h2
  generalize (rowS Tm ts i)[j] = o at ho
  generalize ((i + 1) :: rowS Tm ts (i + 1))[j] = s at hs
  have hg : (rowS Tm ts (i + 1))[j]? = some (trim (Tm q.1) q.2 s o) := trimRow_get ts (rowS Tm ts i) (i + 1) j q o s hq ho hs
  have hdes := rowS_desc Tm ts (i + 1)
  have hdeso := rowS_desc Tm ts i
  have hok := trimRow_ok (Tm := Tm) ts _ i (i + 1) (rowS_len Tm ts i) hdeso (Nat.le_succ i)
  have hsl : s ≤ i + 1 := by
    cases j with
    | zero => simp at hs; omega
    | succ j => exact desc_le _ _ hdes j s (by simpa using hs)
  have hos : o ≤ s := by
    cases j with
    | zero =>
      simp at hs
      have := desc_le _ _ hdeso 0 o ho
      omega
    | succ j =>
      have h3 : (rowS Tm ts (i + 1))[j]? = some s := by simpa using hs
      have hj' : j < (rowS Tm ts i).length := by omega
      have h4 := hok.2 j _ s (List.getElem?_eq_getElem hj') h3
      have h5 := desc_get _ _ hdeso (j + 1) ((rowS Tm ts i)[j]) o (by simp [List.getElem?_eq_getElem hj']) ho
      omega
  refine ⟨o, s, _, ho, hs, hg, rfl, hos, hsl, fun m => ?_⟩
  have gd : ∀ {α : Type} {xs : List α} {j : Nat} {x d : α}, xs[j]? = some x → xs.getD j d = x := fun h => by rw [List.getD_eq_getElem?_getD, h]; rfl
  unfold cellFs
  rw [sight_prev hi, sight_row hi, gd ho, gd hs, gd hg, show tierAt ts j = q from gd hq]
theorem mem_tier {m : Nat} {q : Nat × Int} {o g s : Nat} {f : Fa} (h : f ∈ tierFs m q o g s) : q.1 = m ∧ ((g < s ∧ f = ⟨true, g, s, q.2⟩) ∨ (o < g ∧ f = ⟨false, g - 1, s, q.2 + 1⟩)) := by
  unfold tierFs at h
  by_cases hm : q.1 = m
  · rw [if_pos hm] at h
    refine ⟨hm, ?_⟩
    rcases List.mem_append.mp h with h | h
    · by_cases hl : g < s
      · rw [if_pos hl, List.mem_singleton] at h
        exact .inl ⟨hl, h⟩
      · rw [if_neg hl] at h; cases h
    · by_cases hl : o < g
      · rw [if_pos hl, List.mem_singleton] at h
        exact .inr ⟨hl, h⟩
      · rw [if_neg hl] at h; cases h
  · rw [if_neg hm] at h; cases h
/-- what any fact of the table says -/
theorem mem_facts {m : Nat} {low : Int} {high : Option Int} {f : Fa} (h : f ∈ factsM ts (sight Tm ts n) m low high) :
    (∃ i, i < n ∧ (f = ⟨false, i, i + 1, low⟩ ∨ ∃ hv, high = some hv ∧ f = ⟨true, i, i + 1, hv⟩)) ∨
    (∃ (i j o s g : Nat) (q : Nat × Int), i < n ∧ ts[j]? = some q ∧ g = trim (Tm q.1) q.2 s o ∧ o ≤ s ∧ s ≤ i + 1 ∧ q.1 = m ∧ ((g < s ∧ f = ⟨true, g, s, q.2⟩) ∨ (o < g ∧ f = ⟨false, g - 1, s, q.2 + 1⟩))) := by
  unfold factsM at h
  rcases List.mem_append.mp h with h | h
  · obtain ⟨i, hi, hf⟩ := mem_fm.mp h
    rw [sight_len] at hi
    refine .inl ⟨i, hi, ?_⟩
    unfold bnds at hf
    rcases List.mem_cons.mp hf with e | e
    · exact .inl e
    · cases high with
      | none => cases e
      | some hv =>
        have e : f ∈ [(⟨true, i, i + 1, hv⟩ : Fa)] := e
        rw [List.mem_singleton] at e
        exact .inr ⟨hv, rfl, e⟩
  · obtain ⟨i, hi, hf⟩ := mem_fm.mp h
    rw [sight_len] at hi
    obtain ⟨j, hj, hf⟩ := mem_fm.mp hf
    obtain ⟨o, s, g, h1, h2, h3, h4, h5, h6, h7⟩ := cell_at (Tm := Tm) (q := ts[j]) hi (List.getElem?_eq_getElem hj)
    rw [h7 m] at hf
    obtain ⟨hm, hc⟩ := mem_tier hf
    exact .inr ⟨i, j, o, s, g, ts[j], hi, List.getElem?_eq_getElem hj, h4, h5, h6, hm, hc⟩
/-- the true totals keep the facts -/
theorem truth {m : Nat} {low : Int} {high : Option Int} (hL : ∀ q ∈ ts, 0 ≤ q.2) (lo : ∀ i, i < n → low ≤ Tm m (i + 1) - Tm m i) (hi : ∀ h, high = some h → ∀ i, i < n → Tm m (i + 1) - Tm m i ≤ h) :
    ∀ f ∈ factsM ts (sight Tm ts n) m low high, Sat (Tm m) f ∧ f.a < n + 1 ∧ f.b < n + 1 := fun f hf => by
  rcases mem_facts hf with ⟨i, hin, h⟩ | ⟨i, j, o, s, g, q, hin, hq, hg, hos, hsi, hm, h⟩
  · rcases h with rfl | ⟨hv, hh, rfl⟩
    · exact ⟨lo i hin, by show i < n + 1; omega, by show i + 1 < n + 1; omega⟩
    · exact ⟨hi hv hh i hin, by show i < n + 1; omega, by show i + 1 < n + 1; omega⟩
  · have hq2 := hL q (List.mem_of_getElem? hq)
    obtain ⟨t1, t2⟩ := trim_ok (T := Tm q.1) (L := q.2) hos hq2
    have hle := trim_le (T := Tm q.1) (L := q.2) hos
    rw [← hg] at t1 t2 hle
    rw [hm] at t1 t2
    rcases h with ⟨hl, rfl⟩ | ⟨hl, rfl⟩
    · refine ⟨?_, by show g < n + 1; omega, by show s < n + 1; omega⟩
      show Tm m s - Tm m g ≤ q.2
      omega
    · refine ⟨?_, by show g - 1 < n + 1; omega, by show s < n + 1; omega⟩
      have := t2 (g - 1) (by omega) (by omega)
      show q.2 + 1 ≤ Tm m s - Tm m (g - 1)
      omega
theorem ok_true {m : Nat} {low : Int} {high : Option Int} (hL : ∀ q ∈ ts, 0 ≤ q.2) (l0 : 0 ≤ low) (lo : ∀ i, i < n → low ≤ Tm m (i + 1) - Tm m i) (hi : ∀ h, high = some h → ∀ i, i < n → Tm m (i + 1) - Tm m i ≤ h) :
    Ok (factsM ts (sight Tm ts n) m low high) (n + 1) := by
  have ht := truth (Tm := Tm) (ts := ts) hL lo hi
  refine ⟨Nat.succ_pos n, fun f hf => (ht f hf).2, fun i hin => ⟨low, l0, ?_⟩, Tm m, fun f hf => (ht f hf).1⟩
  unfold factsM
  refine List.mem_append_left _ (mem_fm.mpr ⟨i, by rw [sight_len]; omega, ?_⟩)
  unfold bnds
  exact List.mem_cons_self
/-- totals that keep the facts of each measure are seen alike -/
theorem seen_alike {T' : Nat → Nat → Int} (hL : ∀ q ∈ ts, 0 ≤ q.2) (sat : ∀ q ∈ ts, ∃ low high, ∀ f ∈ factsM ts (sight Tm ts n) q.1 low high, Sat (T' q.1) f) (mono : ∀ q ∈ ts, ∀ i, i < n → T' q.1 i ≤ T' q.1 (i + 1)) :
    ∀ i, i ≤ n → rowS T' ts i = rowS Tm ts i
  | 0, _ => rfl
  | i + 1, hi => by
    have ih := seen_alike hL sat mono i (by omega)
    have hrow : rowS T' ts (i + 1) = trimRow T' ts (rowS Tm ts i) (i + 1) := by
      show trimRow T' ts (rowS T' ts i) (i + 1) = _
      rw [ih]
    have key : ∀ j, j ≤ ts.length → ((i + 1) :: trimRow T' ts (rowS Tm ts i) (i + 1))[j]? = ((i + 1) :: rowS Tm ts (i + 1))[j]? := by
      intro j
      induction j with
      | zero => intro _; rfl
      | succ j ihj =>
        intro hj
        have hj' : j < ts.length := by omega
        have hq := List.getElem?_eq_getElem hj'
        generalize ts[j] = q at hq
        have hqm := List.mem_of_getElem? hq
        obtain ⟨o, s, g, h1, h2, h3, h4, h5, h6, h7⟩ := cell_at (Tm := Tm) (n := n) (i := i) (by omega) hq
        have hs := ihj (by omega)
        rw [h2] at hs
        rw [List.getElem?_cons_succ, List.getElem?_cons_succ, h3, trimRow_get ts (rowS Tm ts i) (i + 1) j q o s hq h1 hs]
        congr 1
        obtain ⟨low, high, hsat⟩ := sat q hqm
        have hmem : ∀ f ∈ tierFs q.1 q o g s, Sat (T' q.1) f := fun f hf => by
          refine hsat f ?_
          unfold factsM
          refine List.mem_append_right _ (mem_fm.mpr ⟨i, by rw [sight_len]; omega, mem_fm.mpr ⟨j, hj', ?_⟩⟩)
          rw [h7]
          exact hf
        have hog : o ≤ g := by rw [h4]; exact trim_ge _ _ _ _
        have hgs : g ≤ s := by rw [h4]; exact trim_le h5
        have hq2 := hL q hqm
        have hmono : ∀ d a, a + d ≤ n → T' q.1 a ≤ T' q.1 (a + d) := by
          intro d
          induction d with
          | zero => intro a _; exact Int.le_refl _
          | succ d ihd =>
            intro a ha
            have e1 := ihd a (by omega)
            have e2 := mono q hqm (a + d) (by omega)
            show _ ≤ T' q.1 (a + d + 1)
            omega
        refine trim_is hog hgs ?_ fun x hx1 hx2 => ?_
        · by_cases hl : g < s
          · have hf := hmem ⟨true, g, s, q.2⟩ (by unfold tierFs; rw [if_pos rfl, if_pos hl]; exact List.mem_append_left _ List.mem_cons_self)
            have hf : T' q.1 s - T' q.1 g ≤ q.2 := hf
            omega
          · have : g = s := by omega
            rw [this]
            omega
        · have hf := hmem ⟨false, g - 1, s, q.2 + 1⟩ (by unfold tierFs; rw [if_pos rfl, if_pos (show o < g by omega)]; exact List.mem_append_right _ List.mem_cons_self)
          have hf : q.2 + 1 ≤ T' q.1 s - T' q.1 (g - 1) := hf
          have := hmono (g - 1 - x) x (by omega)
          rw [show x + (g - 1 - x) = g - 1 by omega] at this
          omega
    rw [hrow]
    apply List.ext_getElem?
    intro j
    by_cases hj : j < ts.length
    · have := key (j + 1) (by omega)
      rw [List.getElem?_cons_succ, List.getElem?_cons_succ] at this
      exact this
    · rw [List.getElem?_eq_none (by rw [trimRow_len _ _ _ (rowS_len Tm ts i)]; omega), List.getElem?_eq_none (by rw [rowS_len]; omega)]
end
end Tf
end
section
set_option maxHeartbeats 4000000
/-! Views of the abstract heap, data read in it, promises that give data, comprehensions that make lists of data. -/
namespace Tw
open PySem PySem.Spec PyProof.Rows L2
def topS (i : Nat) : Stmt := PySem.Challenge.pw_tierfall_k75_whole_least_totals_at_once.main.body.getD i (.Pass ⟨0, 0, 0, 0⟩)
/-! ### views -/
abbrev M0 : Addr → Prop := fun _ => False
/-- G is a part of H that is known; all of H but M is kept, the view grows by new objects alone -/
structure Grow (M : Addr → Prop) (G H G' H' : Hp) : Prop where
  gg : Same G G'
  sub : Same G' H'
  keep : ∀ a o, ¬ M a → H a = some o → H' a = some o
  dom : ∀ a, H' a = none → H a = none
  new : ∀ a, G a = none → H a ≠ none → G' a = none
section
variable {M : Addr → Prop} {G H G' H' G1 H1 G2 H2 : Hp} {p : Addr} {o o' : HO}
theorem Grow.refl (s : Same G H) : Grow M G H G H := ⟨Same.refl _, s, fun _ _ _ h => h, fun _ h => h, fun _ h _ => h⟩
theorem Grow.trans (a : Grow M G H G1 H1) (b : Grow M G1 H1 G2 H2) : Grow M G H G2 H2 :=
  ⟨a.gg.trans b.gg, b.sub, fun x o hm h => b.keep x o hm (a.keep x o hm h), fun x h => a.dom x (b.dom x h), fun x h n => b.new x (a.new x h n) fun z => n (a.dom x z)⟩
theorem Grow.weak (a : Grow M0 G H G1 H1) : Grow M G H G1 H1 := ⟨a.gg, a.sub, fun x o _ h => a.keep x o (fun z => z) h, a.dom, a.new⟩
theorem Grow.same (a : Grow M0 G H G1 H1) : Same H H1 := fun x o h => a.keep x o (fun z => z) h
theorem same_none (s : Same G H) (h : H p = none) : G p = none := by
  cases e : G p with
  | none => rfl
  | some o => rw [s _ _ e] at h; cases h
theorem ne_nn {a b : Addr} (h : H a ≠ none) (h' : H b = none) : a ≠ b := fun e => h (by rw [e]; exact h')
theorem nn_of (h : H p = some o) : H p ≠ none := fun z => by rw [h] at z; cases z
theorem same_new (s : Same G H) (h : H p = none) : Same (upd G p o) (upd H p o) := fun a u e => by
  by_cases ha : a = p
  · subst ha; rw [upd_same] at e ⊢; exact e
  · rw [upd_ne ha] at e ⊢; exact s a u e
/-- something new is laid, and known -/
theorem grow_new (s : Same G H) (h : H p = none) : Grow M G H (upd G p o) (upd H p o) := by
  refine ⟨fun a u e => ?_, same_new s h, fun a u _ e => ?_, fun a e => ?_, fun a e n => ?_⟩
  · rw [upd_ne (ne_of_none (s a u e) h)]; exact e
  · rw [upd_ne (ne_of_none e h)]; exact e
  · by_cases ha : a = p
    · subst ha; exact h
    · rw [upd_ne ha] at e; exact e
  · rw [upd_ne (ne_nn n h)]; exact e
theorem Grow.lay (a : Grow M G H G1 H1) (h : H1 p = none) : Grow M G H (upd G1 p o) (upd H1 p o) := a.trans (grow_new a.sub h)
/-- something new is laid that will change -/
theorem grow_loc (s : Same G H) (h : H p = none) : Grow M G H G (upd H p o) := by
  refine ⟨Same.refl _, fun a u e => ?_, fun a u _ e => ?_, fun a e => ?_, fun a e _ => e⟩
  · rw [upd_ne (ne_of_none (s a u e) h)]; exact s a u e
  · rw [upd_ne (ne_of_none e h)]; exact e
  · by_cases ha : a = p
    · subst ha; exact h
    · rw [upd_ne ha] at e; exact e
theorem Grow.loc (a : Grow M G H G1 H1) (h : H1 p = none) : Grow M G H G1 (upd H1 p o) := a.trans (grow_loc a.sub h)
/-- .. it changes -/
theorem Grow.mut (a : Grow M G H G1 H1) (h : H p = none) (g : G1 p = none) : Grow M G H G1 (upd H1 p o) := by
  refine ⟨a.gg, fun b u e => ?_, fun b u m e => ?_, fun b e => ?_, a.new⟩
  · rw [upd_ne (ne_of_none e g)]; exact a.sub b u e
  · rw [upd_ne (ne_of_none e h)]; exact a.keep b u m e
  · by_cases hb : b = p
    · subst hb; rw [upd_same] at e; cases e
    · rw [upd_ne hb] at e; exact a.dom b e
/-- .. it is done, and known -/
theorem Grow.abs (a : Grow M G H G1 H1) (h : H p = none) (g : G1 p = none) (e : H1 p = some o) : Grow M G H (upd G1 p o) H1 := by
  refine ⟨fun b u q => ?_, fun b u q => ?_, a.keep, a.dom, fun b q n => ?_⟩
  · have q1 := a.gg b u q
    rw [upd_ne (ne_of_none q1 g)]; exact q1
  · by_cases hb : b = p
    · subst hb; rw [upd_same] at q; cases q; exact e
    · rw [upd_ne hb] at q; exact a.sub b u q
  · rw [upd_ne (ne_nn n h)]; exact a.new b q n
/-- the object that may change changes -/
theorem Grow.chg {b : Addr} (a : Grow (fun x => x = b) G H G1 H1) (g : G1 b = none) (n : H1 b ≠ none) : Grow (fun x => x = b) G H G1 (upd H1 b o) := by
  refine ⟨a.gg, fun c u e => ?_, fun c u m e => ?_, fun c e => ?_, a.new⟩
  · rw [upd_ne (ne_of_none e g)]; exact a.sub c u e
  · rw [upd_ne (show c ≠ b from m)]; exact a.keep c u m e
  · by_cases hc : c = b
    · subst hc; rw [upd_same] at e; cases e
    · rw [upd_ne hc] at e; exact a.dom c e
theorem Grow.back (a : Grow M G H G1 H1) (h : H1 p = none) : H p = none := a.dom p h
theorem Grow.at_ (a : Grow M0 G H G1 H1) (h : H p = some o) : H1 p = some o := a.same p o h
end
/-! ### data -/
theorem Same.tup {K : PySem.W.Frag} {H H' : Hp} {a : Addr} {xs : List V} (e : Same H H') (h : SqT K H a xs) : SqT K H' a xs := by
  rcases h with (h | ⟨o, h⟩) | h
  · exact .inl (.inl (e _ _ h))
  · exact .inl (.inr ⟨o, e _ _ h⟩)
  · exact .inr h
section
variable {K : PySem.W.Frag} {H H' : Hp}
mutual
theorem dp_mono (e : Same H H') : ∀ {v : V} {d : PyData}, Dp K H v d → Dp K H' v d
  | _, _, .non => .non
  | _, _, .bl b => .bl b
  | _, _, .int i => .int i
  | _, _, .str x => .str x
  | _, _, .lst h a => .lst (e.seq h) (dpa_mono e a)
  | _, _, .tup h a => .tup (Same.tup e h) (dpa_mono e a)
theorem dpa_mono (e : Same H H') : ∀ {vs : List V} {ds : List PyData}, DpAll K H vs ds → DpAll K H' vs ds
  | _, _, .nil => .nil
  | _, _, .cons h t => .cons (dp_mono e h) (dpa_mono e t)
end
theorem dp_list {v : V} {ds : List PyData} (h : Dp K H v (.list ds)) : ∃ a xs, v = .ref a ∧ SqL K H a xs ∧ DpAll K H xs ds := by
  cases h with
  | lst h a => exact ⟨_, _, rfl, h, a⟩
theorem dp_tup {v : V} {ds : List PyData} (h : Dp K H v (.tuple ds)) : ∃ a xs, v = .ref a ∧ SqT K H a xs ∧ DpAll K H xs ds := by
  cases h with
  | tup h a => exact ⟨_, _, rfl, h, a⟩
theorem dp_int {v : V} {i : Int} (h : Dp K H v (.int i)) : v = .int i := by cases h; rfl
theorem dp_str {v : V} {x : Str} (h : Dp K H v (.str x)) : v = .str x := by cases h; rfl
theorem dp_non {v : V} (h : Dp K H v .none) : v = .non := by cases h; rfl
theorem dp_bl {v : V} {b : Bool} (h : Dp K H v (.bool b)) : v = .bl b := by cases h; rfl
theorem dpa_len : ∀ {vs : List V} {ds : List PyData}, DpAll K H vs ds → vs.length = ds.length
  | _, _, .nil => rfl
  | _, _, .cons _ t => congrArg Nat.succ (dpa_len t)
theorem dpa_get : ∀ {vs : List V} {ds : List PyData} {i : Nat} {d : PyData}, DpAll K H vs ds → ds[i]? = some d → ∃ v, vs[i]? = some v ∧ Dp K H v d
  | _, _, i, _, .nil, h => by simp at h
  | _, _, 0, _, .cons h _, e => by simp at e; subst e; exact ⟨_, rfl, h⟩
  | _, _, i + 1, _, .cons _ t, e => by
    obtain ⟨v, h1, h2⟩ := dpa_get (i := i) t (by simpa using e)
    exact ⟨v, by simpa using h1, h2⟩
theorem dpa_getV : ∀ {vs : List V} {ds : List PyData} {i : Nat} {v : V}, DpAll K H vs ds → vs[i]? = some v → ∃ d, ds[i]? = some d ∧ Dp K H v d
  | _, _, i, _, .nil, h => by simp at h
  | _, _, 0, _, .cons h _, e => by simp at e; subst e; exact ⟨_, rfl, h⟩
  | _, _, i + 1, _, .cons _ t, e => by
    obtain ⟨v, h1, h2⟩ := dpa_getV (i := i) t (by simpa using e)
    exact ⟨v, by simpa using h1, h2⟩
theorem dpa_app : ∀ {vs ws : List V} {ds es : List PyData}, DpAll K H vs ds → DpAll K H ws es → DpAll K H (vs ++ ws) (ds ++ es)
  | _, _, _, _, .nil, s => s
  | _, _, _, _, .cons h t, s => .cons h (dpa_app t s)
theorem dpa_one {v : V} {d : PyData} (h : Dp K H v d) : DpAll K H [v] [d] := .cons h .nil
theorem dpa_ints : ∀ ns : List Int, DpAll K H (ns.map V.int) (ns.map PyData.int)
  | [] => .nil
  | n :: ns => .cons (.int n) (dpa_ints ns)
theorem of_dpa_ints : ∀ {ns : List Int} {vs : List V}, DpAll K H vs (ns.map PyData.int) → vs = ns.map V.int
  | [], _, h => by cases h; rfl
  | n :: ns, _, h => by
    cases h with
    | cons h t => rw [dp_int h, of_dpa_ints t]; rfl
theorem dpa_take : ∀ {vs : List V} {ds : List PyData} (n : Nat), DpAll K H vs ds → DpAll K H (vs.take n) (ds.take n)
  | _, _, 0, _ => .nil
  | _, _, _ + 1, .nil => .nil
  | _, _, n + 1, .cons h t => .cons h (dpa_take n t)
theorem dpa_drop : ∀ {vs : List V} {ds : List PyData} (n : Nat), DpAll K H vs ds → DpAll K H (vs.drop n) (ds.drop n)
  | _, _, 0, h => h
  | _, _, _ + 1, .nil => .nil
  | _, _, n + 1, .cons _ t => dpa_drop n t
theorem dpa_set {v : V} {d : PyData} (h : Dp K H v d) : ∀ {vs : List V} {ds : List PyData} (i : Nat), DpAll K H vs ds → DpAll K H (vs.set i v) (ds.set i d)
  | _, _, _, .nil => .nil
  | _, _, 0, .cons _ t => .cons h t
  | _, _, i + 1, .cons q t => .cons q (dpa_set h i t)
theorem dpa_rev : ∀ {vs : List V} {ds : List PyData}, DpAll K H vs ds → DpAll K H vs.reverse ds.reverse
  | _, _, .nil => .nil
  | _, _, .cons h t => by
    rw [List.reverse_cons, List.reverse_cons]
    exact dpa_app (dpa_rev t) (dpa_one h)
theorem dp_lst {a : Addr} {xs : List V} {ds : List PyData} (h : H a = some (.lst xs)) (d : DpAll K H xs ds) : Dp K H (.ref a) (.list ds) := .lst (SqL.of h) d
theorem dp_tpl {a : Addr} {xs : List V} {ds : List PyData} (h : H a = some (.tup xs)) (d : DpAll K H xs ds) : Dp K H (.ref a) (.tuple ds) := .tup (SqT.of h) d
end
/-! ### promises and defs -/
/-- data comes back, all else is as it was -/
def Gives (M : Addr → Prop) (K : PySem.W.Frag) (G H : Hp) (R : PyData → Hp → Prop) (Q : VK) : Prop := ∀ v d G' H', Grow M G H G' H' → Dp K G' v d → R d H' → Q v H'
abbrev Gv (K : PySem.W.Frag) (G H : Hp) (d : PyData) (Q : VK) : Prop := ∀ v G' H', Grow M0 G H G' H' → Dp K G' v d → Q v H'
/-- a def of the text -/
structure Def (K : PySem.W.Frag) (mg : Str → Option Value) (x : Str) (st : Stmt) (ps : List Str) : Prop where
  ex : ∃ f fd, Fun K x x st f fd ∧ mg x = some (.ref f) ∧ Binds K fd ps []
/-- .. with its promise -/
structure Cal (P : Program) (w : World) (K : PySem.W.Frag) (mg : Str → Option Value) (base : Heap) (k : Nat) (x : Str) (ps : List Str) (sp : Sp) : Prop where
  ex : ∃ f fd, FnOk P w K mg base CX0 k f fd ps sp ∧ mg x = some (.ref f) ∧ PySem.W.keepIn K (.ref f) = true ∧ Binds K fd ps []
section
variable {P : Program} {w : World} {K : PySem.W.Frag} {mg : Str → Option Value} {base : Heap} {x : Str} {st : Stmt} {N ps : List Str} {k : Nat} {sp : Sp}
theorem Def.ok (D : Def K mg x st ps) (S : FnScope N ps (defScope st)) (len : ∀ vs H Q E, sp vs H Q E → vs.length = ps.length)
    (hbody : ∀ (f : Addr) (cdv : Value) (A : Around) (outer : List Env) (s : Shared) (H : Hp) (vs : List V) (Q : VK) (E : XK), Room k (A.deeper (envOfC x (defScope st) s.heap.objs.size f cdv)) → sp vs H Q E →
      ∃ t, PSs (cxOf CX0 P w K mg base N x (defScope st) f cdv A outer s H E).nox (defBody st) t ∧ t { nx := fun _ H' => Q .non H', rt := Q } (start N vs) H) : Cal P w K mg base (k + 1) x ps sp := by
  obtain ⟨f, fd, F, hm, hb⟩ := D.ex
  exact ⟨f, fd, F.ok S len (fun cdv A outer s H vs Q E hr h => hbody f cdv A outer s H vs Q E hr h), hm, F.kp, hb⟩
theorem Cal.mono {j : Nat} (C : Cal P w K mg base j x ps sp) (h : j ≤ k) : Cal P w K mg base k x ps sp := by
  obtain ⟨f, fd, F, hm, hk, hb⟩ := C.ex
  exact ⟨f, fd, F.mono h, hm, hk, hb⟩
end
section
variable {X : Cx} {k : Nat} {ps : List Str} {sp : Sp} {x : Str} {p pos : Pos} {e : Expr} {es : List Expr} {t : TA}
theorem pe_cal (C : Cal X.prog X.w X.K X.mg X.base k x ps sp) (hr : Room k X.A) (hg : Gl X x) (ha : PA X (e :: es) t) (hdb : (x == ("__debug__" : Str)) = false := by decide)
    (he : starEach (e :: es) X.env = (false, eval e X.env) :: starEach es X.env := by rfl) (hpl : (backTo pos (starEach es X.env)).any (·.1) = false := by rfl) :
    PE X (.Call (.Name x p) (e :: es) [] pos) (tCall sp [] E0 t) := by
  obtain ⟨f, fd, F, hm, hk, hb⟩ := C.ex
  exact pe_call F hr hg hm hk hb .nil pass0 ha hdb he hpl
end
/-! ### lists of data by a comprehension -/
/-- the list at D holds what is made so far: not in the view -/
structure Made (M : Addr → Prop) (K : PySem.W.Frag) (G H : Hp) (D : Addr) (R : Nat → PyData → Prop) (J : Hp → Prop) (i : Nat) (H' : Hp) : Prop where
  ex : ∃ (G' : Hp) (acc : List V) (ds : List PyData), Grow M G H G' H' ∧ G' D = none ∧ H' D = some (.lst acc) ∧ DpAll K G' acc ds ∧ ds.length = i ∧ ∀ (j : Nat) (d : PyData), ds[j]? = some d → R j d
  fr : H D = none
  st : J H'
/-- what is asked of one turn: from any grown state the element comes as data -/
def Turn1 (M : Addr → Prop) (K : PySem.W.Frag) (G H : Hp) (D : Addr) (R : Nat → PyData → Prop) (J : Hp → Prop) (i : Nat) (te : TE) (σ2 : L2.St) (H2 : Hp) : Prop :=
  te σ2 H2 fun y H4 => ∃ acc, H4 D = some (.lst acc) ∧ acc.length < sizeLine ∧ Made M K G H D R J (i + 1) (upd H4 D (.lst (acc ++ [y])))
section
variable {M : Addr → Prop} {K : PySem.W.Frag} {G H : Hp} {D : Addr} {R : Nat → PyData → Prop} {J : Hp → Prop} {i : Nat}
theorem Made.start (s : Same G H) (hD : H D = none) (j : J (upd H D (.lst []))) : Made M K G H D R J 0 (upd H D (.lst [])) :=
  ⟨⟨G, [], [], grow_loc s hD, same_none s hD, upd_same, .nil, rfl, fun j d h => by simp at h⟩, hD, j⟩
/-- the turn's end, at an element y that is data of the grown view -/
theorem Made.next {H1 H4 G1 G4 : Hp} {acc : List V} {ds : List PyData} {y : V} {d : PyData} (g : Grow M G H G1 H1) (f : H D = none) (n : G1 D = none) (e : H1 D = some (.lst acc)) (a : DpAll K G1 acc ds) (l : ds.length = i) (r : ∀ (j : Nat) (d : PyData), ds[j]? = some d → R j d)
    (g4 : Grow M G1 H1 G4 H4) (hM : ¬ M D) (hy : Dp K G4 y d) (hr : R i d) (hi : i < 100000) (j : J (upd H4 D (.lst (acc ++ [y])))) :
    ∃ acc, H4 D = some (.lst acc) ∧ acc.length < sizeLine ∧ Made M K G H D R J (i + 1) (upd H4 D (.lst (acc ++ [y]))) := by
  have e4 := g4.keep _ _ hM e
  have n4 : G4 D = none := g4.new _ n (nn_of e)
  refine ⟨acc, e4, ?_, ⟨G4, acc ++ [y], ds ++ [d], (g.trans g4).mut f n4, n4, upd_same, dpa_app (dpa_mono g4.gg a) (dpa_one hy), by simp [l], fun m z hz => ?_⟩, f, j⟩
  · rw [dpa_len a, l]
    exact Nat.lt_of_lt_of_le hi (by decide)
  · by_cases hm : m < ds.length
    · rw [List.getElem?_append_left hm] at hz
      exact r m z hz
    · rw [List.getElem?_append_right (by omega)] at hz
      have hm0 : m - ds.length = 0 := by
        cases q : m - ds.length with
        | zero => rfl
        | succ q' => rw [q] at hz; simp at hz
      rw [hm0] at hz
      simp at hz
      subst hz
      have : m = i := by omega
      subst this
      exact hr
/-- the end: the list is data -/
theorem Made.done {H' : Hp} {n : Nat} (m : Made M K G H D R J n H') : ∃ G' ds, Grow M G H G' H' ∧ Dp K G' (.ref D) (.list ds) ∧ ds.length = n ∧ (∀ (j : Nat) (d : PyData), ds[j]? = some d → R j d) ∧ J H' := by
  obtain ⟨⟨G', acc, ds, g, gn, e, a, l, r⟩, f, j⟩ := m
  refine ⟨upd G' D (.lst acc), ds, g.abs f gn e, dp_lst upd_same (dpa_mono (fun b o h => ?_) a), l, r, j⟩
  rw [upd_ne (ne_of_none h gn)]
  exact h
theorem list_of_get {α : Type} {xs ys : List α} (h : xs.length = ys.length) (e : ∀ (j : Nat) (x : α), xs[j]? = some x → ys[j]? = some x) : xs = ys := by
  apply List.ext_getElem? 
  intro j
  cases q : xs[j]? with
  | some x => exact (e j x q).symm
  | none =>
    have := List.getElem?_eq_none_iff.mp q
    exact (List.getElem?_eq_none_iff.mpr (by omega)).symm
end
end Tw
end
section
set_option maxHeartbeats 4000000
namespace Tw
open PySem PySem.Spec PyProof.Rows L2
section
variable {M : Addr → Prop} {K : PySem.W.Frag} {G H : Hp} {D : Addr}
/-- a comprehension over any walk; each turn gives data of which R tells -/
theorem lc_mk {It0 : It} {n : Nat} {Gd : Hp → Prop} {Y : Nat → Hp → V → Hp → Prop} (w : Walk It0 n Gd Y) {g : TG} {te : TE} {vs : List Nat} {σ : L2.St} {Q : VK} (R : Nat → PyData → Prop) (J : Hp → Prop)
    (s : Same G H) (hD : H D = none) (hM : ¬ M D) (hn : n < 100000) (j0 : J H) (jD : ∀ (H1 : Hp) (o : HO), J H1 → J (upd H1 D o)) (hgd : ∀ G1 H1, Grow M G H G1 H1 → J H1 → Gd H1)
    (turn : ∀ i x G1 H1 H1', i < n → Grow M G H G1 H1 → J H1 → Y i H1 x H1' → ∀ E : V → Hp → Prop, (∀ y d G4 H4, Grow M G1 H1 G4 H4 → Dp K G4 y d → R i d → J H4 → E y H4) → g x (wipe σ vs) H1' fun σ2 H2 => wipe σ2 vs = wipe σ vs ∧ te σ2 H2 E)
    (done : ∀ G' H' ds, Grow M G H G' H' → Dp K G' (.ref D) (.list ds) → ds.length = n → (∀ (j : Nat) (d : PyData), ds[j]? = some d → R j d) → J H' → Q (.ref D) H') (gm : ∀ (x : V) (τ : L2.St) (H1 : Hp) (A B : L2.St → Hp → Prop), (∀ σ2 H2, A σ2 H2 → B σ2 H2) → g x τ H1 A → g x τ H1 B) :
    ∃ W : Nat → Nat → Hp → Prop, (∃ m, W 0 m (upd H D (.lst []))) ∧ ∀ i m H, W i m H →
      (It0.stop i H ∧ Q (.ref D) H) ∨ (It0.go i H ∧ ∃ Nx : Hp → Prop, (∀ H', Nx H' → ∃ m', m' < m ∧ W (i + 1) m' H') ∧ ∀ x H', It0.yld i H x H' → g x (wipe σ vs) H' fun σ2 H2 => wipe σ2 vs = wipe σ vs ∧ tYes σ2 H2 fun b H3 =>
        if b = true then te σ2 H3 fun y H4 => ∃ acc, H4 D = some (.lst acc) ∧ acc.length < sizeLine ∧ Nx (upd H4 D (.lst (acc ++ [y]))) else Nx H3) := by
  refine lc_it w (Made M K G H D R J) (Made.start s hD (jD _ _ j0)) (fun i H' _ p => ?_) (fun i x H1 H1' hi p y => ?_) (fun H' p => ?_)
  · obtain ⟨G1, acc, ds, g1, gn, e, a, l, r⟩ := p.ex
    exact hgd G1 H' g1 p.st
  · obtain ⟨G1, acc, ds, g1, gn, e, a, l, r⟩ := p.ex
    refine gm _ _ _ _ _ (fun σ2 H2 h => ?_) (turn i x G1 H1 H1' hi g1 p.st y (fun y H4 => ∃ acc, H4 D = some (.lst acc) ∧ acc.length < sizeLine ∧ Made M K G H D R J (i + 1) (upd H4 D (.lst (acc ++ [y])))) fun y d G4 H4 g4 hy hr j4 =>
      Made.next g1 hD gn e a l r g4 hM hy hr (by omega) (jD _ _ j4))
    refine ⟨h.1, ?_⟩
    dsimp only [tYes]
    rw [if_pos rfl]
    exact h.2
  · obtain ⟨G', ds, g', hd, hl, hr, hj⟩ := p.done
    exact done G' H' ds g' hd hl hr hj
/-- .. all else as it was, the data told ahead -/
theorem lc_pure {It0 : It} {n : Nat} {Gd : Hp → Prop} {Y : Nat → Hp → V → Hp → Prop} (w : Walk It0 n Gd Y) {g : TG} {te : TE} {vs : List Nat} {σ : L2.St} {Q : VK} (T : List PyData)
    (s : Same G H) (hD : H D = none) (hT : T.length = n) (hn : n < 100000) (hgd : ∀ G1 H1, Grow M0 G H G1 H1 → Gd H1)
    (turn : ∀ i x G1 H1 H1' d, T[i]? = some d → Grow M0 G H G1 H1 → Y i H1 x H1' → ∀ E : V → Hp → Prop, (∀ y G4 H4, Grow M0 G1 H1 G4 H4 → Dp K G4 y d → E y H4) → g x (wipe σ vs) H1' fun σ2 H2 => wipe σ2 vs = wipe σ vs ∧ te σ2 H2 E)
    (done : ∀ G' H', Grow M0 G H G' H' → Dp K G' (.ref D) (.list T) → Q (.ref D) H') (gm : ∀ (x : V) (τ : L2.St) (H1 : Hp) (A B : L2.St → Hp → Prop), (∀ σ2 H2, A σ2 H2 → B σ2 H2) → g x τ H1 A → g x τ H1 B) :
    ∃ W : Nat → Nat → Hp → Prop, (∃ m, W 0 m (upd H D (.lst []))) ∧ ∀ i m H, W i m H →
      (It0.stop i H ∧ Q (.ref D) H) ∨ (It0.go i H ∧ ∃ Nx : Hp → Prop, (∀ H', Nx H' → ∃ m', m' < m ∧ W (i + 1) m' H') ∧ ∀ x H', It0.yld i H x H' → g x (wipe σ vs) H' fun σ2 H2 => wipe σ2 vs = wipe σ vs ∧ tYes σ2 H2 fun b H3 =>
        if b = true then te σ2 H3 fun y H4 => ∃ acc, H4 D = some (.lst acc) ∧ acc.length < sizeLine ∧ Nx (upd H4 D (.lst (acc ++ [y]))) else Nx H3) := by
  refine lc_mk w (K := K) (fun j d => T[j]? = some d) (fun _ => True) s hD (fun z => z) hn trivial (fun _ _ _ => trivial) (fun G1 H1 g _ => hgd G1 H1 g) (fun i x G1 H1 H1' hi g1 _ y E hE => ?_) (fun G' H' ds g' hd hl hr _ => ?_) gm
  · have hi' : i < T.length := by omega
    exact turn i x G1 H1 H1' T[i] (List.getElem?_eq_getElem hi') g1 y E fun y G4 H4 g4 hy => hE y T[i] G4 H4 g4 hy (List.getElem?_eq_getElem hi') trivial
  · have e : ds = T := list_of_get (hl.trans hT.symm) hr
    rw [← e] at done
    exact done G' H' g' hd
/-- targets are monotone -/
theorem gm_name {i : Nat} : ∀ (x : V) (τ : L2.St) (H1 : Hp) (A B : L2.St → Hp → Prop), (∀ σ2 H2, A σ2 H2 → B σ2 H2) → gName i x τ H1 A → gName i x τ H1 B := fun _ _ _ _ _ h a => h _ _ a
abbrev GsM (t : TGs) : Prop := ∀ (xs : List V) (τ : L2.St) (H1 : Hp) (A B : L2.St → Hp → Prop), (∀ σ2 H2, A σ2 H2 → B σ2 H2) → t xs τ H1 A → t xs τ H1 B
abbrev GM (t : TG) : Prop := ∀ (x : V) (τ : L2.St) (H1 : Hp) (A B : L2.St → Hp → Prop), (∀ σ2 H2, A σ2 H2 → B σ2 H2) → t x τ H1 A → t x τ H1 B
theorem gms_nil : GsM gNil := fun _ _ _ _ _ h a => ⟨a.1, h _ _ a.2⟩
theorem gms_cons {t : TG} {u : TGs} (h1 : GM t) (h2 : GsM u) : GsM (gCons t u) := fun _ _ _ _ _ h a => by
  obtain ⟨v, r, e, q⟩ := a
  exact ⟨v, r, e, h1 _ _ _ _ _ (fun σ2 H2 z => h2 _ _ _ _ _ h z) q⟩
theorem gm_tup {n : Nat} {t : TGs} (h1 : GsM t) : GM (gTup K n t) := fun _ _ _ _ _ h a => by
  obtain ⟨x, xs, e, hT, hl, q⟩ := a
  exact ⟨x, xs, e, hT, hl, h1 _ _ _ _ _ h q⟩
end
/-! ### o[i] op= e for a list -/
section
variable {X : Cx}
def rGetL (K : PySem.W.Frag) : V → V → Hp → VK → Prop := fun o i H Q => ∃ (p : Addr) (xs : List V) (k : Nat) (v : V), o = .ref p ∧ i = .int (k : Int) ∧ SqL K H p xs ∧ xs[k]? = some v ∧ Q v H
theorem get_list : PGet X (rGetL X.K) := by
  intro pins s σ H o i ov iv Q I ro ri h
  obtain ⟨p, xs, k, v, rfl, rfl, hq, he, q⟩ := h
  cases ro
  obtain ⟨t, rfl⟩ := ri
  obtain ⟨its, r, pl, hz⟩ := I.list hq
  obtain ⟨w, ew, rw'⟩ := r.get he
  have hl := r.length
  have hn := line63
  have hk : k < xs.length := (List.getElem?_eq_some_iff.mp he).1
  exact wpAny_getItem_list pl.isList (by omega) (by omega) (by simpa using ew) ⟨v, H, I, rw', q⟩
end
end Tw
namespace Tw
open PySem L2
theorem sz {n : Nat} (h : n ≤ 100000) : n ≤ sizeLine := Nat.le_trans h (by decide)
theorem szl {n : Nat} (h : n < 100000) : n < sizeLine := Nat.lt_of_lt_of_le h (by decide)
theorem sz1 : 1 ≤ sizeLine := by decide
theorem sz2 : 2 ≤ sizeLine := by decide
theorem sz3 : 3 ≤ sizeLine := by decide
theorem sz4 : 4 ≤ sizeLine := by decide
theorem same_up {H : Hp} {p : Addr} {o : HO} (h : H p = none) : Same H (upd H p o) := fun a u e => by
  rw [upd_ne (ne_of_none e h)]; exact e
end Tw
end
section
set_option maxHeartbeats 4000000
namespace Tw
open PySem PySem.Spec PyProof.Rows L2
/-! ### facts and edges as data -/
def wordOf (b : Bool) : Str := if b then "most" else "least"
def dFa (f : Tf.Fa) : PyData := .tuple [.str (wordOf f.mst), .tuple [.int f.a, .int f.b], .int f.v]
def dEd (x : Tf.Ed) : PyData := .tuple [.int x.s, .int x.e, .int x.m, dFa x.f]
section
variable {K : PySem.W.Frag} {H : Hp}
theorem dp_fa {v : V} {f : Tf.Fa} (h : Dp K H v (dFa f)) : ∃ a b, v = .ref a ∧ SqT K H a [.str (wordOf f.mst), .ref b, .int f.v] ∧ SqT K H b [.int f.a, .int f.b] := by
  obtain ⟨a, xs, rfl, hT, hA⟩ := dp_tup h
  cases hA with
  | cons h1 hA =>
    cases hA with
    | cons h2 hA =>
      cases hA with
      | cons h3 hA =>
        cases hA
        obtain ⟨b, ys, rfl, hT2, hB⟩ := dp_tup h2
        cases hB with
        | cons k1 hB =>
          cases hB with
          | cons k2 hB =>
            cases hB
            rw [dp_str h1, dp_int h3] at hT
            rw [dp_int k1, dp_int k2] at hT2
            exact ⟨a, b, rfl, hT, hT2⟩
theorem dp_ed {v : V} {x : Tf.Ed} (h : Dp K H v (dEd x)) : ∃ a fv, v = .ref a ∧ SqT K H a [.int x.s, .int x.e, .int x.m, fv] ∧ Dp K H fv (dFa x.f) := by
  obtain ⟨a, xs, rfl, hT, hA⟩ := dp_tup h
  cases hA with
  | cons h1 hA =>
    cases hA with
    | cons h2 hA =>
      cases hA with
      | cons h3 hA =>
        cases hA with
        | cons h4 hA =>
          cases hA
          rw [dp_int h1, dp_int h2, dp_int h3] at hT
          exact ⟨a, _, rfl, hT, h4⟩
theorem dp_ed_of {H : Hp} {a : Addr} {x : Tf.Ed} {fv : V} (h : H a = some (.tup [.int x.s, .int x.e, .int x.m, fv])) (f : Dp K H fv (dFa x.f)) : Dp K H (.ref a) (dEd x) :=
  dp_tpl h (.cons (.int _) (.cons (.int _) (.cons (.int _) (.cons f .nil))))
end
section
variable {P : Program} {w : World} {K : PySem.W.Frag} {mg : Str → Option Value} {base : Heap}
/-! ### is_integer -/
abbrev sIsInt : Stmt := topS 5
theorem scIsInt : FnScope ["thing"] ["thing"] (defScope sIsInt) := ⟨rfl, rfl, rfl, by decide +kernel, rfl, by decide +kernel, by decide +kernel⟩
def spIsInt : Sp := fun vs H Q _ => ∃ i : Int, vs = [.int i] ∧ Q (.bl true) H
theorem ok_isInt (D : Def K mg "is_integer" sIsInt ["thing"]) (z1 : mg "isinstance" = none) (z2 : mg "int" = none) (z3 : mg "bool" = none) : Cal P w K mg base 1 "is_integer" ["thing"] spIsInt := by
  refine D.ok scIsInt (fun vs H Q E h => ?_) (fun f cdv A outer s H vs Q E hr h => ?_)
  · obtain ⟨i, rfl, _⟩ := h
    rfl
  · obtain ⟨i, rfl, q⟩ := h
    refine ⟨_, pss_one (ps_ret (pe_and (pe_callB call_isi (by rfl) z1 (by decide +kernel) (pa_cons (pv 0) (pa_cons (pe_bltn (v := .ty "int") (u := .type "int") (by rfl) z2 (by decide +kernel) rfl) pa_nil)))
      (pe_one (pe_not (pe_callB call_isi (by rfl) z1 (by decide +kernel) (pa_cons (pv 0) (pa_cons (pe_bltn (v := .ty "bool") (u := .type "bool") (by rfl) z3 (by decide +kernel) rfl) pa_nil))))))), ?_⟩
    refine ⟨_, rfl, _, _, _, _, true, rfl, .ty "int", .base (.int i), kit_ty (by decide +kernel), true, rfl, iteT ?_⟩
    exact ⟨_, rfl, _, _, _, _, false, rfl, .ty "bool", .base (.int i), kit_ty (by decide +kernel), false, rfl, q⟩
end
end Tw
end
section
set_option maxHeartbeats 4000000
namespace Tw
open PySem PySem.Spec PyProof.Rows L2
section
variable {P : Program} {w : World} {K : PySem.W.Frag} {mg : Str → Option Value} {base : Heap}
/-! ### ends -/
abbrev sEnds : Stmt := topS 15
theorem scEnds : FnScope ["fact", "word", "first", "stop", "value"] ["fact"] (defScope sEnds) := ⟨rfl, rfl, rfl, by decide +kernel, rfl, by decide +kernel, by decide +kernel⟩
def dEnds (x : Tf.Ed) : PyData := .tuple [.int x.s, .int x.e, .int x.m]
def spEnds (K : PySem.W.Frag) : Sp := fun vs H Q _ => ∃ (G : Hp) (v : V) (f : Tf.Fa), Same G H ∧ vs = [v] ∧ Dp K G v (dFa f) ∧ Gv K G H (dEnds (Tf.edgeOf f)) Q
theorem word_t : decide ((.str (wordOf true) : V) = .str "most") = true := by decide +kernel
theorem word_f : decide ((.str (wordOf false) : V) = .str "most") = false := by decide +kernel
theorem ok_ends (D : Def K mg "ends" sEnds ["fact"]) : Cal P w K mg base 1 "ends" ["fact"] (spEnds K) := by
  refine D.ok scEnds (fun vs H Q E h => ?_) (fun f cdv A outer s H vs Q E hr h => ?_)
  · obtain ⟨G, v, f, _, rfl, _⟩ := h
    rfl
  · obtain ⟨G, v, fa, sG, rfl, hd, q⟩ := h
    refine ⟨_, pss_cons (ps_asg (pv 0) (pg_tup rfl (pgs_cons (pg_name (i := 1) scEnds.nd rfl (.inl rfl)) (pgs_cons (pg_tup rfl (pgs_cons (pg_name (i := 2) scEnds.nd rfl (.inl rfl)) (pgs_cons (pg_name (i := 3) scEnds.nd rfl (.inl rfl)) pgs_nil)))
        (pgs_cons (pg_name (i := 4) scEnds.nd rfl (.inl rfl)) pgs_nil)))))
      (pss_cons (ps_if (pt_cmpR op_eq (pv 1) pe_str (nomark _)) (pss_one (ps_ret (pe_tup (pa_cons (pv 2) (pa_cons (pv 3) (pa_cons (pv 4) pa_nil)))))) pss_nil)
      (pss_one (ps_ret (pe_tup (pa_cons (pv 3) (pa_cons (pv 2) (pa_cons (pe_un un_neg (pv 4)) pa_nil))))))), ?_⟩
    obtain ⟨a, b, rfl, h1, h2⟩ := dp_fa hd
    refine ⟨_, rfl, a, _, rfl, Same.tup sG h1, rfl, _, _, rfl, _, _, rfl, ⟨b, _, rfl, Same.tup sG h2, rfl, _, _, rfl, _, _, rfl, rfl, ?_⟩⟩
    refine ⟨_, _, rfl, rfl, _, rfl, rfl, _, rfl, ?_⟩
    cases hm : fa.mst with
    | true =>
      rw [word_t]
      refine iteT ?_
      refine ⟨_, rfl, _, rfl, _, rfl, sz3, fun p hp => ?_⟩
      refine q _ _ _ (grow_new sG hp) (dp_tpl (xs := [.int fa.a, .int fa.b, .int fa.v]) upd_same ?_)
      unfold Tf.edgeOf
      rw [hm]
      exact .cons (.int _) (.cons (.int _) (.cons (.int _) .nil))
    | false =>
      rw [word_f]
      refine iteF ?_
      refine ⟨_, rfl, _, rfl, _, rfl, _, rfl, sz3, fun p hp => ?_⟩
      refine q _ _ _ (grow_new sG hp) (dp_tpl (xs := [.int fa.b, .int fa.a, .int (-fa.v)]) upd_same ?_)
      unfold Tf.edgeOf
      rw [hm]
      exact .cons (.int _) (.cons (.int _) (.cons (.int _) .nil))
/-! ### edges_of -/
abbrev sEdges : Stmt := topS 16
theorem scEdges : FnScope ["rows", "fact"] ["rows"] (defScope sEdges) := ⟨rfl, rfl, rfl, by decide +kernel, rfl, by decide +kernel, by decide +kernel⟩
def spEdges (K : PySem.W.Frag) : Sp := fun vs H Q _ => ∃ (G : Hp) (v : V) (fs : List Tf.Fa), Same G H ∧ vs = [v] ∧ Dp K G v (.list (fs.map dFa)) ∧ fs.length < 100000 ∧ Gv K G H (.list ((fs.map Tf.edgeOf).map dEd)) Q
theorem ok_edges (D : Def K mg "edges_of" sEdges ["rows"]) (CE : Cal P w K mg base 1 "ends" ["fact"] (spEnds K)) : Cal P w K mg base 2 "edges_of" ["rows"] (spEdges K) := by
  refine D.ok scEdges (fun vs H Q E h => ?_) (fun f cdv A outer s H vs Q E hr h => ?_)
  · obtain ⟨G, v, f, _, rfl, _⟩ := h
    rfl
  · obtain ⟨G, v, fs, sG, rfl, hd, hl, q⟩ := h
    refine ⟨_, pss_one (ps_ret (pe_lc (own := [("fact", 1)]) (g := gName 1) (tt := tYes) rfl scEdges.nd (pi_list (pv 0)) (blkOk_by (N := ["rows", "fact"]) (sc := defScope sEdges) (by decide +kernel))
      (fun _ _ _ _ _ => pg_name (i := 1) scEdges.nd rfl (Or.inl rfl)) (fun _ _ _ _ _ => pts_nil) (fun _ _ _ _ _ => pe_op (r := rCatT K) op_catT (pe_cal CE hr (by rfl) (pa_cons (pv 1) pa_nil)) (pe_tup (pa_cons (pv 1) pa_nil))))), ?_⟩
    obtain ⟨a, xs, rfl, hL, hA⟩ := dp_list hd
    have hx : xs.length = fs.length := by rw [dpa_len hA, List.length_map]
    refine ⟨_, rfl, a, rfl, ⟨xs, sG.seq hL⟩, fun Dl hDl => lc_pure (K := K) walk_list ((fs.map Tf.edgeOf).map dEd) sG hDl (by simp [hx]) (by omega) (fun G1 H1 g => g.sub.seq (g.gg.seq hL)) (fun i x G1 H1 H1' d hi g1 y E hE => ?_) (fun G' H' g' hd' => q _ _ _ g' hd') gm_name⟩
    obtain ⟨rfl, hxi⟩ := y
    obtain ⟨d0, hd0, hv⟩ := dpa_getV hA hxi
    obtain ⟨fa, hfa, rfl⟩ : ∃ fa, fs[i]? = some fa ∧ dFa fa = d0 := by
      rw [List.getElem?_map] at hd0
      cases e : fs[i]? with
      | none => rw [e] at hd0; cases hd0
      | some fa => rw [e] at hd0; exact ⟨fa, rfl, Option.some.inj hd0⟩
    have ed : dEd (Tf.edgeOf fa) = d := by
      rw [List.getElem?_map, List.getElem?_map, hfa] at hi
      exact Option.some.inj hi
    refine ⟨rfl, ?_⟩
    refine ⟨_, rfl, G1, x, fa, g1.sub, rfl, dp_mono g1.gg hv, fun u G2 H2 g2 hu => ?_⟩
    obtain ⟨b, ys, rfl, hT, hB⟩ := dp_tup hu
    obtain rfl : ys = [.int (Tf.edgeOf fa).s, .int (Tf.edgeOf fa).e, .int (Tf.edgeOf fa).m] := by
      cases hB with
      | cons h1 hB =>
        cases hB with
        | cons h2 hB =>
          cases hB with
          | cons h3 hB =>
            cases hB
            rw [dp_int h1, dp_int h2, dp_int h3]
    refine ⟨_, rfl, sz1, fun p hp => ?_⟩
    have g3 : Grow M0 G1 _ (upd G2 p (.tup [x])) (upd H2 p (.tup [x])) := g2.lay hp
    have nG : G2 p = none := same_none g2.sub hp
    refine ⟨b, p, _, _, rfl, rfl, Same.tup g3.sub (Same.tup (same_up nG) hT), SqT.of upd_same, List.cons_ne_nil _ _, sz4, (fun z => by cases z), fun _ p2 hp2 => ?_⟩
    refine hE _ _ _ (g3.lay hp2) ?_
    rw [← ed]
    refine dp_ed_of upd_same (show Dp K _ x (dFa (Tf.edgeOf fa).f) from ?_)
    rw [Tf.edgeOf_f]
    exact dp_mono (g1.gg.trans (g3.gg.trans (same_up (same_none g3.sub hp2)))) hv
end
end Tw
end
section
set_option maxHeartbeats 4000000
namespace Tw
open PySem PySem.Spec PyProof.Rows L2
open Tf (psum psum_zero psum_succ)
/-! ### running totals of a list -/
/-- the first i + 1 running totals -/
def pres (c : List Int) (i : Nat) : List Int := (List.range (i + 1)).map (psum c)
theorem pres_len (c : List Int) (i : Nat) : (pres c i).length = i + 1 := by unfold pres; rw [List.length_map, List.length_range]
theorem pres_succ (c : List Int) (i : Nat) : pres c (i + 1) = pres c i ++ [psum c (i + 1)] := by
  unfold pres
  rw [List.range_succ (n := i + 1), List.map_append]
  rfl
theorem pres_last (c : List Int) (i : Nat) : ∃ ys, pres c i = ys ++ [psum c i] := ⟨(List.range i).map (psum c), by unfold pres; rw [List.range_succ, List.map_append]; rfl⟩
theorem pres_get {c : List Int} {n j : Nat} (h : j ≤ n) : (pres c n)[j]? = some (psum c j) := by
  unfold pres
  rw [List.getElem?_map, List.getElem?_range (by omega)]
  rfl
theorem pres_at_last (c : List Int) (i : Nat) : atI ((pres c i).map V.int) (-1) = some (.int (psum c i)) := by
  obtain ⟨ys, e⟩ := pres_last c i
  rw [e, List.map_append]
  exact atI_last _ _
theorem get_map {α β : Type} {f : α → β} {xs : List α} {i : Nat} {d : β} (h : (xs.map f)[i]? = some d) : ∃ x, xs[i]? = some x ∧ f x = d := by
  rw [List.getElem?_map] at h
  exact Option.map_eq_some_iff.mp h
/-! ### logs -/
abbrev Log := List (List Int)
def dEn (e : List Int) : PyData := .tuple (e.map PyData.int)
def dLog (l : Log) : PyData := .list (l.map dEn)
def col (l : Log) (m : Nat) : List Int := l.map fun e => e.getD m 0
theorem col_len (l : Log) (m : Nat) : (col l m).length = l.length := by unfold col; rw [List.length_map]
theorem col_get {l : Log} {m i : Nat} {e : List Int} (h : l[i]? = some e) : (col l m)[i]? = some (e.getD m 0) := by
  unfold col
  rw [List.getElem?_map, h]
  rfl
theorem getD_get {e : List Int} {m : Nat} (h : m < e.length) : (e.map V.int)[m]? = some (.int (e.getD m 0)) := by
  rw [List.getElem?_map, List.getElem?_eq_getElem h, List.getD_eq_getElem?_getD, List.getElem?_eq_getElem h]
  rfl
section
variable {P : Program} {w : World} {K : PySem.W.Frag} {mg : Str → Option Value} {base : Heap}
/-! ### backward -/
abbrev sBack : Stmt := topS 17
theorem scBack : FnScope ["edges", "start", "end", "more", "fact"] ["edges"] (defScope sBack) := ⟨rfl, rfl, rfl, by decide +kernel, rfl, by decide +kernel, by decide +kernel⟩
def spBack (K : PySem.W.Frag) : Sp := fun vs H Q _ => ∃ (G : Hp) (v : V) (es : List Tf.Ed), Same G H ∧ vs = [v] ∧ Dp K G v (.list (es.map dEd)) ∧ es.length < 100000 ∧ Gv K G H (.list ((es.map Tf.flip).map dEd)) Q
theorem ok_back (D : Def K mg "backward" sBack ["edges"]) : Cal P w K mg base 1 "backward" ["edges"] (spBack K) := by
  refine D.ok scBack (fun vs H Q E h => ?_) (fun f cdv A outer s H vs Q E hr h => ?_)
  · obtain ⟨G, v, f, _, rfl, _⟩ := h
    rfl
  · obtain ⟨G, v, es, sG, rfl, hd, hl, q⟩ := h
    refine ⟨_, pss_one (ps_ret (pe_lc (own := [("start", 1), ("end", 2), ("more", 3), ("fact", 4)]) (g := gTup K 4 (gCons (gName 1) (gCons (gName 2) (gCons (gName 3) (gCons (gName 4) gNil))))) (tt := tYes) rfl scBack.nd (pi_list (pv 0))
      (blkOk_by (N := ["edges", "start", "end", "more", "fact"]) (sc := defScope sBack) (by decide +kernel))
      (fun _ _ _ _ _ => pg_tup rfl (pgs_cons (pg_name (i := 1) scBack.nd rfl (Or.inl rfl)) (pgs_cons (pg_name (i := 2) scBack.nd rfl (Or.inl rfl)) (pgs_cons (pg_name (i := 3) scBack.nd rfl (Or.inl rfl)) (pgs_cons (pg_name (i := 4) scBack.nd rfl (Or.inl rfl)) pgs_nil)))))
      (fun _ _ _ _ _ => pts_nil) (fun _ _ _ _ _ => pe_tup (pa_cons (pv 2) (pa_cons (pv 1) (pa_cons (pv 3) (pa_cons (pv 4) pa_nil))))))), ?_⟩
    obtain ⟨a, xs, rfl, hL, hA⟩ := dp_list hd
    have hx : xs.length = es.length := by rw [dpa_len hA, List.length_map]
    refine ⟨_, rfl, a, rfl, ⟨xs, sG.seq hL⟩, fun Dl hDl => lc_pure (K := K) walk_list ((es.map Tf.flip).map dEd) sG hDl (by simp [hx]) (by omega) (fun G1 H1 g => g.sub.seq (g.gg.seq hL)) (fun i x G1 H1 H1' d hi g1 y E hE => ?_) (fun G' H' g' hd' => q _ _ _ g' hd')
      (gm_tup (gms_cons gm_name (gms_cons gm_name (gms_cons gm_name (gms_cons gm_name gms_nil)))))⟩
    obtain ⟨rfl, hxi⟩ := y
    obtain ⟨d0, hd0, hv⟩ := dpa_getV hA hxi
    obtain ⟨ed, hed, rfl⟩ := get_map hd0
    obtain ⟨z, hz, rfl⟩ := get_map hi
    obtain ⟨z', hz', rfl⟩ := get_map hz
    rw [hed] at hz'
    cases hz'
    obtain ⟨b, fv, rfl, hT, hF⟩ := dp_ed (dp_mono g1.gg hv)
    refine ⟨b, _, rfl, Same.tup g1.sub hT, rfl, _, _, rfl, _, _, rfl, _, _, rfl, _, _, rfl, rfl, rfl, ?_⟩
    refine ⟨_, rfl, _, rfl, _, rfl, _, rfl, sz4, fun p hp => ?_⟩
    exact hE _ _ _ (grow_new g1.sub hp) (dp_ed_of (x := Tf.flip ed) upd_same (dp_mono (same_up (same_none g1.sub hp)) hF))
/-! ### running_totals -/
abbrev sRun : Stmt := topS 7
theorem scRun : FnScope ["log", "measure", "found", "entry"] ["log", "measure"] (defScope sRun) := ⟨rfl, rfl, rfl, by decide +kernel, rfl, by decide +kernel, by decide +kernel⟩
def spRun (K : PySem.W.Frag) : Sp := fun vs H Q _ => ∃ (G : Hp) (v : V) (l : Log) (m : Nat), Same G H ∧ vs = [v, .int m] ∧ Dp K G v (dLog l) ∧ (∀ e ∈ l, m < e.length) ∧ l.length < 1000 ∧ Gv K G H (.list ((pres (col l m) l.length).map PyData.int)) Q
theorem ok_run (D : Def K mg "running_totals" sRun ["log", "measure"]) : Cal P w K mg base 1 "running_totals" ["log", "measure"] (spRun K) := by
  refine D.ok scRun (fun vs H Q E h => ?_) (fun f cdv A outer s H vs Q E hr h => ?_)
  · obtain ⟨G, v, l, m, _, rfl, _⟩ := h
    rfl
  · obtain ⟨G, v, l, m, sG, rfl, hd, hm, hl, q⟩ := h
    refine ⟨_, pss_cons (ps_set (i := 2) scRun.nd rfl (.inl rfl) (pe_lst (pa_cons pe_int pa_nil)))
      (pss_cons (ps_for PassesOwn.never rfl (pi_list (pv 0)) (pg_name (i := 3) scRun.nd rfl (Or.inl rfl))
        (pss_one (ps_expr (pe_bm PySem.F.plainAttrs_list PySem.F.slot_list_append PySem.F.type_list_append mt_append (pv 2)
          (pa_cons (pe_op op_add (pe_ix ix_list (pv 2) (pe_un un_neg pe_int) (fun _ _ => rfl)) (pe_ix ix_tup (pv 3) (pv 1) (fun _ _ => rfl))) pa_nil)))))
      (pss_one (ps_ret (pv 2)))), ?_⟩
    obtain ⟨a, xs, rfl, hL, hA⟩ := dp_list hd
    have hx : xs.length = l.length := by rw [dpa_len hA, List.length_map]
    refine ⟨sz1, fun p hp => ?_⟩
    have nG : G p = none := same_none sG hp
    refine ⟨_, rfl, a, rfl, ⟨xs, (sG.trans (same_up hp)).seq hL⟩, for_list (K := K) (a := a) (xs := xs) (fun i σ H' => ∃ y3, σ = [some (.ref a), some (.int m), some (.ref p), y3] ∧ Grow M0 G H G H' ∧ H' p = some (.lst ((pres (col l m) i).map V.int)))
      ⟨none, rfl, grow_loc sG hp, upd_same⟩ (fun i σ H' _ hP => ?_) (fun i x σ H' hi hP => ?_) (fun σ H' hP => ?_)⟩
    · obtain ⟨y3, rfl, g, e⟩ := hP
      exact g.sub.seq hL
    · obtain ⟨y3, rfl, g, e⟩ := hP
      obtain ⟨d0, hd0, hv⟩ := dpa_getV hA hi
      obtain ⟨en, hen, rfl⟩ := get_map hd0
      obtain ⟨b, ys, rfl, hT, hB⟩ := dp_tup hv
      have hys := of_dpa_ints hB
      subst hys
      have hmw : m < en.length := hm en (List.mem_of_getElem? hen)
      refine ⟨.ref p, rfl, .inl ⟨rfl, _, SqL.of e⟩, .ref p, rfl, 1, rfl, p, _, -1, _, rfl, rfl, SqL.of e, pres_at_last _ _, .ref b, rfl, .int m, rfl, b, _, m, _, rfl, rfl, Same.tup g.sub hT, atI_nat (getD_get hmw), _, _, rfl, rfl, p, _, _, rfl, rfl, e, ?_, ?_⟩
      · rw [List.length_map, pres_len]
        exact szl (by have := (List.getElem?_eq_some_iff.mp hi).1; omega)
      · refine ⟨_, rfl, g.mut hp nG, ?_⟩
        rw [upd_same, pres_succ, psum_succ (col_get hen), List.map_append]
        rfl
    · obtain ⟨y3, rfl, g, e⟩ := hP
      rw [hx] at e
      refine ⟨_, rfl, q _ _ _ (g.abs hp nG e) (dp_lst upd_same (dpa_ints _))⟩
end
end Tw
end
section
set_option maxHeartbeats 4000000
namespace Tw
open PySem PySem.Spec PyProof.Rows L2
open Tf (difs difs_len)
section
variable {M : Addr → Prop} {K : PySem.W.Frag} {G H : Hp} {D : Addr}
/-- as lc_pure, the new list not yet in the view -/
theorem lc_loc {It0 : It} {n : Nat} {Gd : Hp → Prop} {Y : Nat → Hp → V → Hp → Prop} (w : Walk It0 n Gd Y) {g : TG} {te : TE} {vs : List Nat} {σ : L2.St} {Q : VK} (T : List PyData)
    (s : Same G H) (hD : H D = none) (hT : T.length = n) (hn : n < 100000) (hgd : ∀ G1 H1, Grow M0 G H G1 H1 → Gd H1)
    (turn : ∀ i x G1 H1 H1' d, T[i]? = some d → Grow M0 G H G1 H1 → Y i H1 x H1' → ∀ E : V → Hp → Prop, (∀ y G4 H4, Grow M0 G1 H1 G4 H4 → Dp K G4 y d → E y H4) → g x (wipe σ vs) H1' fun σ2 H2 => wipe σ2 vs = wipe σ vs ∧ te σ2 H2 E)
    (done : ∀ G' H' acc, Grow M0 G H G' H' → G' D = none → H' D = some (.lst acc) → DpAll K G' acc T → Q (.ref D) H') (gm : GM g) :
    ∃ W : Nat → Nat → Hp → Prop, (∃ m, W 0 m (upd H D (.lst []))) ∧ ∀ i m H, W i m H →
      (It0.stop i H ∧ Q (.ref D) H) ∨ (It0.go i H ∧ ∃ Nx : Hp → Prop, (∀ H', Nx H' → ∃ m', m' < m ∧ W (i + 1) m' H') ∧ ∀ x H', It0.yld i H x H' → g x (wipe σ vs) H' fun σ2 H2 => wipe σ2 vs = wipe σ vs ∧ tYes σ2 H2 fun b H3 =>
        if b = true then te σ2 H3 fun y H4 => ∃ acc, H4 D = some (.lst acc) ∧ acc.length < sizeLine ∧ Nx (upd H4 D (.lst (acc ++ [y]))) else Nx H3) := by
  refine lc_it w (Made M0 K G H D (fun j d => T[j]? = some d) (fun _ => True)) (Made.start s hD trivial) (fun i H' _ p => ?_) (fun i x H1 H1' hi p y => ?_) (fun H' p => ?_)
  · obtain ⟨G1, acc, ds, g1, gn, e, a, l, r⟩ := p.ex
    exact hgd G1 H' g1
  · obtain ⟨G1, acc, ds, g1, gn, e, a, l, r⟩ := p.ex
    have hi' : i < T.length := by omega
    refine gm _ _ _ _ _ (fun σ2 H2 h => ?_) (turn i x G1 H1 H1' T[i] (List.getElem?_eq_getElem hi') g1 y (fun y H4 => ∃ acc, H4 D = some (.lst acc) ∧ acc.length < sizeLine ∧ Made M0 K G H D (fun j d => T[j]? = some d) (fun _ => True) (i + 1) (upd H4 D (.lst (acc ++ [y])))) fun y G4 H4 g4 hy =>
      Made.next g1 hD gn e a l r g4 (fun z => z) hy (List.getElem?_eq_getElem hi') (by omega) trivial)
    refine ⟨h.1, ?_⟩
    dsimp only [tYes]
    rw [if_pos rfl]
    exact h.2
  · obtain ⟨G', acc, ds, g', gn, e, a, l, r⟩ := p.ex
    have e2 : ds = T := list_of_get (l.trans hT.symm) r
    rw [e2] at a
    exact done G' H' acc g' gn e a
/-- a list is a list, a tuple is a tuple -/
theorem tyx_tup {a : Addr} {xs : List V} (h : SqT K H a xs) : TyX K H (.ref a) (.type "tuple") := by
  rcases h with (h | ⟨o, h⟩) | ⟨o, its, n, h, c, _⟩
  · exact .base (.tup h)
  · exact .fTuple h
  · exact .kTuple h c
theorem tyx_lst {a : Addr} {xs : List V} (h : SqL K H a xs) : TyX K H (.ref a) (.type "list") := by
  rcases h with (h | ⟨o, h⟩) | ⟨o, its, n, h, c, _⟩
  · exact .base (.lst h)
  · exact .base (.frz h)
  · exact .kList h c
theorem cut1 (xs : List V) : cutV xs (some 1) none = xs.drop 1 := by
  unfold cutV
  rw [show HT.sIx xs.length 0 (some 1) = min 1 xs.length from HT.sIx_nat xs.length 0 1, HT.sIx_none]
  cases xs with
  | nil => rfl
  | cons x r =>
    rw [show min 1 (x :: r).length = 1 by
      rw [List.length_cons]
      omega]
    show (List.take ((x :: r).length - 1) r) = r
    rw [List.length_cons, Nat.add_sub_cancel]
    exact List.take_length
end
section
variable {P : Program} {w : World} {K : PySem.W.Frag} {mg : Str → Option Value} {base : Heap}
/-! ### is_count -/
abbrev sCount : Stmt := topS 10
theorem scCount : FnScope ["thing", "size", "held"] ["thing", "size"] (defScope sCount) := ⟨rfl, rfl, rfl, by decide +kernel, rfl, by decide +kernel, by decide +kernel⟩
def spCount (K : PySem.W.Frag) : Sp := fun vs H Q _ => ∃ (G : Hp) (v : V) (ns : List Nat) (k : Nat), Same G H ∧ vs = [v, .int k] ∧ Dp K G v (.tuple (ns.map fun (n : Nat) => PyData.int n)) ∧ ns.length = k ∧ k < 100 ∧ Gv K G H (.bool true) Q
theorem ok_count (D : Def K mg "is_count" sCount ["thing", "size"]) (CI : Cal P w K mg base 1 "is_integer" ["thing"] spIsInt) (z1 : mg "isinstance" = none) (z2 : mg "tuple" = none) (z3 : mg "len" = none) (z4 : mg "all" = none) :
    Cal P w K mg base 2 "is_count" ["thing", "size"] (spCount K) := by
  refine D.ok scCount (fun vs H Q E h => ?_) (fun f cdv A outer s H vs Q E hr h => ?_)
  · obtain ⟨G, v, l, m, _, rfl, _⟩ := h
    rfl
  · obtain ⟨G, v, ns, k, sG, rfl, hd, hk, hl, q⟩ := h
    refine ⟨_, pss_cons (ps_if (PW.pt (pw_or (pt_not (pt_val (pe_callB call_isi (by rfl) z1 (by decide +kernel) (pa_cons (pv 0) (pa_cons (pe_bltn (v := .ty "tuple") (u := .type "tuple") (by rfl) z2 (by decide +kernel) rfl) pa_nil)))))
        (pw_or1 (pt_cmpR op_ne (pe_callB call_len_seq (by rfl) z3 PySem.boot_len (pa_cons (pv 0) pa_nil)) (pv 1) (nomark _))))) (pss_one (ps_ret pe_bl)) pss_nil)
      (pss_one (ps_ret (pe_callB (cr_all rfl) (by rfl) z4 (by decide +kernel) (pa_cons (pe_lc (own := [("held", 2)]) (g := gName 2) (tt := tYes) rfl scCount.nd (pi_tup (pv 0)) (blkOk_by (N := ["thing", "size", "held"]) (sc := defScope sCount) (by decide +kernel))
        (fun _ _ _ _ _ => pg_name (i := 2) scCount.nd rfl (Or.inl rfl)) (fun _ _ _ _ _ => pts_nil) (fun _ _ _ _ _ => pe_and (pe_cal CI (hr.mono (by decide)) (by rfl) (pa_cons (pv 2) pa_nil)) (pe_one (pe_cmpR op_ge (pv 2) pe_int (nomark _))))) pa_nil)))), ?_⟩
    obtain ⟨a, xs, rfl, hT, hA⟩ := dp_tup hd
    have hx : xs.length = k := by rw [dpa_len hA, List.length_map, hk]
    refine ⟨_, rfl, _, _, _, _, true, rfl, .ty "tuple", tyx_tup (Same.tup sG hT), kit_ty (by decide +kernel), true, rfl, iteF ?_⟩
    refine ⟨_, rfl, a, xs, rfl, .inr (Same.tup sG hT), _, rfl, rfl, _, rfl, ?_⟩
    rw [hx, decide_eq_true rfl]
    refine iteF ?_
    refine ⟨_, rfl, a, rfl, ⟨xs, Same.tup sG hT⟩, fun Dl hDl => lc_loc (K := K) (Q := fun x H1 => rAll K [x] H1 Q) walk_tup (ns.map fun _ => PyData.bool true) sG hDl (by simp [hx, hk]) (by omega) (fun G1 H1 g => Same.tup g.sub (Same.tup g.gg hT)) (fun i x G1 H1 H1' d hi g1 y E hE => ?_) (fun G' H' acc g' gn e hacc => ?_) gm_name⟩
    · obtain ⟨rfl, hxi⟩ := y
      obtain ⟨d0, hd0, hv⟩ := dpa_getV hA hxi
      obtain ⟨n, hn, rfl⟩ := get_map hd0
      obtain ⟨z, hz, rfl⟩ := get_map hi
      have ex := dp_int hv
      subst ex
      refine ⟨rfl, ?_⟩
      refine ⟨_, rfl, _, rfl, true, rfl, iteT ?_⟩
      refine ⟨_, rfl, _, _, rfl, rfl, ?_⟩
      show E (V.bl (decide ((0 : Int) ≤ (n : Int)))) H1'
      rw [decide_eq_true (show (0 : Int) ≤ (n : Int) by omega)]
      exact hE _ _ _ (Grow.refl g1.sub) (.bl true)
    · have e2 : acc = (ns.map fun _ => true).map V.bl := by
        have aux : ∀ (ns : List Nat) (acc : List V), DpAll K G' acc (ns.map fun _ => PyData.bool true) → acc = (ns.map fun _ => true).map V.bl := by
          intro ns
          induction ns with
          | nil => intro acc h; cases h; rfl
          | cons n ns ih =>
            intro acc h
            cases h with
            | cons h1 h2 =>
              rw [dp_bl h1, ih _ h2]
              rfl
        exact aux ns acc hacc
      refine ⟨Dl, ns.map fun _ => true, rfl, by rw [← e2]; exact SqL.of e, ?_⟩
      have e3 : (ns.map fun _ => true).all id = true := by simp
      rw [e3]
      exact q _ _ _ g' (.bl true)
/-! ### sizes_of -/
abbrev sSizesOf : Stmt := topS 21
theorem scSizesOf : FnScope ["totals", "earlier", "later"] ["totals"] (defScope sSizesOf) := ⟨rfl, rfl, rfl, by decide +kernel, rfl, by decide +kernel, by decide +kernel⟩
def spSizesOf (K : PySem.W.Frag) : Sp := fun vs H Q _ => ∃ (G : Hp) (v : V) (ts : List Int), Same G H ∧ vs = [v] ∧ Dp K G v (.list (ts.map PyData.int)) ∧ ts.length < 1000 ∧ ∀ p G' H', Grow M0 G H G' H' → H p = none → G' p = none → H' p = some (.lst ((difs ts).map V.int)) → Q (.ref p) H'
theorem ok_sizesOf (D : Def K mg "sizes_of" sSizesOf ["totals"]) (z1 : mg "zip" = none) : Cal P w K mg base 1 "sizes_of" ["totals"] (spSizesOf K) := by
  refine D.ok scSizesOf (fun vs H Q E h => ?_) (fun f cdv A outer s H vs Q E hr h => ?_)
  · obtain ⟨G, v, l, _, rfl, _⟩ := h
    rfl
  · obtain ⟨G, v, ts, sG, rfl, hd, hl, q⟩ := h
    refine ⟨_, pss_one (ps_ret (pe_lc (own := [("earlier", 1), ("later", 2)]) (g := gTup K 2 (gCons (gName 1) (gCons (gName 2) gNil))) (tt := tYes) rfl scSizesOf.nd (pi_zip (by rfl) z1 (pa_cons (pv 0) (pa_cons (pe_slice sl_list (pv 0) (po_some pe_int) po_none) pa_nil)))
      (blkOk_by (N := ["totals", "earlier", "later"]) (sc := defScope sSizesOf) (by decide +kernel))
      (fun _ _ _ _ _ => pg_tup rfl (pgs_cons (pg_name (i := 1) scSizesOf.nd rfl (Or.inl rfl)) (pgs_cons (pg_name (i := 2) scSizesOf.nd rfl (Or.inl rfl)) pgs_nil)))
      (fun _ _ _ _ _ => pts_nil) (fun _ _ _ _ _ => pe_op op_sub (pv 2) (pv 1)))), ?_⟩
    obtain ⟨a, xs, rfl, hL, hA⟩ := dp_list hd
    have ex := of_dpa_ints hA
    subst ex
    refine ⟨_, rfl, .ref a, rfl, 1, rfl, a, ts.map V.int, rfl, sG.seq hL, fun c nc => ?_⟩
    rw [cut1]
    have g0 : Grow M0 G H (upd G c (.lst ((ts.map V.int).drop 1))) (upd H c (.lst ((ts.map V.int).drop 1))) := grow_new sG nc
    refine ⟨a, c, ts.map V.int, _, rfl, g0.sub.seq (g0.gg.seq hL), SqL.of upd_same, fun Dl hDl => ?_⟩
    refine lc_loc (K := K) (walk_zip (n := ts.length - 1) (xs := ts.map V.int) (ys := (ts.map V.int).drop 1) (by simp)) ((difs ts).map PyData.int) g0.sub hDl (by rw [List.length_map, difs_len]) (by omega)
      (fun G1 H1 g => ⟨g.sub.seq (g.gg.seq (g0.gg.seq hL)), g.sub.seq (g.gg.seq (SqL.of upd_same))⟩) (fun i x G1 H1 H1' d hi g1 y E hE => ?_) (fun G' H' acc g' gn e hacc => ?_) (gm_tup (gms_cons gm_name (gms_cons gm_name gms_nil)))
    · obtain ⟨T, x1, x2, rfl, nT, rfl, f1, f2⟩ := y
      have f1 : (ts.map V.int)[i]? = some x1 := f1
      have f2 : ((ts.map V.int).drop 1)[i]? = some x2 := f2
      obtain ⟨z, hz, rfl⟩ := get_map hi
      unfold difs at hz
      obtain ⟨j, hj, rfl⟩ := get_map hz
      have hlt : i < ts.length - 1 := by
        have h1 := (List.getElem?_eq_some_iff.mp hj).1
        rw [List.length_range] at h1
        exact h1
      have ej : j = i := by
        rw [List.getElem?_range hlt] at hj
        exact (Option.some.inj hj).symm
      subst ej
      have e1 : x1 = .int (ts.getD j 0) := by
        have h1 : (ts.map V.int)[j]? = some (.int (ts.getD j 0)) := getD_get (by omega)
        rw [h1] at f1
        exact (Option.some.inj f1).symm
      have e2 : x2 = .int (ts.getD (j + 1) 0) := by
        have h1 : (ts.map V.int)[j + 1]? = some (.int (ts.getD (j + 1) 0)) := getD_get (by omega)
        rw [List.getElem?_drop, Nat.add_comm 1 j, h1] at f2
        exact (Option.some.inj f2).symm
      subst e1 e2
      refine ⟨T, _, rfl, SqT.of upd_same, rfl, _, _, rfl, _, _, rfl, rfl, rfl, ?_⟩
      refine ⟨_, rfl, _, rfl, _, _, rfl, rfl, ?_⟩
      exact hE _ _ _ (grow_new g1.sub nT) (.int _)
    · have e1 := of_dpa_ints hacc
      rw [e1] at e
      exact q Dl G' H' (g0.trans g') (g0.back hDl) gn e
end
end Tw
end
section
set_option maxHeartbeats 8000000
namespace Tw
open PySem PySem.Spec PyProof.Rows L2
/-! ### labels as data -/
def dOI : Option Int → PyData
  | none => .none
  | some x => .int x
def dOE : Option Tf.Ed → PyData
  | none => .none
  | some x => dEd x
def dON : Option Nat → PyData
  | none => .none
  | some x => .int x
def vOI : Option Int → V
  | none => .non
  | some x => .int x
def vON : Option Nat → V
  | none => .non
  | some x => .int x
theorem dpa_oi {K : PySem.W.Frag} {H : Hp} : ∀ d : Tf.Ds, DpAll K H (d.map vOI) (d.map dOI)
  | [] => .nil
  | none :: d => .cons .non (dpa_oi d)
  | some x :: d => .cons (.int x) (dpa_oi d)
theorem of_dpa_oi {K : PySem.W.Frag} {H : Hp} : ∀ {d : Tf.Ds} {vs : List V}, DpAll K H vs (d.map dOI) → vs = d.map vOI
  | [], _, h => by cases h; rfl
  | o :: d, _, h => by
    cases h with
    | cons h t =>
      rw [of_dpa_oi t]
      cases o with
      | none => rw [dp_non h]; rfl
      | some x => rw [dp_int h]; rfl
theorem dp_on {K : PySem.W.Frag} {H : Hp} (o : Option Nat) : Dp K H (vON o) (dON o) := by
  cases o with
  | none => exact .non
  | some x => exact .int _
theorem flat_rep {α : Type} (x : α) : ∀ n : Nat, (List.replicate n [x]).flatten = List.replicate n x
  | 0 => rfl
  | n + 1 => by
    rw [List.replicate_succ, List.replicate_succ, List.flatten_cons, flat_rep x n]
    rfl
theorem rep_nones {K : PySem.W.Frag} {H : Hp} : ∀ n : Nat, DpAll K H (List.replicate n V.non) ((List.replicate n (none : Option Tf.Ed)).map dOE)
  | 0 => .nil
  | n + 1 => by
    rw [List.replicate_succ, List.replicate_succ]
    exact .cons .non (rep_nones n)
theorem take_fold {α β : Type} {f : β → α → β} {xs : List α} {i : Nat} {x : α} {b : β} (h : xs[i]? = some x) : (xs.take (i + 1)).foldl f b = f ((xs.take i).foldl f b) x := by
  rw [List.take_add_one, h, List.foldl_append]
  rfl
theorem getOI {d : Tf.Ds} {i : Nat} (h : i < d.length) : (d.map vOI)[i]? = some (vOI (Tf.at_ d i)) := by
  rw [List.getElem?_map, List.getElem?_eq_getElem h]
  unfold Tf.at_
  rw [List.getElem?_eq_getElem h]
  rfl
theorem ixN_nat {n i : Nat} (h : i < n) : ixN n (i : Int) = some i := by
  unfold ixN
  rw [if_pos (by omega), if_pos (by omega)]
  simp
section
variable {P : Program} {w : World} {K : PySem.W.Frag} {mg : Str → Option Value} {base : Heap}
/-! ### relaxed -/
abbrev sRel : Stmt := topS 18
abbrev nRel : List Str := ["edges", "many", "origin", "distances", "lasts", "changed", "k", "edge", "start", "end", "more", "fact"]
theorem scRel : FnScope nRel ["edges", "many", "origin"] (defScope sRel) := ⟨rfl, rfl, rfl, by decide +kernel, rfl, by decide +kernel, by decide +kernel⟩
def dRel (t : Tf.S) : PyData := .tuple [.list (t.d.map dOI), .list (t.l.map dOE), dON t.c]
def spRel (K : PySem.W.Frag) : Sp := fun vs H Q _ => ∃ (G : Hp) (v : V) (es : List Tf.Ed) (n o : Nat), Same G H ∧ vs = [v, .int n, .int o] ∧ Dp K G v (.list (es.map dEd)) ∧ Tf.In es n ∧ o < n ∧ n < 1000 ∧ es.length < 100000 ∧ Gv K G H (dRel (Tf.relax es n o)) Q
/-- the two lists of labels stand -/
structure RelAt (K : PySem.W.Frag) (G H : Hp) (p q : Addr) (n : Nat) (t : Tf.S) (H' : Hp) : Prop where
  g : Grow M0 G H G H'
  ep : H' p = some (.lst (t.d.map vOI))
  eq : ∃ ls, H' q = some (.lst ls) ∧ DpAll K G ls (t.l.map dOE)
  ld : t.d.length = n
  ll : t.l.length = n
theorem ok_rel (D : Def K mg "relaxed" sRel ["edges", "many", "origin"]) (z_range : mg "range" = none) : Cal P w K mg base 1 "relaxed" ["edges", "many", "origin"] (spRel K) := by
  refine D.ok scRel (fun vs H Q E h => ?_) (fun f cdv A outer s H vs Q E hr h => ?_)
  · obtain ⟨G, v, es, n, o, _, rfl, _⟩ := h
    rfl
  · obtain ⟨G, v, es, n, o, sG, rfl, hd, hin, ho, hn, hl, k⟩ := h
    refine ⟨_, (pss_cons (ps_par (i := 3) (j := 4) rfl scRel.nd rfl rfl (by decide) rfl rfl (pa_cons (pe_op op_rep (pe_lst (pa_cons pe_non pa_nil)) (pv 1)) (pa_cons (pe_op op_rep (pe_lst (pa_cons pe_non pa_nil)) (pv 1)) pa_nil)) (by rfl))
  (pss_cons (ps_asg pe_int (pg_sub (pv 3) (pv 2) set_list))
  (pss_cons (ps_set (i := 5) scRel.nd rfl (.inl rfl) pe_non)
  (pss_cons (ps_for PassesOwn.never rfl (pi_range1 (by rfl) z_range (pa_cons (pe_op op_add (pv 1) pe_int) pa_nil)) (pg_name (i := 6) scRel.nd rfl (.inl rfl))
  (pss_cons (ps_set (i := 5) scRel.nd rfl (.inl rfl) pe_non)
  (pss_cons (ps_for PassesOwn.never rfl (pi_list (pv 0)) (pg_name (i := 7) scRel.nd rfl (.inl rfl))
  (pss_cons (ps_asg (pv 7) (pg_tup rfl (pgs_cons (pg_name (i := 8) scRel.nd rfl (.inl rfl)) (pgs_cons (pg_name (i := 9) scRel.nd rfl (.inl rfl)) (pgs_cons (pg_name (i := 10) scRel.nd rfl (.inl rfl)) (pgs_cons (pg_name (i := 11) scRel.nd rfl (.inl rfl)) pgs_nil))))))
  (pss_one (ps_if (pt_cmpR op_notN (pe_ix (r := rIxL K) ix_list (pv 3) (pv 8) (fun _ _ => rfl)) pe_non (nomark _))
  (pss_one (ps_if (PW.pt (pw_or (pt_cmpR op_isN (pe_ix (r := rIxL K) ix_list (pv 3) (pv 9) (fun _ _ => rfl)) pe_non (nomark _)) (pw_or1 (pt_cmpR op_lt (pe_op op_add (pe_ix (r := rIxL K) ix_list (pv 3) (pv 8) (fun _ _ => rfl)) (pv 10)) (pe_ix (r := rIxL K) ix_list (pv 3) (pv 9) (fun _ _ => rfl)) (nomark _)))))
  (pss_cons (ps_asg (pe_op op_add (pe_ix (r := rIxL K) ix_list (pv 3) (pv 8) (fun _ _ => rfl)) (pv 10)) (pg_sub (pv 3) (pv 9) set_list))
  (pss_cons (ps_asg (pv 7) (pg_sub (pv 4) (pv 9) set_list))
  (pss_one (ps_set (i := 5) scRel.nd rfl (.inl rfl) (pv 9)))))
  pss_nil))
  pss_nil))))
  (pss_one (ps_if (pt_cmpR op_isN (pv 5) pe_non (nomark _))
  (pss_one (ps_ret (pe_tup (pa_cons (pv 3) (pa_cons (pv 4) (pa_cons pe_non pa_nil))))))
  pss_nil)))))
  (pss_one (ps_ret (pe_tup (pa_cons (pv 3) (pa_cons (pv 4) (pa_cons (pv 5) pa_nil)))))))))), ?_⟩
    obtain ⟨a, xs, rfl, hL, hA⟩ := dp_list hd
    have hx : xs.length = es.length := by rw [dpa_len hA, List.length_map]
    have en : ((n : Int)).toNat = n := by omega
    -- [None] * many, twice
    refine ⟨sz1, fun p1 np1 => ?_⟩
    refine ⟨_, rfl, p1, n, [.non], rfl, rfl, upd_same, by omega, by omega, sz (by rw [en]; show 1 * n ≤ 100000; omega), fun p np => ?_⟩
    rw [en, flat_rep]
    refine ⟨sz1, fun p2 np2 => ?_⟩
    refine ⟨_, rfl, p2, n, [.non], rfl, rfl, upd_same, by omega, by omega, sz (by rw [en]; show 1 * n ≤ 100000; omega), fun q nq => ?_⟩
    rw [en, flat_rep]
    have g1 : Grow M0 G H G (upd (upd H p1 (.lst [.non])) p (.lst (List.replicate n .non))) := (grow_loc sG np1).loc np
    have g3 : Grow M0 G H G (upd (upd (upd H p1 (.lst [.non])) p (.lst (List.replicate n .non))) p2 (.lst [.non])) := g1.loc np2
    have g4 := g3.loc (o := .lst (List.replicate n .non)) nq
    have ep : (upd (upd (upd (upd H p1 (.lst [.non])) p (.lst (List.replicate n .non))) p2 (.lst [.non])) q (.lst (List.replicate n .non))) p = some (.lst (List.replicate n .non)) := by
      rw [upd_ne (ne_nn (by rw [upd_ne (ne_nn (by rw [upd_same]; exact fun z => by cases z) np2), upd_same]; exact fun z => by cases z) nq), upd_ne (ne_nn (by rw [upd_same]; exact fun z => by cases z) np2), upd_same]
    generalize hH4 : upd (upd (upd (upd H p1 (.lst [.non])) p (.lst (List.replicate n .non))) p2 (.lst [.non])) q (.lst (List.replicate n .non)) = H4 at g4 ep ⊢
    have eq : H4 q = some (.lst (List.replicate n .non)) := by rw [← hH4]; exact upd_same
    have hpq : p ≠ q := ne_nn (by rw [upd_ne (ne_nn (by rw [upd_same]; exact fun z => by cases z) np2), upd_same]; exact fun z => by cases z) nq
    have hp : H p = none := (grow_loc (M := M0) sG np1).back np
    have hq : H q = none := g3.back nq
    have gp : G p = none := same_none sG hp
    have gq : G q = none := same_none sG hq
    clear hH4 g1 g3 np nq np1 np2
    refine ⟨_, _, rfl, ?_⟩
    -- distances[origin] = 0; changed = None
    refine ⟨_, rfl, _, rfl, p, _, o, o, rfl, rfl, ep, ixN_nat (by rw [List.length_replicate]; exact ho), ?_⟩
    have r0 : RelAt K G H p q n (Tf.init n o) (upd H4 p (.lst ((List.replicate n V.non).set o (.int 0)))) := by
      refine ⟨g4.mut hp gp, ?_, ⟨List.replicate n .non, by rw [upd_ne hpq.symm]; exact eq, rep_nones n⟩, by show ((List.replicate n (none : Option Int)).set o (some 0)).length = n; rw [List.length_set, List.length_replicate], by show (List.replicate n (none : Option Tf.Ed)).length = n; rw [List.length_replicate]⟩
      rw [upd_same]
      show some (HO.lst ((List.replicate n V.non).set o (.int 0))) = some (.lst (((List.replicate n (none : Option Int)).set o (some 0)).map vOI))
      rw [List.map_set, List.map_replicate]
      rfl
    have fin : ∀ (t : Tf.S) (H' : Hp), RelAt K G H p q n t H' → Tf.relax es n o = t → ∀ p3, H' p3 = none → Q (.ref p3) (upd H' p3 (.tup [.ref p, .ref q, vON t.c])) := fun t H' r e p3 np3 => by
      obtain ⟨ls, e2, a2⟩ := r.eq
      have gq' : (upd G p (.lst (t.d.map vOI))) q = none := by rw [upd_ne hpq.symm]; exact gq
      have g5 := ((r.g.abs hp gp r.ep).abs hq gq' e2).lay (o := .tup [.ref p, .ref q, vON t.c]) np3
      have n3 : (upd (upd G p (.lst (t.d.map vOI))) q (.lst ls)) p3 = none := same_none ((r.g.abs hp gp r.ep).abs hq gq' e2).sub np3
      have n2 : (upd G p (.lst (t.d.map vOI))) p3 = none := by
        have h1 := n3
        rw [upd_ne (fun z => by rw [z, upd_same] at h1; cases h1)] at h1
        exact h1
      refine k _ _ _ g5 ?_
      rw [e]
      refine dp_tpl upd_same (.cons (dp_lst (xs := t.d.map vOI) ?_ (dpa_oi _)) (.cons (dp_lst (xs := ls) ?_ (dpa_mono ?_ a2)) (.cons (dp_on _) .nil)))
      · rw [upd_ne (ne_of_none r.ep np3), upd_ne hpq, upd_same]
      · rw [upd_ne (ne_of_none e2 np3), upd_same]
      · exact (same_up gp).trans ((same_up gq').trans (same_up n3))
    -- the rounds
    refine ⟨_, rfl, _, _, rfl, rfl, _, rfl, by omega, by omega, ?_⟩
    have en1 : ((n : Int) + 1).toNat = n + 1 := by omega
    rw [en1]
    refine for_range (lo := 0) (n := n + 1) (fun i σ H' => ∃ (t : Tf.S) (y6 y7 y8 y9 y10 y11 : Option V), σ = [some (.ref a), some (.int n), some (.int o), some (.ref p), some (.ref q), some (vON t.c), y6, y7, y8, y9, y10, y11] ∧ RelAt K G H p q n t H' ∧
        Tf.relax es n o = Tf.rounds es (n + 1 - i) t) ⟨Tf.init n o, none, none, none, none, none, none, rfl, r0, rfl⟩ ?_ ?_
    · rintro i σ H1 hi ⟨t, y6, y7, y8, y9, y10, y11, rfl, r1, e1⟩
      -- changed = None; for edge in edges
      refine ⟨_, rfl, a, rfl, ⟨xs, r1.g.sub.seq hL⟩, for_list (K := K) (a := a) (xs := xs) (fun j σ H' => ∃ (y7 y8 y9 y10 y11 : Option V), σ = [some (.ref a), some (.int n), some (.int o), some (.ref p), some (.ref q), some (vON ((es.take j).foldl Tf.stepE ⟨t.d, t.l, none⟩).c), some (.int (0 + (i : Int))), y7, y8, y9, y10, y11] ∧
          RelAt K G H p q n ((es.take j).foldl Tf.stepE ⟨t.d, t.l, none⟩) H') ⟨y7, y8, y9, y10, y11, rfl, ⟨r1.g, r1.ep, r1.eq, r1.ld, r1.ll⟩⟩ (fun j σ H' _ hP => ?_) (fun j x σ H' hj hP => ?_) (fun σ H' hP => ?_)⟩
      · obtain ⟨_, _, _, _, _, _, r2⟩ := hP
        exact r2.g.sub.seq hL
      · obtain ⟨y7, y8, y9, y10, y11, rfl, r2⟩ := hP
        obtain ⟨d0, hd0, hv⟩ := dpa_getV hA hj
        obtain ⟨ed, hed, rfl⟩ := get_map hd0
        have hmem : ed ∈ es := List.mem_of_getElem? hed
        obtain ⟨hs, he⟩ := hin ed hmem
        obtain ⟨b, fv, rfl, hT, hF⟩ := dp_ed hv
        rw [take_fold hed]
        generalize (es.take j).foldl Tf.stepE ⟨t.d, t.l, none⟩ = u at r2 ⊢
        have hsl : ed.s < u.d.length := by rw [r2.ld]; exact hs
        have hel : ed.e < u.d.length := by rw [r2.ld]; exact he
        have hsV := getOI hsl
        have heV := getOI hel
        have same : ∀ (h : Tf.better u.d ed = false), ∃ (y7 y8 y9 y10 y11 : Option V), [some (V.ref a), some (.int n), some (.int o), some (.ref p), some (.ref q), some (vON u.c), some (.int (0 + (i : Int))), some (.ref b), some (.int ed.s), some (.int ed.e), some (.int ed.m), some fv] =
            [some (.ref a), some (.int n), some (.int o), some (.ref p), some (.ref q), some (vON (Tf.stepE u ed).c), some (.int (0 + (i : Int))), y7, y8, y9, y10, y11] ∧ RelAt K G H p q n (Tf.stepE u ed) H' := fun h => by
          rw [Tf.step_no h]
          exact ⟨_, _, _, _, _, rfl, r2⟩
        refine ⟨_, rfl, b, _, rfl, Same.tup r2.g.sub hT, rfl, _, _, rfl, _, _, rfl, _, _, rfl, _, _, rfl, rfl, ?_⟩
        -- if distances[start] is not None
        refine ⟨_, rfl, _, rfl, p, _, ed.s, _, rfl, rfl, SqL.of r2.ep, atI_nat hsV, rfl, _, rfl, ?_⟩
        cases hcs : Tf.at_ u.d ed.s with
        | none =>
          refine iteF ?_
          refine same ?_
          cases hb : Tf.better u.d ed with
          | false => rfl
          | true =>
            obtain ⟨c, hc, _⟩ := Tf.better_iff.mp hb
            rw [hcs] at hc
            cases hc
        | some c =>
          refine iteT ?_
          rw [hcs] at hsV
          -- distances[end] is None or ..
          refine ⟨_, rfl, _, rfl, p, _, ed.e, _, rfl, rfl, SqL.of r2.ep, atI_nat heV, rfl, _, rfl, ?_⟩
          have yes : ∀ (h : Tf.better u.d ed = true), (tSeq (tAsg (tOp (rI0 fun i j => V.int (i + j)) (tOp (rIxL K) (tVar 3) (tVar 8)) (tVar 10)) (gSub (tVar 3) (tVar 9) rSetL)) (tSeq (tAsg (tVar 7) (gSub (tVar 4) (tVar 9) rSetL)) (tAsg (tVar 9) (gName 5))))
              { nx := fun σ H' => ∃ (y7 y8 y9 y10 y11 : Option V), σ = [some (.ref a), some (.int n), some (.int o), some (.ref p), some (.ref q), some (vON (Tf.stepE u ed).c), some (.int (0 + (i : Int))), y7, y8, y9, y10, y11] ∧ RelAt K G H p q n (Tf.stepE u ed) H', rt := Q }
              [some (V.ref a), some (.int n), some (.int o), some (.ref p), some (.ref q), some (vON u.c), some (.int (0 + (i : Int))), some (.ref b), some (.int ed.s), some (.int ed.e), some (.int ed.m), some fv] H' := fun h => by
            obtain ⟨ls, e2, a2⟩ := r2.eq
            have hlq : ls.length = n := by rw [dpa_len a2, List.length_map, r2.ll]
            refine ⟨_, rfl, _, rfl, p, _, ed.s, _, rfl, rfl, SqL.of r2.ep, atI_nat hsV, _, rfl, c, _, rfl, rfl, _, rfl, _, rfl, p, _, ed.e, ed.e, rfl, rfl, r2.ep, ixN_nat (by rw [List.length_map]; exact hel), ?_⟩
            refine ⟨_, rfl, _, rfl, _, rfl, q, ls, ed.e, ed.e, rfl, rfl, by rw [upd_ne hpq.symm]; exact e2, ixN_nat (by rw [hlq]; exact he), ?_⟩
            refine ⟨_, rfl, ?_⟩
            rw [Tf.step_yes h hcs]
            refine ⟨_, _, _, _, _, rfl, (r2.g.mut hp gp).mut hq gq, ?_, ⟨ls.set ed.e (.ref b), upd_same, ?_⟩, by show (u.d.set _ _).length = n; rw [List.length_set]; exact r2.ld, by show (u.l.set _ _).length = n; rw [List.length_set]; exact r2.ll⟩
            · rw [upd_ne hpq, upd_same]
              show _ = some (HO.lst ((u.d.set ed.e (some (c + ed.m))).map vOI))
              rw [List.map_set]
              rfl
            · show DpAll K G _ ((u.l.set ed.e (some ed)).map dOE)
              rw [List.map_set]
              exact dpa_set hv ed.e a2
          cases hce : Tf.at_ u.d ed.e with
          | none =>
            refine iteT (iteT ?_)
            exact yes (Tf.better_iff.mpr ⟨c, hcs, fun y h => by rw [hce] at h; cases h⟩)
          | some y =>
            refine iteF ?_
            rw [hce] at heV
            refine ⟨_, rfl, _, rfl, p, _, ed.s, _, rfl, rfl, SqL.of r2.ep, atI_nat hsV, _, rfl, c, _, rfl, rfl, _, rfl, _, rfl, p, _, ed.e, _, rfl, rfl, SqL.of r2.ep, atI_nat heV, c + ed.m, y, rfl, rfl, _, rfl, ?_⟩
            by_cases hlt : c + ed.m < y
            · rw [decide_eq_true hlt]
              refine iteT ?_
              exact yes (Tf.better_iff.mpr ⟨c, hcs, fun y' h => by rw [hce] at h; cases h; exact hlt⟩)
            · rw [decide_eq_false hlt]
              refine iteF ?_
              refine same ?_
              cases hb : Tf.better u.d ed with
              | false => rfl
              | true =>
                obtain ⟨c', hc', hl'⟩ := Tf.better_iff.mp hb
                rw [hcs] at hc'
                cases hc'
                exact absurd (hl' y hce) hlt
      · obtain ⟨y7, y8, y9, y10, y11, rfl, r2⟩ := hP
        have et : es.take xs.length = es := List.take_of_length_le (by omega)
        rw [et] at r2 ⊢
        rw [show es.foldl Tf.stepE ⟨t.d, t.l, none⟩ = Tf.round es t.d t.l from rfl]
        -- if changed is None
        have e2 : Tf.rounds es (n + 1 - i) t = if (Tf.round es t.d t.l).c = none then Tf.round es t.d t.l else Tf.rounds es (n + 1 - (i + 1)) (Tf.round es t.d t.l) := by
          have e3 : n + 1 - i = (n + 1 - (i + 1)) + 1 := by omega
          rw [e3]
          rfl
        change RelAt K G H p q n (Tf.round es t.d t.l) H' at r2
        refine ⟨_, rfl, rfl, _, rfl, ?_⟩
        cases hc : (Tf.round es t.d t.l).c with
        | none =>
          refine iteT ?_
          refine ⟨_, rfl, _, rfl, sz3, fun p3 np3 => ?_⟩
          have h1 := fin _ _ r2 (by rw [e1, e2, if_pos hc]) p3 np3
          rw [hc] at h1
          exact h1
        | some c =>
          refine iteF ?_
          refine ⟨Tf.round es t.d t.l, some (.int (0 + (i : Int))), y7, y8, y9, y10, y11, by rw [hc], r2, ?_⟩
          rw [e1, e2, if_neg (by rw [hc]; exact fun z => by cases z)]
    · rintro σ H' ⟨t, y6, y7, y8, y9, y10, y11, rfl, r1, e1⟩
      have e2 : n + 1 - (n + 1) = 0 := by omega
      rw [e2] at e1
      exact ⟨_, rfl, _, rfl, _, rfl, sz3, fin t H' r1 e1⟩
end
end Tw
end
section
set_option maxHeartbeats 8000000
namespace Tw
open PySem PySem.Spec PyProof.Rows L2
open Tf (bEs lts)
section
variable {P : Program} {w : World} {K : PySem.W.Frag} {mg : Str → Option Value} {base : Heap}
/-! ### walk_to -/
abbrev sWalk : Stmt := topS 24
abbrev nWalk : List Str := ["lasts", "origin", "place", "found", "start", "end", "more", "fact"]
theorem scWalk : FnScope nWalk ["lasts", "origin", "place"] (defScope sWalk) := ⟨rfl, rfl, rfl, by decide +kernel, rfl, by decide +kernel, by decide +kernel⟩
def spWalk (K : PySem.W.Frag) : Sp := fun vs H Q _ => ∃ (G : Hp) (v : V) (l : Tf.Ls) (o pl k : Nat), Same G H ∧ vs = [v, .int o, .int pl] ∧ Dp K G v (.list (l.map dOE)) ∧ Tf.Ch l o k pl ∧ k < 1000 ∧ ∀ u d G' H', Grow M0 G H G' H' → Dp K G' u d → Q u H'
theorem ok_walk (D : Def K mg "walk_to" sWalk ["lasts", "origin", "place"]) : Cal P w K mg base 1 "walk_to" ["lasts", "origin", "place"] (spWalk K) := by
  refine D.ok scWalk (fun vs H Q E h => ?_) (fun f cdv A outer s H vs Q E hr h => ?_)
  · obtain ⟨G, v, l, o, pl, k, _, rfl, _⟩ := h
    rfl
  · obtain ⟨G, v, l, o, pl, k, sG, rfl, hd, hch, hk, q⟩ := h
    refine ⟨_, (pss_cons (ps_set (i := 3) scWalk.nd rfl (.inl rfl) (pe_lst pa_nil))
  (pss_cons (ps_while PassesOwn.never (pt_cmpR op_ne (pv 2) (pv 1) (nomark _))
  (pss_cons (ps_asg (pe_ix (r := rIxL K) ix_list (pv 0) (pv 2) (fun _ _ => rfl)) (pg_tup rfl (pgs_cons (pg_name (i := 4) scWalk.nd rfl (.inl rfl)) (pgs_cons (pg_name (i := 5) scWalk.nd rfl (.inl rfl)) (pgs_cons (pg_name (i := 6) scWalk.nd rfl (.inl rfl)) (pgs_cons (pg_name (i := 7) scWalk.nd rfl (.inl rfl)) pgs_nil))))))
  (pss_cons (ps_expr (pe_bm PySem.F.plainAttrs_list PySem.F.slot_list_append PySem.F.type_list_append mt_append (pv 3) (pa_cons (pv 7) pa_nil)))
  (pss_one (ps_set (i := 2) scWalk.nd rfl (.inl rfl) (pv 4))))))
  (pss_one (ps_ret (pe_revL (pv 3)))))), ?_⟩
    obtain ⟨a, xs, rfl, hL, hA⟩ := dp_list hd
    refine ⟨Nat.zero_le _, fun p np => ?_⟩
    have gp : G p = none := same_none sG np
    refine ⟨fun m σ H' => ∃ (pl : Nat) (y4 y5 y6 y7 : Option V) (acc : List V) (ds : List PyData), σ = [some (.ref a), some (.int o), some (.int pl), some (.ref p), y4, y5, y6, y7] ∧ Tf.Ch l o m pl ∧ Grow M0 G H G H' ∧ H' p = some (.lst acc) ∧ DpAll K G acc ds ∧ acc.length + m ≤ k,
      ⟨k, pl, none, none, none, none, [], [], rfl, hch, grow_loc sG np, upd_same, .nil, by simp⟩, ?_⟩
    rintro m σ H1 ⟨pl, y4, y5, y6, y7, acc, ds, rfl, hch, g, e, ha, hm⟩
    refine ⟨_, rfl, _, rfl, rfl, _, rfl, ?_⟩
    cases hch with
    | nil =>
      rw [decide_eq_true rfl]
      refine iteF ?_
      refine ⟨_, rfl, p, acc, rfl, SqL.of e, fun p2 np2 => ?_⟩
      have g2 := (g.abs np gp e).lay (o := .lst acc.reverse) np2
      refine q _ _ _ _ g2 (dp_lst (ds := ds.reverse) upd_same (dpa_rev (dpa_mono ?_ ha)))
      exact (same_up gp).trans (same_up (same_none (g.abs np gp e).sub np2))
    | step hne hat hc =>
      rename_i m x
      rw [decide_eq_false (show ¬ (V.int (pl : Int) = V.int (o : Int)) from fun z => hne (by have := V.int.inj z; omega))]
      refine iteT ?_
      have hl : l[pl]? = some (some x) := Tf.at_some.mp hat
      obtain ⟨ev, hev, hxd⟩ := dpa_get hA (show (l.map dOE)[pl]? = some (dEd x) by rw [List.getElem?_map, hl]; rfl)
      obtain ⟨b, fv, rfl, hT, hF⟩ := dp_ed hxd
      refine ⟨fun σ' H' => ∃ (y4 y5 y6 y7 : Option V), σ' = [some (.ref a), some (.int o), some (.int x.s), some (.ref p), y4, y5, y6, y7] ∧ H' = upd H1 p (.lst (acc ++ [fv])), fun σ' H' hN => ?_, ?_⟩
      · obtain ⟨y4, y5, y6, y7, rfl, rfl⟩ := hN
        exact ⟨m, by omega, x.s, y4, y5, y6, y7, acc ++ [fv], ds ++ [dFa x.f], rfl, hc, g.mut np gp, upd_same, dpa_app ha (dpa_one hF), by simp; omega⟩
      · refine ⟨_, rfl, _, rfl, a, xs, pl, _, rfl, rfl, g.sub.seq hL, atI_nat hev, b, _, rfl, Same.tup g.sub hT, rfl, _, _, rfl, _, _, rfl, _, _, rfl, _, _, rfl, rfl, ?_⟩
        refine ⟨_, rfl, .inl ⟨rfl, _, SqL.of e⟩, _, rfl, p, acc, fv, rfl, rfl, e, szl (by omega), ?_⟩
        exact ⟨_, rfl, _, _, _, _, rfl, rfl⟩
/-! ### least_totals -/
abbrev sLeast : Stmt := topS 20
abbrev nLeast : List Str := ["rows", "many", "distances", "lasts", "changed", "distance"]
theorem scLeast : FnScope nLeast ["rows", "many"] (defScope sLeast) := ⟨rfl, rfl, rfl, by decide +kernel, rfl, by decide +kernel, by decide +kernel⟩
def spLeast (K : PySem.W.Frag) : Sp := fun vs H Q _ => ∃ (G : Hp) (v : V) (fs : List Tf.Fa) (n : Nat), Same G H ∧ vs = [v, .int n] ∧ Dp K G v (.list (fs.map dFa)) ∧ Tf.In (bEs fs) n ∧ 0 < n ∧ n < 1000 ∧ fs.length < 100000 ∧
  (Tf.relax (bEs fs) n 0).c = none ∧ (Tf.relax (bEs fs) n 0).d.length = n ∧ (∀ v, v < n → ∃ x, Tf.at_ (Tf.relax (bEs fs) n 0).d v = some x) ∧ Gv K G H (.tuple [.list ((lts fs n).map PyData.int), .none]) Q
theorem ok_least (D : Def K mg "least_totals" sLeast ["rows", "many"]) (C_edges_of : Cal P w K mg base 2 "edges_of" ["rows"] (spEdges K)) (C_backward : Cal P w K mg base 1 "backward" ["edges"] (spBack K)) (C_relaxed : Cal P w K mg base 1 "relaxed" ["edges", "many", "origin"] (spRel K)) :
    Cal P w K mg base 3 "least_totals" ["rows", "many"] (spLeast K) := by
  refine D.ok scLeast (fun vs H Q E h => ?_) (fun f cdv A outer s H vs Q E hr h => ?_)
  · obtain ⟨G, v, fs, n, _, rfl, _⟩ := h
    rfl
  · obtain ⟨G, v, fs, n, sG, rfl, hd, hin, hn0, hn, hl, hc, hdl, hall, q⟩ := h
    refine ⟨_, (pss_cons (ps_asg (pe_cal C_relaxed (hr.mono (by decide)) (by rfl) (pa_cons (pe_cal C_backward (hr.mono (by decide)) (by rfl) (pa_cons (pe_cal C_edges_of (hr.mono (by decide)) (by rfl) (pa_cons (pv 0) pa_nil)) pa_nil)) (pa_cons (pv 1) (pa_cons pe_int pa_nil)))) (pg_tup rfl (pgs_cons (pg_name (i := 2) scLeast.nd rfl (.inl rfl)) (pgs_cons (pg_name (i := 3) scLeast.nd rfl (.inl rfl)) (pgs_cons (pg_name (i := 4) scLeast.nd rfl (.inl rfl)) pgs_nil)))))
  (pss_cons (ps_if (pt_cmpR op_notN (pv 4) pe_non (nomark _)) pss_never pss_nil)
  (pss_one (ps_ret (pe_tup (pa_cons (pe_lc (own := [("distance", 5)]) (g := (gName 5)) (tt := tYes) rfl scLeast.nd (pi_list (pv 2)) (blkOk_by (N := nLeast) (sc := defScope sLeast) (by decide +kernel)) (fun _ _ _ _ _ => (pg_name (i := 5) scLeast.nd rfl (.inl rfl))) (fun _ _ _ _ _ => pts_nil) (fun _ _ _ _ _ => (pe_un un_neg (pv 5)))) (pa_cons pe_non pa_nil))))))), ?_⟩
    refine ⟨_, rfl, G, v, fs, sG, rfl, hd, hl, fun v1 G1 H1 g1 h1 => ?_⟩
    refine ⟨G1, v1, fs.map Tf.edgeOf, g1.sub, rfl, h1, by rw [List.length_map]; exact hl, fun v2 G2 H2 g2 h2 => ?_⟩
    refine ⟨_, rfl, G2, v2, bEs fs, n, 0, g2.sub, rfl, h2, hin, hn0, hn, by unfold bEs; rw [List.length_map, List.length_map]; exact hl, fun v3 G3 H3 g3 h3 => ?_⟩
    obtain ⟨a, xs, rfl, hT, hA⟩ := dp_tup h3
    cases hA with
    | cons k1 hA =>
    cases hA with
    | cons k2 hA =>
    cases hA with
    | cons k3 hA =>
    cases hA
    rw [hc] at k3
    have e3 := dp_non k3
    subst e3
    refine ⟨a, _, rfl, Same.tup g3.sub hT, rfl, _, _, rfl, _, _, rfl, _, _, rfl, rfl, ?_⟩
    refine ⟨_, rfl, rfl, _, rfl, iteF ?_⟩
    obtain ⟨b, ys, rfl, hL, hB⟩ := dp_list k1
    have hys := of_dpa_oi hB
    refine ⟨_, rfl, b, rfl, ⟨ys, g3.sub.seq hL⟩, fun Dl hDl => lc_pure (K := K) (Q := fun x H1 => tCons (tC .non) tNil _ H1 fun xs H2 => (x :: xs).length ≤ sizeLine ∧ ∀ p, H2 p = none → Q (.ref p) (upd H2 p (.tup (x :: xs)))) walk_list ((lts fs n).map PyData.int) g3.sub hDl
      (by rw [List.length_map]; unfold lts; rw [List.length_map, hys, List.length_map]) (by rw [hys, List.length_map, hdl]; omega) (fun G1 H1 g => g.sub.seq (g.gg.seq hL)) (fun i x G4 H4 H4' d hi g4 y E hE => ?_) (fun G' H' g' hd' => ?_) gm_name⟩
    · obtain ⟨rfl, hxi⟩ := y
      obtain ⟨z, hz, rfl⟩ := get_map hi
      unfold lts at hz
      obtain ⟨o, ho, rfl⟩ := get_map hz
      have hin' : i < n := by
        have := (List.getElem?_eq_some_iff.mp ho).1
        omega
      obtain ⟨x0, hx0⟩ := hall i hin'
      have ho2 := Tf.at_some.mp hx0
      rw [ho2] at ho
      cases ho
      rw [hys, List.getElem?_map, ho2] at hxi
      have ex : x = .int x0 := (Option.some.inj hxi).symm
      subst ex
      refine ⟨rfl, _, rfl, _, rfl, ?_⟩
      exact hE _ _ _ (Grow.refl g4.sub) (.int _)
    · refine ⟨sz2, fun p np => ?_⟩
      refine q _ _ _ (((g1.trans g2).trans g3).trans (g'.lay np)) (dp_tpl upd_same (.cons (dp_mono (same_up (same_none g'.sub np)) hd') (.cons .non .nil)))
end
end Tw
end
section
set_option maxHeartbeats 8000000
/-! list(zip(a, b)) of two lists: a rule of our own (the layer has none). -/
namespace Zl
open PySem PySem.Spec PyProof.Rows L2 PySem.W
theorem zip_no_len : typeLookup (.type "zip") "__len__" = pure none := by rw [typeLookup_type, builtinLookup_eq_fast]; kernel_rfl
theorem zip_no_hint : typeLookup (.type "zip") "__length_hint__" = pure none := by rw [typeLookup_type, builtinLookup_eq_fast]; kernel_rfl
/-- the zip stands at turn i, S apart from all of it -/
structure ZSt (h : Heap) (S z TI TO i1 i2 l1 l2 : Addr) (xs ys : Array Value) (i : Nat) : Prop where
  ti : IsPair h TI (.ref i1) (.ref i2)
  a1 : h.IsListIter i1 l1 i
  a2 : h.IsListIter i2 l2 i
  b1 : h.IsList l1 xs
  b2 : h.IsList l2 ys
  zz : (IsZip h z TI TO .none ∧ ∃ a b, IsPair h TO a b) ∨ ∃ T f oT, IsZipHeld h z TI TO T f ∧ h.get? T = some oT ∧ T ≠ z ∧ T ≠ i1 ∧ T ≠ i2 ∧ T ≠ S
structure Off (S z TI TO i1 i2 l1 l2 : Addr) : Prop where
  z : S ≠ z
  TI : S ≠ TI
  TO : S ≠ TO
  i1 : S ≠ i1
  i2 : S ≠ i2
  l1 : S ≠ l1
  l2 : S ≠ l2
section
variable {prog : Program} {w : World} {A : Around} {E : Value → Shared → Prop} {s : Shared} {S z TI TO i1 i2 l1 l2 : Addr} {xs ys : Array Value} {i n : Nat}
theorem ZSt.keep {h h' : Heap} (x : ZSt h S z TI TO i1 i2 l1 l2 xs ys i) (o : Off S z TI TO i1 i2 l1 l2) (hk : ∀ b u, b ≠ S → h.get? b = some u → h'.get? b = some u) : ZSt h' S z TI TO i1 i2 l1 l2 xs ys i := by
  obtain ⟨ti, a1, a2, b1, b2, zz⟩ := x
  refine ⟨hk _ _ o.TI.symm ti, a1.at fun u e => hk _ u o.i1.symm e, a2.at fun u e => hk _ u o.i2.symm e, b1.at fun u e => hk _ u o.l1.symm e, b2.at fun u e => hk _ u o.l2.symm e, ?_⟩
  rcases zz with ⟨hz, a, b, hTO⟩ | ⟨T, f, oT, hz, hT, r1, r2, r3, r4⟩
  · exact .inl ⟨hk _ _ o.z.symm hz, a, b, hk _ _ o.TO.symm hTO⟩
  · exact .inr ⟨T, f, oT, hk _ _ o.z.symm hz, hk _ _ r4 hT, r1, r2, r3, r4⟩
theorem z_item {x y : Value} {Q : Option Value → Shared → Prop} (D : ZipApart z TI TO i1 i2 l1 l2) (st : ZSt s.heap S z TI TO i1 i2 l1 l2 xs ys i) (hS : S < s.heap.objs.size) (hx : xs[i]? = some x) (hy : ys[i]? = some y)
    (hQ : ∀ h', ZSt h' S z TI TO i1 i2 l1 l2 xs ys (i + 1) → IsPair h' s.heap.objs.size x y → h'.objs.size = s.heap.objs.size + 1 →
      (∀ c o, c ≠ z → c ≠ TO → c ≠ i1 → c ≠ i2 → s.heap.get? c = some o → h'.get? c = some o) → Q (some (.ref s.heap.objs.size)) { s with heap := h' }) : wpAny (model prog w) A (pyNext (.ref z)) Q E s := by
  obtain ⟨hTI, h1, h2, hl1, hl2, hz⟩ := st
  have lt : ∀ {c o}, s.heap.get? c = some o → s.heap.objs.size ≠ c := fun e => Nat.ne_of_gt (Heap.lt_size e)
  have n1 : s.heap.objs.size ≠ i1 := let ⟨_, e, _⟩ := h1; lt e
  have n2 : s.heap.objs.size ≠ i2 := let ⟨_, e, _⟩ := h2; lt e
  rcases hz with ⟨hz, a, b, hTO⟩ | ⟨T, f, oT, hz, hT, r1, r2, r3, r4⟩
  · refine wpAny_pyNext_zip_item D hz hTI hTO h1 h2 hl1 hl2 hx hy fun h' a1 a2 a3 a4 a5 a6 hk => ?_
    exact hQ h' ⟨hk _ _ D.TIz D.TITO D.TIi1 D.TIi2 hTI, a3, a4, hl1.at fun o e => hk _ o D.l1z D.l1TO D.l1i1 D.l1i2 e, hl2.at fun o e => hk _ o D.l2z D.l2TO D.l2i1 D.l2i2 e,
      .inr ⟨s.heap.objs.size, false, _, a1, a5, lt hz, n1, n2, Nat.ne_of_gt hS⟩⟩ a5 a6 hk
  · refine wpAny_pyNext_zip_item_held D hz hT hTI h1 h2 hl1 hl2 hx hy fun h' a1 a3 a4 a5 a6 hk => ?_
    exact hQ h' ⟨hk _ _ D.TIz D.TIi1 D.TIi2 hTI, a3, a4, hl1.at fun o e => hk _ o D.l1z D.l1i1 D.l1i2 e, hl2.at fun o e => hk _ o D.l2z D.l2i1 D.l2i2 e,
      .inr ⟨T, true, oT, a1, hk _ _ r1 r2 r3 hT, r1, r2, r3, r4⟩⟩ a5 a6 fun c o c1 _ c3 c4 e => hk c o c1 c3 c4 e
theorem z_done {Q : Option Value → Shared → Prop} (hh : A.handled = none) (D : ZipApart z TI TO i1 i2 l1 l2) (st : ZSt s.heap S z TI TO i1 i2 l1 l2 xs ys i) (hend : xs[i]? = none ∨ ys[i]? = none)
    (hQ : ∀ h', (∀ c o, c ≠ z → c ≠ TO → c ≠ i1 → c ≠ i2 → s.heap.get? c = some o → h'.get? c = some o) → Q none { s with heap := h' }) : wpAny (model prog w) A (pyNext (.ref z)) Q E s := by
  obtain ⟨hTI, h1, h2, hl1, hl2, hz⟩ := st
  rcases hz with ⟨hz, a, b, hTO⟩ | ⟨T, f, oT, hz, hT, r1, r2, r3, r4⟩
  · exact wpAny_pyNext_zip_end hh D hz hTI hTO h1 h2 hl1 hl2 hend fun h' hk => hQ h' hk
  · exact wpAny_pyNext_zip_end_held hh D hz hT hTI h1 h2 hl1 hl2 hend fun h' hk => hQ h' fun c o c1 _ c3 c4 e => hk c o c1 c3 c4 e
/-- the pairs made so far -/
structure ZG (xs ys : Array Value) (lo : Addr) (h : Heap) (as : List Addr) : Prop where
  rise : as.Pairwise (· < ·)
  above : ∀ a ∈ as, lo < a
  pairs : ∀ (j : Nat) (a : Addr), as[j]? = some a → ∃ x y, xs[j]? = some x ∧ ys[j]? = some y ∧ IsPair h a x y
theorem ZG.there {lo : Addr} {h : Heap} {as : List Addr} (g : ZG xs ys lo h as) {a : Addr} (ha : a ∈ as) : a < h.objs.size := by
  obtain ⟨j, hj⟩ := List.mem_iff_getElem?.mp ha
  obtain ⟨_, _, _, _, e⟩ := g.pairs j a hj
  exact Heap.lt_size e
theorem z_loop {R : Result → Shared → Prop} (hh : A.handled = none) (D : ZipApart z TI TO i1 i2 l1 l2) (o : Off S z TI TO i1 i2 l1 l2) (zS : z < S) (tS : TO < S) (i1S : i1 < S) (i2S : i2 < S) (hnn : n = min xs.size ys.size) (hn : n ≤ sizeLine) (res : Value) {h₁ : Heap}
    (hR : ∀ h' tk acc c as, (∀ b u, b ≠ S → b ≠ z → b ≠ TO → b ≠ i1 → b ≠ i2 → h₁.get? b = some u → h'.get? b = some u) → h'.get? S = some { cls := .type "list", dict := none, data := .seq acc c, slots := #[] } → as.length = n → ZG xs ys S h' as →
      acc.toList = as.map Value.ref → R (.ok (.ret res)) { s with heap := h', toks := tk }) :
    ∀ (k i : Nat) (h : Heap) (tk c : Nat) (acc : Array Value) (as : List Addr), n - i = k → i ≤ n → ZSt h S z TI TO i1 i2 l1 l2 xs ys i → (∀ b u, b ≠ S → b ≠ z → b ≠ TO → b ≠ i1 → b ≠ i2 → h₁.get? b = some u → h.get? b = some u) →
      h.get? S = some { cls := .type "list", dict := none, data := .seq acc c, slots := #[] } → acc.toList = as.map Value.ref → as.length = i → ZG xs ys S h as →
      codeAny (model prog w) A (.builtin "list.extend.loop" ⟨[.ref S, .ref z, res], []⟩) R { s with heap := h, toks := tk } := by
  intro k
  induction k with
  | zero =>
    intro i h tk c acc as hk hi hst hkeep hS hacc hal hG
    have hin : i = n := by omega
    have hend : xs[i]? = none ∨ ys[i]? = none := by
      rw [hin, hnn]
      rcases Nat.le_total xs.size ys.size with h | h
      · exact .inl (Array.getElem?_eq_none (by rw [Nat.min_eq_left h]; exact Nat.le_refl _))
      · exact .inr (Array.getElem?_eq_none (by rw [Nat.min_eq_right h]; exact Nat.le_refl _))
    refine codeAny_builtin PySem.F.entry_extend_loop ?_
    rw [Around.under_plainId PySem.F.plain_extend_loop _]
    show wpAny _ A.in1 (pyNext (.ref z) >>= _) _ _ _
    refine wpAny_bind (z_done (s := { s with heap := h, toks := tk }) (A := A.in1) hh D hst hend fun h' he => ?_)
    refine wpAny_pure (hR h' tk acc c as (fun b u q1 q2 q3 q4 q5 e => he b u q2 q3 q4 q5 (hkeep b u q1 q2 q3 q4 q5 e)) (he S _ o.z o.TO o.i1 o.i2 hS) (by omega) ⟨hG.rise, hG.above, fun j a hj => ?_⟩ hacc)
    obtain ⟨x, y, e1, e2, e3⟩ := hG.pairs j a hj
    have ha := hG.above a (List.mem_of_getElem? hj)
    exact ⟨x, y, e1, e2, he a _ (Nat.ne_of_gt (Nat.lt_trans zS ha)) (Nat.ne_of_gt (Nat.lt_trans tS ha)) (Nat.ne_of_gt (Nat.lt_trans i1S ha)) (Nat.ne_of_gt (Nat.lt_trans i2S ha)) e3⟩
  | succ k ih =>
    intro i h tk c acc as hk hi hst hkeep hS hacc hal hG
    have hlt : i < n := by omega
    have hx : xs[i]? = some xs[i] := Array.getElem?_eq_getElem (by omega)
    have hy : ys[i]? = some ys[i] := Array.getElem?_eq_getElem (by omega)
    have hsz : acc.size = i := by rw [← Array.length_toList, hacc, List.length_map, hal]
    have hSl : S < h.objs.size := Heap.lt_size hS
    refine codeAny_builtin PySem.F.entry_extend_loop ?_
    rw [Around.under_plainId PySem.F.plain_extend_loop _]
    show wpAny _ A.in1 (pyNext (.ref z) >>= _) _ _ _
    refine wpAny_bind (z_item (s := { s with heap := h, toks := tk }) D hst hSl hx hy fun h' hst' ht hz hkp => ?_)
    dsimp only at ht hz hkp ⊢
    have hS' := hkp S _ o.z o.TO o.i1 o.i2 hS
    have up : ∀ b u, b ≠ S → h'.get? b = some u → (h'.update S (Obj.mapSeq (·.push (Value.ref h.objs.size)))).get? b = some u := fun b u hb e => (Heap.get?_update_other _ _ (Ne.symm hb)).trans e
    show wpAny _ A.in1 (updateSeq S (·.push (Value.ref h.objs.size)) >>= _) _ _ _
    refine wpAny_bind ?_
    refine wpAny_updateSeq hS' rfl (wpAny_pure ⟨plainId_quiet PySem.F.plain_extend_loop _, ih (i + 1) _ tk _ (acc.push (Value.ref h.objs.size)) (as ++ [h.objs.size]) (by omega) hlt (hst'.keep o up)
      (fun b u q1 q2 q3 q4 q5 e => up b u q1 (hkp b u q2 q3 q4 q5 (hkeep b u q1 q2 q3 q4 q5 e))) (Heap.get?_update_self _ hS' rfl) (by rw [Array.toList_push, hacc, List.map_append]; rfl) (by rw [List.length_append, hal]; rfl) ⟨?_, ?_, ?_⟩⟩) (by rw [hsz]; omega) (by show (acc.push (Value.ref h.objs.size)).size ≤ sizeLine + 1; rw [Array.size_push, hsz]; omega)
    · refine List.pairwise_append.mpr ⟨hG.rise, List.pairwise_singleton _ _, fun a ha b hb => ?_⟩
      rw [List.mem_singleton.mp hb]
      exact hG.there ha
    · intro a ha
      rcases List.mem_append.mp ha with ha | ha
      · exact hG.above a ha
      · rw [List.mem_singleton.mp ha]; exact hSl
    · intro j b hj
      rcases Nat.lt_trichotomy j as.length with h1 | h1 | h1
      · rw [List.getElem?_append_left h1] at hj
        obtain ⟨x, y, e1, e2, e3⟩ := hG.pairs j b hj
        have ha := hG.above b (List.mem_of_getElem? hj)
        exact ⟨x, y, e1, e2, up b _ (Nat.ne_of_gt ha) (hkp b _ (Nat.ne_of_gt (Nat.lt_trans zS ha)) (Nat.ne_of_gt (Nat.lt_trans tS ha)) (Nat.ne_of_gt (Nat.lt_trans i1S ha)) (Nat.ne_of_gt (Nat.lt_trans i2S ha)) e3)⟩
      · subst h1
        have hb : h.objs.size = b := by simpa using hj
        subst hb
        exact ⟨_, _, by rw [hal]; exact hx, by rw [hal]; exact hy, up _ _ (Nat.ne_of_gt hSl) ht⟩
      · have hnone : (as ++ [h.objs.size])[j]? = none := List.getElem?_eq_none (by rw [List.length_append, List.length_singleton]; omega)
        rw [hnone] at hj; cases hj
theorem z_hint (hT : s.TypeIs (.ref z) "zip") {Q : Bool → Shared → Prop} (h : Q true s) : wpAny (model prog w) A (Builtin.List.listLengthHint (.ref z)) Q E s := by
  unfold Builtin.List.listLengthHint
  refine wpAny_bind (wpAny_specialOf hT zip_no_len ?_)
  show wpAny _ A (specialOf (Value.ref z) (Str.ofString "__length_hint__") >>= _) _ _ _
  refine wpAny_bind (wpAny_specialOf hT zip_no_hint ?_)
  exact wpAny_pure h
theorem ZSt.type {h : Heap} (x : ZSt h S z TI TO i1 i2 l1 l2 xs ys i) : ∃ o, h.get? z = some o ∧ o.cls = .type "zip" := by
  rcases x.zz with ⟨hz, _⟩ | ⟨T, f, oT, hz, _⟩
  · exact ⟨_, hz, rfl⟩
  · exact ⟨_, hz, rfl⟩
theorem z_extend {R : Result → Shared → Prop} (hh : A.handled = none) (D : ZipApart z TI TO i1 i2 l1 l2) (o : Off S z TI TO i1 i2 l1 l2) (zS : z < S) (tS : TO < S) (i1S : i1 < S) (i2S : i2 < S) (hnn : n = min xs.size ys.size) (hn : n ≤ sizeLine) (res : Value) (c₀ : Nat)
    (hz0 : IsZip s.heap z TI TO .none) (st : ZSt s.heap S z TI TO i1 i2 l1 l2 xs ys 0) (hS : s.heap.get? S = some { cls := .type "list", data := .seq #[] c₀ })
    (hR : ∀ h' tk acc c as, (∀ b u, b ≠ S → b ≠ z → b ≠ TO → b ≠ i1 → b ≠ i2 → s.heap.get? b = some u → h'.get? b = some u) → h'.get? S = some { cls := .type "list", dict := none, data := .seq acc c, slots := #[] } → as.length = n → ZG xs ys S h' as →
      acc.toList = as.map Value.ref → R (.ok (.ret res)) { s with heap := h', toks := tk }) :
    wpAny (model prog w) A.in1 (Builtin.List.listExtendWith (.ref S) (.ref z) res)
      (fun fin s' => match fin with | .done f => R (.ok f) s' | .again c' => c'.quiet = true ∧ codeAny (model prog w) A c' R s') (fun e s' => R (.error e) s') s := by
  have key : ∀ (h : Heap) (c₁ tk : Nat), (∀ b u, b ≠ S → s.heap.get? b = some u → h.get? b = some u) → h.get? S = some { cls := .type "list", data := .seq #[] c₁ } →
      codeAny (model prog w) A (.builtin "list.extend.loop" ⟨[.ref S, .ref z, res], []⟩) R { s with heap := h, toks := tk } := by
    intro h c₁ tk hk hS₁
    exact z_loop (s := s) (h₁ := s.heap) hh D o zS tS i1S i2S hnn hn res hR n 0 h tk c₁ #[] [] (Nat.sub_zero _) (Nat.zero_le _) (st.keep o hk) (fun b u q1 _ _ _ _ e => hk b u q1 e) hS₁ rfl rfl
      ⟨List.Pairwise.nil, (fun _ ha => nomatch ha), (fun j a hj => by simp at hj)⟩
  have hT : s.TypeIs (.ref z) "zip" := ⟨_, hz0, rfl⟩
  unfold Builtin.List.listExtendWith
  refine wpAny_bind (wpAny_typeOf (T := "zip") hT ?_)
  have h1 : Builtin.List.listSameRef (.ref S) (.ref z) = false := by simp [Builtin.List.listSameRef, o.z]
  have h2 : (Value.type "zip" == Value.type "list") = false := by decide
  have h3 : (Value.type "zip" == Value.type "tuple") = false := by decide
  simp only [h1, h2, h3, Bool.or_false, Bool.false_eq_true, if_false]
  refine wpAny_bind (wpAny_pyIter_zip hz0 ?_)
  refine wpAny_bind (wpAny_holding (z_hint hT ?_))
  refine wpAny_ite_split (fun _ => ?_) (fun _ => wpAny_pure ⟨plainId_quiet PySem.F.plain_extend_loop _, key _ c₀ _ (fun b u _ e => e) hS⟩)
  refine wpAny_bind (wpAny_rule ?_)
  refine wpAny_bind ?_
  show wpAny _ _ (updateSeq S (·.push .none) >>= fun _ => updateSeq S (·.pop)) _ _ _
  refine wpAny_bind (wpAny_updateSeq hS rfl ?_)
  have hS₂ := Heap.get?_update_self (Obj.mapSeq (·.push Value.none)) hS rfl
  refine wpAny_updateSeq (hz := by seq_fits) hS₂ rfl ?_
  have hS₃ := Heap.get?_update_self (Obj.mapSeq (·.pop)) hS₂ rfl
  refine wpAny_pure ⟨plainId_quiet PySem.F.plain_extend_loop _, key _ _ _ (fun b u hb e => ?_) hS₃⟩
  exact (Heap.get?_update_other _ _ (Ne.symm hb)).trans ((Heap.get?_update_other _ _ (Ne.symm hb)).trans e)
theorem z_init {R : Result → Shared → Prop} (hh : A.handled = none) (D : ZipApart z TI TO i1 i2 l1 l2) (o : Off S z TI TO i1 i2 l1 l2) (zS : z < S) (tS : TO < S) (i1S : i1 < S) (i2S : i2 < S) (hnn : n = min xs.size ys.size) (hn : n ≤ sizeLine)
    (hz0 : IsZip s.heap z TI TO .none) (st : ZSt s.heap S z TI TO i1 i2 l1 l2 xs ys 0) (hS : s.heap.get? S = some { cls := .type "list", data := .seq #[] })
    (hR : ∀ h' tk acc c as, (∀ b u, b ≠ S → b ≠ z → b ≠ TO → b ≠ i1 → b ≠ i2 → s.heap.get? b = some u → h'.get? b = some u) → h'.get? S = some { cls := .type "list", dict := none, data := .seq acc c, slots := #[] } → as.length = n → ZG xs ys S h' as →
      acc.toList = as.map Value.ref → R (.ok (.ret .none)) { s with heap := h', toks := tk }) :
    wpAny (model prog w) A.in1 (Builtin.«list.__init__» ⟨[.ref S, .ref z], []⟩)
      (fun fin s' => match fin with | .done f => R (.ok f) s' | .again c' => c'.quiet = true ∧ codeAny (model prog w) A c' R s') (fun e s' => R (.error e) s') s := by
  show wpAny _ _ (do let old ← Builtin.List.listItems (.ref S); Builtin.List.listUpdate (.ref S) (fun _ => #[]); letGo old.toList.reverse; Builtin.List.listExtendWith (.ref S) (.ref z) .none) _ _ s
  refine wpAny_bind ?_
  unfold Builtin.List.listItems
  refine wpAny_bind (wpAny_seqItems hS rfl (wpAny_pure ?_))
  show wpAny _ _ (updateSeq S (fun _ => #[]) >>= fun _ => letGo (#[] : Array Value).toList.reverse >>= fun _ => Builtin.List.listExtendWith (.ref S) (.ref z) .none) _ _ s
  refine wpAny_bind (wpAny_updateSeq hS rfl ?_)
  have hS₂ := Heap.get?_update_self (Obj.mapSeq (fun _ => (#[] : Array Value))) hS rfl
  have oth : ∀ b u, b ≠ S → s.heap.get? b = some u → (s.heap.update S (Obj.mapSeq (fun _ => (#[] : Array Value)))).get? b = some u :=
    fun b u hb e => (Heap.get?_update_other _ _ (Ne.symm hb)).trans e
  refine wpAny_bind (wpAny_letGo ?_)
  refine z_extend hh D o zS tS i1S i2S hnn hn .none _ (oth _ _ o.z.symm hz0) (st.keep o oth) hS₂ (fun h' tk acc c as hk hS' hl hG hacc => ?_)
  exact hR h' tk acc c as (fun b u q1 q2 q3 q4 q5 e => hk b u q1 q2 q3 q4 q5 (oth b u q1 e)) hS' hl hG hacc
theorem z_call {Q : Value → Shared → Prop} (hh : A.handled = none) (D : ZipApart z TI TO i1 i2 l1 l2) (hnn : n = min xs.size ys.size) (hn : n ≤ sizeLine) (hz0 : IsZip s.heap z TI TO .none) (st : ZSt s.heap s.heap.objs.size z TI TO i1 i2 l1 l2 xs ys 0)
    (hQ : ∀ h' tk acc c as, (∀ b u, b ≠ z → b ≠ TO → b ≠ i1 → b ≠ i2 → s.heap.get? b = some u → h'.get? b = some u) → h'.get? s.heap.objs.size = some { cls := .type "list", dict := none, data := .seq acc c, slots := #[] } → as.length = n → ZG xs ys s.heap.objs.size h' as →
      acc.toList = as.map Value.ref → Q (.ref s.heap.objs.size) { s with heap := h', toks := tk }) :
    wpAny (model prog w) A (call (.type "list") [.ref z]) Q E s := by
  refine callType_codes (Q₁ := fun obj s₁ => obj = .ref s.heap.objs.size ∧ s₁ = { s with heap := s.heap.push { cls := .type "list", data := .seq #[] } }) PySem.F.called_list (PySem.F.typeCall_list_1 _) PySem.F.entry_list_init
    (code_list_new _ ⟨rfl, rfl⟩) fun obj s₁ h₁ => ?_
  obtain ⟨rfl, rfl⟩ := h₁
  have hS : (s.heap.push { cls := .type "list", data := .seq #[] }).get? s.heap.objs.size = some { cls := .type "list", data := .seq #[] } := Heap.get?_push_size _ rfl
  have zl : z < s.heap.objs.size := Heap.lt_size hz0
  have tl : TO < s.heap.objs.size := by
    rcases st.zz with ⟨_, a, b, h⟩ | ⟨T, f, oT, hz, _⟩
    · exact Heap.lt_size h
    · unfold IsZip at hz0
      unfold IsZipHeld at hz
      rw [hz0] at hz
      cases hz
  have Tl : TI < s.heap.objs.size := Heap.lt_size st.ti
  have e1 : i1 < s.heap.objs.size := let ⟨_, e, _⟩ := st.a1; Heap.lt_size e
  have e2 : i2 < s.heap.objs.size := let ⟨_, e, _⟩ := st.a2; Heap.lt_size e
  have e3 : l1 < s.heap.objs.size := let ⟨_, e, _⟩ := st.b1; Heap.lt_size e
  have e4 : l2 < s.heap.objs.size := let ⟨_, e, _⟩ := st.b2; Heap.lt_size e
  have o : Off s.heap.objs.size z TI TO i1 i2 l1 l2 := ⟨Nat.ne_of_gt zl, Nat.ne_of_gt Tl, Nat.ne_of_gt tl, Nat.ne_of_gt e1, Nat.ne_of_gt e2, Nat.ne_of_gt e3, Nat.ne_of_gt e4⟩
  refine ⟨⟨_, hS, rfl⟩, PySem.F.args_list_init_2 _ _, z_init (A := A.in1) hh D o zl tl e1 e2 hnn hn (Heap.get?_push_of_some _ hz0) (st.keep o fun b u _ e => Heap.get?_push_of_some _ e) hS (fun h' tk acc c as hk hS' hl hG hacc => ?_)⟩
  exact ⟨rfl, hQ h' tk acc c as (fun b u q2 q3 q4 q5 e => hk b u (Nat.ne_of_lt (Heap.lt_size e)) q2 q3 q4 q5 (Heap.get?_push_of_some _ e)) hS' hl hG hacc⟩
end
/-- the pairs tracked at their addresses -/
def putP : Hp → List Addr → List (V × V) → Hp
  | H, a :: as, p :: ps => putP (upd H a (.tup [p.1, p.2])) as ps
  | H, _, _ => H
theorem putP_off {b : Addr} : ∀ (as : List Addr) (ps : List (V × V)) (H : Hp), b ∉ as → putP H as ps b = H b
  | [], _, _, _ => rfl
  | _ :: _, [], _, _ => rfl
  | a :: as, p :: ps, H, h => by
    show putP (upd H a (.tup [p.1, p.2])) as ps b = H b
    rw [putP_off as ps _ (fun z => h (List.mem_cons_of_mem _ z)), upd_ne (fun z => h (by rw [z]; exact List.mem_cons_self))]
theorem putP_at : ∀ (as : List Addr) (ps : List (V × V)) (H : Hp), as.length = ps.length → as.Nodup → Paired (fun (t : Addr) (p : V × V) => putP H as ps t = some (.tup [p.1, p.2])) as ps
  | [], [], _, _, _ => .nil
  | [], _ :: _, _, h, _ => by cases h
  | _ :: _, [], _, h, _ => by cases h
  | a :: as, p :: ps, H, h, hn => by
    have hn' := List.nodup_cons.mp hn
    have ih := putP_at as ps (upd H a (.tup [p.1, p.2])) (Nat.succ.inj h) hn'.2
    refine .cons ?_ ih
    show putP (upd H a (.tup [p.1, p.2])) as ps a = some (.tup [p.1, p.2])
    rw [putP_off as ps _ hn'.1, upd_same]
/-- list(zip(a, b)): a new list of new pairs -/
def tListZip (K : PySem.W.Frag) (ta : TA) : TE := fun σ H Q => ta σ H fun vs H1 => ∃ a b xs ys, vs = [.ref a, .ref b] ∧ SqL K H1 a xs ∧ SqL K H1 b ys ∧
  ∀ (H' : Hp) (p : Addr) (ts : List Addr), (∀ c o, H1 c = some o → H' c = some o) → H1 p = none → (∀ t ∈ ts, H1 t = none) → p ∉ ts → (∀ c, H' c ≠ none → H1 c ≠ none ∨ c = p ∨ c ∈ ts) → H' p = some (.lst (ts.map V.ref)) →
    Paired (fun (t : Addr) (q : V × V) => H' t = some (.tup [q.1, q.2])) ts (xs.zip ys) → Q (.ref p) H'
section
variable {X : Cx} {e e2 : Expr} {ta : TA} {p p2 pos pos2 : Pos}
theorem pairs_laid {pins : List (Addr × Obj)} {σ : L2.St} {H : Hp} {s : Shared} {h' : Heap} {tk : Nat} {ps : List (V × V)} {acc : Array Value} {c : Nat} {as : List Addr} {B : Addr} (hB : s.heap.objs.size ≤ B) (I : Inv X pins σ H s) (hz : ps.length ≤ sizeLine)
    (hk : ∀ b o, s.heap.get? b = some o → h'.get? b = some o) (hS : h'.get? B = some { cls := .type "list", dict := none, data := .seq acc c, slots := #[] }) (hl : as.length = ps.length) (rise : as.Pairwise (· < ·)) (above : ∀ a ∈ as, B < a)
    (pairs : ∀ (j : Nat) (a : Addr), as[j]? = some a → ∃ q x y, ps[j]? = some q ∧ RelV q.1 x ∧ RelV q.2 y ∧ IsPair h' a x y) (hacc : acc.toList = as.map Value.ref) :
    ∃ H' : Hp, (∀ b o, H b = some o → H' b = some o) ∧ H B = none ∧ (∀ t ∈ as, H t = none) ∧ B ∉ as ∧ (∀ c, H' c ≠ none → H c ≠ none ∨ c = B ∨ c ∈ as) ∧ H' B = some (.lst (as.map V.ref)) ∧ Paired (fun (t : Addr) (q : V × V) => H' t = some (.tup [q.1, q.2])) as ps ∧ Inv X pins σ H' { s with heap := h', toks := tk } := by
  have hSn : B ∉ as := fun z => Nat.lt_irrefl _ (above _ z)
  have nd : as.Nodup := List.Pairwise.imp (fun {a b} (h : a < b) => Nat.ne_of_lt h) rise
  have new : ∀ t ∈ as, H t = none := fun t ht => I.hok.fresh (Nat.le_trans hB (Nat.le_of_lt (above t ht)))
  have newS : H B = none := I.hok.fresh hB
  have atP := putP_at as ps (upd H B (.lst (as.map V.ref))) hl nd
  have off : ∀ b, b ∉ as → b ≠ B → putP (upd H B (.lst (as.map V.ref))) as ps b = H b := fun b h1 h2 => by rw [putP_off as ps _ h1, upd_ne h2]
  have low : ∀ b o, s.heap.get? b = some o → b ∉ as ∧ b ≠ B := fun b o e => ⟨fun z => absurd (Heap.lt_size e) (Nat.not_lt.mpr (Nat.le_trans hB (Nat.le_of_lt (above b z)))), Nat.ne_of_lt (Nat.lt_of_lt_of_le (Heap.lt_size e) hB)⟩
  have kp : ∀ b u, H b = some u → (putP (upd H B (.lst (as.map V.ref))) as ps) b = some u := fun b u e => by
    rw [off b (fun z => by rw [new b z] at e; cases e) (fun z => by rw [z, newS] at e; cases e)]
    exact e
  have eS : putP (upd H B (.lst (as.map V.ref))) as ps B = some (.lst (as.map V.ref)) := by rw [putP_off as ps _ hSn, upd_same]
  refine ⟨putP (upd H B (.lst (as.map V.ref))) as ps, kp, newS, new, hSn, fun c hc => ?_, eS, atP, ?_⟩
  · by_cases h1 : c ∈ as
    · exact .inr (.inr h1)
    · by_cases h2 : c = B
      · exact .inr (.inl h2)
      · rw [off c h1 h2] at hc
        exact .inl hc
  refine I.call' (ch := []) rfl ⟨fun b o q _ _ _ => hk b o q, fun b o q _ _ _ => ⟨o.slots, hk b o q⟩, fun b o q n _ => ?_, fun b o q _ => ⟨o, hk b o q⟩, fun b xs q => kp b _ q, fun b o u q => kp b _ q, fun b ps q => ⟨#[], by rw [kp b _ q]; simp⟩⟩ (fun b u q => ?_) I.bare fun b z => by simp at z
  · obtain ⟨z1, z2⟩ := low b o q
    rw [off b z1 z2]
    exact n
  · by_cases hb : b ∈ as
    · obtain ⟨j, pk, e1, e2, e3⟩ := LiI.paired_ix atP hb
      rw [e3] at q
      cases q
      obtain ⟨qv, x, y, f1, f2, f3, f4⟩ := pairs j b e1
      rw [e2] at f1
      cases f1
      exact ⟨by show 2 ≤ sizeLine; decide, [x, y], .cons f2 (.cons f3 .nil), ⟨_, f4, rfl, _, rfl⟩⟩
    · by_cases hb2 : b = B
      · rw [hb2] at q ⊢
        rw [eS] at q
        cases q
        refine ⟨by rw [List.length_map]; omega, acc.toList, c, by rw [hacc]; exact LiI.vals_refs as, ?_⟩
        rw [Array.toArray_toList]
        exact hS
      · rw [off b hb hb2] at q
        exact (I.hok b u q).stay (fun d v _ y => hk d v y) (fun d y => kp d _ y) fun d xs y => kp d _ y
/-- list(zip(e, e2)) -/
theorem pe_listZip (hc : X.calm = true) (hg : Gl X "list") (hm : X.mg "list" = none) (hgz : Gl X "zip") (hmz : X.mg "zip" = none) (ha : PA X [e, e2] ta)
    (hs : starEach [.Call (.Name "zip" p2) [e, e2] [] pos2] X.env = (false, eval (.Call (.Name "zip" p2) [e, e2] [] pos2) X.env) :: starEach [] X.env := by rfl)
    (hs2 : starEach [e, e2] X.env = (false, eval e X.env) :: starEach [e2] X.env := by rfl) (hpl : (backTo pos2 (starEach [e2] X.env)).any (·.1) = false := by rfl) :
    PE X (.Call (.Name "list" p) [.Call (.Name "zip" p2) [e, e2] [] pos2] [] pos) (tListZip X.K ta) := by
  refine ⟨fun pins s σ H Q I h => ?_⟩
  refine wpAny_Call_Name_kw (ld_blt I hg hm PyProof.Rows.boot_list ?_)
  refine PyProof.Rows.callWith_type1 ?_ hs rfl
  rw [hs]
  show wpAny _ _ (spliced ((false, eval (.Call (.Name "zip" p2) [e, e2] [] pos2) X.env) :: backTo pos (starEach [] X.env))) _ _ s
  refine Calls.spliced_cons ?_
  refine Call_ (ld_blt I hgz hmz PyProof.Rows.boot_zip (PyProof.Rows.callWith_type1 (thn (ha.run pos2 pins s σ H _ I h) fun us s1 ⟨vs, H1, I1, r1, q1⟩ => ?_) hs2 hpl))
  obtain ⟨a, b, xs, ys, ex, hqx, hqy, q⟩ := q1
  subst ex
  cases r1 with
  | cons r rr =>
    cases rr with
    | cons r' rr =>
      cases rr
      cases r
      cases r'
      obtain ⟨its, rv, pl1, hz1⟩ := I1.list hqx
      obtain ⟨its2, rv2, pl2, hz2⟩ := I1.list hqy
      have la : a < s1.heap.objs.size := pl1.lt
      have lb : b < s1.heap.objs.size := pl2.lt
      refine call_zip_2 pl1.isList pl2.isList fun h' hz hTI hTO h1 h2 hsz hk => Calls.spliced_nil ?_
      have I2 : Inv X pins σ H1 { s1 with heap := h' } := I1.kept (t' := s1.toks) hk
      have D := PySem.W.ktu_apart s1.heap.objs.size a b la lb
      have hne : ∀ k : Nat, k < 5 → h'.objs.size ≠ s1.heap.objs.size + k := fun k hk5 => by rw [hsz]; omega
      refine z_call (s := { s1 with heap := h' }) (xs := its.toArray) (ys := its2.toArray) (n := min its.length its2.length) (I1.ok.hd hc) D (by simp) (by rw [← rv.length]; exact Nat.le_trans (Nat.min_le_left _ _) hz1) hz
        ⟨hTI, h1, h2, pl1.isList.at fun o e => hk _ o e, pl2.isList.at fun o e => hk _ o e, .inl ⟨hz, _, _, hTO⟩⟩ fun h2' tk acc c as hk2 hS hl hG hacc => ?_
      have lo : s1.heap.objs.size ≤ h'.objs.size := by rw [hsz]; exact Nat.le_add_right _ _
      have kk : ∀ b o, s1.heap.get? b = some o → h2'.get? b = some o := fun b o e => by
        have hb := Heap.lt_size e
        exact hk2 b o (Nat.ne_of_lt (Nat.lt_of_lt_of_le hb (Nat.le_add_right _ _))) (Nat.ne_of_lt (Nat.lt_of_lt_of_le hb (Nat.le_add_right _ _))) (Nat.ne_of_lt hb) (Nat.ne_of_lt (Nat.lt_of_lt_of_le hb (Nat.le_add_right _ _))) (hk b o e)
      have lz : (xs.zip ys).length = as.length := by
        rw [List.length_zip, rv.length, rv2.length, hl]
      have hp : ∀ (j : Nat) (t : Addr), as[j]? = some t → ∃ q x y, (xs.zip ys)[j]? = some q ∧ RelV q.1 x ∧ RelV q.2 y ∧ IsPair h2' t x y := fun j t hj => by
        obtain ⟨x, y, e1, e2, e3⟩ := hG.pairs j t hj
        have hjl : j < as.length := (List.getElem?_eq_some_iff.mp hj).1
        have hl2 := rv.length
        have hl3 := rv2.length
        have hjx : j < xs.length := by omega
        have hjy : j < ys.length := by omega
        obtain ⟨u, hu, ru⟩ := rv.get (List.getElem?_eq_getElem hjx)
        obtain ⟨u2, hu2, ru2⟩ := rv2.get (List.getElem?_eq_getElem hjy)
        have ex1 : u = x := by
          have h3 : its.toArray[j]? = some u := by simpa using hu
          rw [h3] at e1
          exact Option.some.inj e1
        have ex2 : u2 = y := by
          have h3 : its2.toArray[j]? = some u2 := by simpa using hu2
          rw [h3] at e2
          exact Option.some.inj e2
        subst ex1 ex2
        exact ⟨(xs[j], ys[j]), u, u2, List.getElem?_zip_eq_some.mpr ⟨List.getElem?_eq_getElem hjx, List.getElem?_eq_getElem hjy⟩, ru, ru2, e3⟩
      obtain ⟨H', k1, k2, k3, k4, k5, k6, k7, J⟩ := pairs_laid (tk := tk) (ps := xs.zip ys) lo I1 (by rw [List.length_zip]; exact Nat.le_trans (Nat.min_le_left _ _) hz1) kk hS (by omega) hG.rise hG.above hp hacc
      exact ⟨.ref _, H', J, rfl, q H' _ as k1 k2 k3 k4 k5 k6 k7⟩
end
end Zl
end
section
set_option maxHeartbeats 8000000
namespace Tw
open PySem PySem.Spec PyProof.Rows L2
/-! ### sightings as data -/
def dNats (ns : List Nat) : PyData := .tuple (ns.map fun (n : Nat) => PyData.int n)
def dSeen (t : Tf.Tab) : PyData := .list ((List.range t.length).map fun i => dNats (Tf.cnts (i + 1) (Tf.rowAt t i)))
def dPair (p : Nat × Nat) : PyData := .tuple [.int p.1, .int p.2]
def dRow (stop : Nat) (fs : List Nat) : PyData := .list ((fs.zip (stop :: fs)).map dPair)
def dRows (t : Tf.Tab) : PyData := .list ((List.range t.length).map fun i => dRow (i + 1) (Tf.rowAt t i))
abbrev vN (ns : List Nat) : List V := ns.map fun (n : Nat) => V.int n
theorem of_dpa_nats {K : PySem.W.Frag} {H : Hp} : ∀ {ns : List Nat} {vs : List V}, DpAll K H vs (ns.map fun (n : Nat) => PyData.int n) → vs = vN ns
  | [], _, h => by cases h; rfl
  | n :: ns, _, h => by
    cases h with
    | cons h t => rw [dp_int h, of_dpa_nats t]; rfl
theorem dpa_nats {K : PySem.W.Frag} {H : Hp} : ∀ ns : List Nat, DpAll K H (vN ns) (ns.map fun (n : Nat) => PyData.int n)
  | [] => .nil
  | n :: ns => .cons (.int n) (dpa_nats ns)
theorem vN_get {ns : List Nat} {i n : Nat} (h : ns[i]? = some n) : (vN ns)[i]? = some (.int n) := by
  rw [List.getElem?_map, h]; rfl
theorem of_vN_get {ns : List Nat} {i : Nat} {v : V} (h : (vN ns)[i]? = some v) : ∃ n : Nat, ns[i]? = some n ∧ v = .int n := by
  obtain ⟨n, h1, h2⟩ := get_map h
  exact ⟨n, h1, h2.symm⟩
theorem range_get {n i : Nat} {α : Type} {f : Nat → α} {d : α} (h : ((List.range n).map f)[i]? = some d) : i < n ∧ d = f i := by
  obtain ⟨x, h1, h2⟩ := get_map h
  have hl : i < n := by
    have := (List.getElem?_eq_some_iff.mp h1).1
    rw [List.length_range] at this
    exact this
  rw [List.getElem?_range hl] at h1
  cases h1
  exact ⟨hl, h2.symm⟩
theorem range_at {n i : Nat} {α : Type} {f : Nat → α} (h : i < n) : ((List.range n).map f)[i]? = some (f i) := by
  rw [List.getElem?_map, List.getElem?_range h]; rfl
theorem range_map_succ {α : Type} (n : Nat) (f : Nat → α) : (List.range (n + 1)).map f = (List.range n).map f ++ [f n] := by
  rw [List.range_succ, List.map_append]; rfl
/-- a list of pairs of ints comes from list(zip(..)): the view grows by it -/
theorem grow_pairs {K : PySem.W.Frag} {G H H' : Hp} {p : Addr} {ts : List Addr} {ps : List (Nat × Nat)} (s : Same G H) (k : ∀ c o, H c = some o → H' c = some o) (np : H p = none) (nt : ∀ t ∈ ts, H t = none)
    (hn : ∀ c, H' c ≠ none → H c ≠ none ∨ c = p ∨ c ∈ ts) (ep : H' p = some (.lst (ts.map V.ref))) (et : Paired (fun (t : Addr) (q : V × V) => H' t = some (.tup [q.1, q.2])) ts (ps.map fun q => (V.int q.1, V.int q.2))) :
    ∃ G', Grow M0 G H G' H' ∧ Dp K G' (.ref p) (.list (ps.map dPair)) := by
  refine ⟨fun c => if c = p ∨ c ∈ ts then H' c else G c, ⟨fun c o e => ?_, fun c o e => ?_, fun c o _ e => k c o e, fun c e => ?_, fun c e n => ?_⟩, ?_⟩
  · have h1 := s c o e
    have h2 : ¬ (c = p ∨ c ∈ ts) := fun z => by
      rcases z with z | z
      · rw [z, np] at h1; cases h1
      · rw [nt c z] at h1; cases h1
    show (if c = p ∨ c ∈ ts then H' c else G c) = some o
    rw [if_neg h2]
    exact e
  · have e : (if c = p ∨ c ∈ ts then H' c else G c) = some o := e
    by_cases hc : c = p ∨ c ∈ ts
    · rw [if_pos hc] at e; exact e
    · rw [if_neg hc] at e; exact k c o (s c o e)
  · cases q : H c with
    | none => rfl
    | some o => rw [k c o q] at e; cases e
  · have h2 : ¬ (c = p ∨ c ∈ ts) := fun z => by
      rcases z with z | z
      · rw [z] at n; exact n np
      · exact n (nt c z)
    show (if c = p ∨ c ∈ ts then H' c else G c) = none
    rw [if_neg h2]
    exact e
  · refine dp_lst (xs := ts.map V.ref) (by show (if p = p ∨ p ∈ ts then H' p else G p) = _; rw [if_pos (.inl rfl)]; exact ep) ?_
    have aux : ∀ (us : List Addr) (qs : List (Nat × Nat)), (∀ t ∈ us, t ∈ ts) → Paired (fun (t : Addr) (q : V × V) => H' t = some (.tup [q.1, q.2])) us (qs.map fun q => (V.int q.1, V.int q.2)) → DpAll K (fun c => if c = p ∨ c ∈ ts then H' c else G c) (us.map V.ref) (qs.map dPair) := by
      intro us
      induction us with
      | nil =>
        intro qs _ h
        cases qs with
        | nil => exact .nil
        | cons q qs => cases h
      | cons u us ih =>
        intro qs hs h
        cases qs with
        | nil => cases h
        | cons q qs =>
          cases h with
          | cons h1 h2 =>
            refine .cons (dp_tpl (xs := [.int q.1, .int q.2]) ?_ (.cons (.int _) (.cons (.int _) .nil))) (ih qs (fun t ht => hs t (List.mem_cons_of_mem _ ht)) h2)
            show (if u = p ∨ u ∈ ts then H' u else G u) = _
            rw [if_pos (.inr (hs u List.mem_cons_self))]
            exact h1
    exact aux ts ps (fun t h => h) et
theorem zip_map2 : ∀ (xs ys : List Nat), (vN xs).zip (vN ys) = (xs.zip ys).map fun q => (V.int q.1, V.int q.2)
  | [], _ => rfl
  | _ :: _, [] => rfl
  | x :: xs, y :: ys => by
    show (V.int x, V.int y) :: (vN xs).zip (vN ys) = _
    rw [zip_map2 xs ys]
    rfl
section
variable {P : Program} {w : World} {K : PySem.W.Frag} {mg : Str → Option Value} {base : Heap}
/-! ### stretches_seen -/
abbrev sStr : Stmt := topS 11
abbrev nStr : List Str := ["size", "seen", "firsts", "found", "at", "item", "stops", "held", "first", "stop"]
theorem scStr : FnScope nStr ["size", "seen"] (defScope sStr) := ⟨rfl, rfl, rfl, by decide +kernel, rfl, by decide +kernel, by decide +kernel⟩
def spStr (K : PySem.W.Frag) : Sp := fun vs H Q _ => ∃ (G : Hp) (v : V) (k : Nat) (t : Tf.Tab), Same G H ∧ vs = [.int k, v] ∧ Dp K G v (dSeen t) ∧ Tf.Valid k t ∧ k < 100 ∧ t.length < 1000 ∧ Gv K G H (dRows t) Q
theorem ok_str (D : Def K mg "stretches_seen" sStr ["size", "seen"]) (C_is_count : Cal P w K mg base 2 "is_count" ["thing", "size"] (spCount K)) (z_enumerate : mg "enumerate" = none) (z_any : mg "any" = none) (z_zip : mg "zip" = none) (z_list : mg "list" = none) :
    Cal P w K mg base 3 "stretches_seen" ["size", "seen"] (spStr K) := by
  refine D.ok scStr (fun vs H Q E h => ?_) (fun f cdv A outer s H vs Q E hr h => ?_)
  · obtain ⟨G, v, k, t, _, rfl, _⟩ := h
    rfl
  · obtain ⟨G, v, k, t, sG, rfl, hd, hv, hk, hl, q⟩ := h
    refine ⟨_, (pss_cons (ps_set (i := 2) scStr.nd rfl (.inl rfl) (pe_op op_rep (pe_lst (pa_cons pe_int pa_nil)) (pv 0)))
  (pss_cons (ps_set (i := 3) scStr.nd rfl (.inl rfl) (pe_lst pa_nil))
  (pss_cons (ps_for PassesOwn.never rfl (pi_enum (by rfl) z_enumerate (pa_cons (pv 1) pa_nil)) (pg_tup rfl (pgs_cons (pg_name (i := 4) scStr.nd rfl (.inl rfl)) (pgs_cons (pg_name (i := 5) scStr.nd rfl (.inl rfl)) pgs_nil)))
  (pss_cons (ps_if (pt_not (pt_val (pe_cal C_is_count (hr.mono (by decide)) (by rfl) (pa_cons (pv 5) (pa_cons (pv 0) pa_nil))))) pss_never pss_nil)
  (pss_cons (ps_set (i := 6) scStr.nd rfl (.inl rfl) (pe_lst (pa_cons (pe_op op_add (pv 4) pe_int) pa_nil)))
  (pss_cons (ps_for PassesOwn.never rfl (pi_tup (pv 5)) (pg_name (i := 7) scStr.nd rfl (.inl rfl))
  (pss_one (ps_expr (pe_bm PySem.F.plainAttrs_list PySem.F.slot_list_append PySem.F.type_list_append mt_append (pv 6) (pa_cons (pe_op op_sub (pe_ix (r := rIxL K) ix_list (pv 6) (pe_un un_neg pe_int) (fun _ _ => rfl)) (pv 7)) pa_nil)))))
  (pss_cons (ps_if (pt_val (pe_callB (r := rAny K) (cr_any rfl) (by rfl) z_any (by decide +kernel) (pa_cons (pe_lc (own := [("first", 8), ("stop", 9)]) (g := (gTup K 2 (gCons (gName 8) (gCons (gName 9) gNil)))) (tt := tYes) rfl scStr.nd (pi_zip (by rfl) z_zip (pa_cons (pv 2) (pa_cons (pe_slice (r := rSlL K) sl_list (pv 6) (po_some pe_int) po_none) pa_nil))) (blkOk_by (N := nStr) (sc := defScope sStr) (by decide +kernel)) (fun _ _ _ _ _ => (pg_tup rfl (pgs_cons (pg_name (i := 8) scStr.nd rfl (.inl rfl)) (pgs_cons (pg_name (i := 9) scStr.nd rfl (.inl rfl)) pgs_nil)))) (fun _ _ _ _ _ => pts_nil) (fun _ _ _ _ _ => (pe_cmpR op_lt (pv 9) (pv 8) (nomark _)))) pa_nil))) pss_never pss_nil)
  (pss_cons (ps_set (i := 2) scStr.nd rfl (.inl rfl) (pe_slice (r := rSlL K) sl_list (pv 6) (po_some pe_int) po_none))
  (pss_one (ps_expr (pe_bm PySem.F.plainAttrs_list PySem.F.slot_list_append PySem.F.type_list_append mt_append (pv 3) (pa_cons (Zl.pe_listZip rfl (by rfl) z_list (by rfl) z_zip (pa_cons (pv 2) (pa_cons (pv 6) pa_nil))) pa_nil))))))))))
  (pss_one (ps_ret (pv 3)))))), ?_⟩
    obtain ⟨a, xs, rfl, hL, hA⟩ := dp_list hd
    have hx : xs.length = t.length := by rw [dpa_len hA, List.length_map, List.length_range]
    have en : ((k : Int)).toNat = k := by omega
    -- firsts = [0] * size; found = []
    refine ⟨sz1, fun p1 np1 => ?_⟩
    refine ⟨_, rfl, p1, k, [.int 0], rfl, rfl, upd_same, by omega, by omega, sz (by rw [en]; show 1 * k ≤ 100000; omega), fun pf npf => ?_⟩
    rw [en, flat_rep]
    have g1 : Grow M0 G H (upd G pf (.lst (List.replicate k (.int 0)))) (upd (upd H p1 (.lst [.int 0])) pf (.lst (List.replicate k (.int 0)))) := (grow_loc sG np1).trans (grow_new (grow_loc (M := M0) sG np1).sub npf)
    have eF : SqL K (upd G pf (.lst (List.replicate k (.int 0)))) pf (vN (Tf.prevAt k t 0)) := by
      have e : vN (Tf.prevAt k t 0) = List.replicate k (.int 0) := by
        show (List.replicate k 0).map (fun (n : Nat) => V.int n) = _
        rw [List.map_replicate]
        rfl
      rw [e]
      exact SqL.of upd_same
    generalize upd G pf (.lst (List.replicate k (.int 0))) = G1 at g1 eF
    generalize upd (upd H p1 (.lst [.int 0])) pf (.lst (List.replicate k (.int 0))) = H1 at g1
    refine ⟨Nat.zero_le _, fun p np => ?_⟩
    have g2 : Grow M0 G H G1 (upd H1 p (.lst [])) := g1.loc np
    have gp : G1 p = none := same_none g1.sub np
    have hp : H p = none := g1.back np
    -- for at, item in enumerate(seen)
    refine ⟨_, rfl, a, xs, rfl, g2.sub.seq (g1.gg.seq hL), ?_⟩
    refine for_it (walk_enum (K := K) (a := a) (xs := xs)) (fun i σ H' => ∃ (pf : Addr) (y4 y5 y6 y7 y8 y9 : Option V) (G' : Hp) (acc : List V), σ = [some (.int k), some (.ref a), some (.ref pf), some (.ref p), y4, y5, y6, y7, y8, y9] ∧ Grow M0 G H G' H' ∧ G' p = none ∧ H' p = some (.lst acc) ∧
        DpAll K G' acc ((List.range i).map fun i => dRow (i + 1) (Tf.rowAt t i)) ∧ SqL K G' pf (vN (Tf.prevAt k t i))) ⟨pf, none, none, none, none, none, none, G1, [], rfl, g2, gp, upd_same, .nil, eF⟩ (fun i σ H' _ hP => ?_) (fun i x σ H2 H2' hi hP hy => ?_) (fun σ H' hP => ?_)
    · obtain ⟨_, _, _, _, _, _, _, G', _, _, g, _⟩ := hP
      exact g.sub.seq (g.gg.seq hL)
    · obtain ⟨pf, y4, y5, y6, y7, y8, y9, G2, acc, rfl, g, gp, ep, ha, hF⟩ := hP
      obtain ⟨T, x1, x2, rfl, nT, rfl, f1, f2⟩ := hy
      have f1 : some (V.int (i : Nat)) = some x1 := f1
      have f2 : xs[i]? = some x2 := f2
      cases f1
      have hit : i < t.length := by omega
      obtain ⟨d0, hd0, hvi⟩ := dpa_getV hA f2
      have ed := (range_get hd0).2
      subst ed
      have hlen := hv.len i hit
      have hdes := hv.desc i hit
      have hmon := fun j hj => hv.mono i j hit hj
      generalize hfs : Tf.rowAt t i = fs at hlen hdes hmon hvi
      have gT := g.lay (o := .tup [V.int (i : Nat), x2]) nT
      have gpT : (upd G2 T (.tup [V.int (i : Nat), x2])) p = none := by rw [upd_ne (ne_of_none ep nT)]; exact gp
      refine ⟨T, _, rfl, SqT.of upd_same, rfl, _, _, rfl, _, _, rfl, rfl, ?_⟩
      -- is_count(item, size)
      refine ⟨_, rfl, _, rfl, upd G2 T (.tup [V.int (i : Nat), x2]), x2, Tf.cnts (i + 1) fs, k, gT.sub, rfl, dp_mono gT.gg hvi, by rw [Tf.cnts_len]; exact hlen, hk, fun u G3 H3 g3 hu => ?_⟩
      have eu := dp_bl hu
      subst eu
      refine ⟨true, rfl, iteF ?_⟩
      have g4 := gT.trans g3
      have e3 : H3 p = some (.lst acc) := g3.same _ _ (by rw [upd_ne (ne_of_none ep nT)]; exact ep)
      have gp3 : G3 p = none := g3.new _ gpT (by rw [upd_ne (ne_of_none ep nT)]; exact nn_of ep)
      have hF3 : SqL K G3 pf (vN (Tf.prevAt k t i)) := g3.gg.seq ((same_up (same_none g.sub nT)).seq hF)
      have ha3 := dpa_mono (g3.gg) (dpa_mono (same_up (o := .tup [V.int (i : Nat), x2]) (same_none g.sub nT)) ha)
      have hv3 : Dp K G3 x2 (dNats (Tf.cnts (i + 1) fs)) := dp_mono g4.gg hvi
      clear hu g3 gT gpT
      -- stops = [at + 1]
      refine ⟨_, rfl, _, _, rfl, rfl, sz1, fun ps nps => ?_⟩
      have gps : G3 ps = none := same_none g4.sub nps
      have hps : H ps = none := g4.back nps
      have hpps : p ≠ ps := ne_of_none e3 nps
      -- for held in item
      obtain ⟨b, ys, rfl, hT2, hB⟩ := dp_tup hv3
      have hys := of_dpa_nats hB
      subst hys
      refine ⟨_, rfl, b, rfl, ⟨_, Same.tup (g4.loc nps).sub hT2⟩, for_tup (K := K) (a := b) (xs := vN (Tf.cnts (i + 1) fs)) (fun j σ H' => ∃ (y7 y8 y9 : Option V), σ = [some (.int k), some (.ref a), some (.ref pf), some (.ref p), some (.int (i : Nat)), some (.ref b), some (.ref ps), y7, y8, y9] ∧
          Grow M0 G H G3 H' ∧ H' p = some (.lst acc) ∧ H' ps = some (.lst (vN (((i + 1) :: fs).take (j + 1))))) ⟨y7, y8, y9, rfl, g4.loc nps, by rw [upd_ne hpps]; exact e3, upd_same⟩ (fun j σ H' _ hP => ?_) (fun j x σ H' hj hP => ?_) (fun σ H' hP => ?_)⟩
      · obtain ⟨_, _, _, _, gg, _⟩ := hP
        exact Same.tup gg.sub hT2
      · obtain ⟨y7, y8, y9, rfl, g5, e5, es⟩ := hP
        obtain ⟨nh, hnh, rfl⟩ := of_vN_get hj
        have hjl : j < fs.length := by
          have := (List.getElem?_eq_some_iff.mp hnh).1
          rw [Tf.cnts_len] at this
          exact this
        have hb2 : fs[j]? = some fs[j] := List.getElem?_eq_getElem hjl
        have ha2 : ((i + 1) :: fs)[j]? = some (((i + 1) :: fs)[j]'(by simp; omega)) := List.getElem?_eq_getElem _
        generalize ((i + 1) :: fs)[j]'(by simp; omega) = av at ha2
        generalize fs[j] = bv at hb2
        have hle := Tf.desc_get _ _ hdes j av bv ha2 hb2
        have hcn := Tf.cnts_get _ _ j av bv ha2 hb2
        rw [hcn] at hnh
        cases hnh
        have et : ((i + 1) :: fs).take (j + 1) = ((i + 1) :: fs).take j ++ [av] := by rw [List.take_add_one, ha2]; rfl
        have et2 : ((i + 1) :: fs).take (j + 1 + 1) = ((i + 1) :: fs).take (j + 1) ++ [bv] := by
          rw [List.take_add_one, List.getElem?_cons_succ, hb2]; rfl
        have hlast : atI (vN (((i + 1) :: fs).take (j + 1))) (-1) = some (.int av) := by
          rw [et]
          show atI ((((i + 1) :: fs).take j ++ [av]).map _) (-1) = _
          rw [List.map_append]
          exact atI_last _ _
        refine ⟨.ref ps, rfl, .inl ⟨rfl, _, SqL.of es⟩, .ref ps, rfl, 1, rfl, ps, _, -1, _, rfl, rfl, SqL.of es, hlast, _, rfl, _, _, rfl, rfl, ps, _, _, rfl, rfl, es, ?_, ?_⟩
        · rw [List.length_map, List.length_take]
          exact szl (by simp; omega)
        · refine ⟨_, _, _, rfl, g5.mut hps gps, by rw [upd_ne hpps]; exact e5, ?_⟩
          rw [upd_same, et2]
          show some (HO.lst (vN (((i + 1) :: fs).take (j + 1)) ++ [V.int ((av : Int) - ((av - bv : Nat) : Int))])) = some (.lst ((((i + 1) :: fs).take (j + 1) ++ [bv]).map _))
          rw [List.map_append]
          have eb : (av : Int) - ((av - bv : Nat) : Int) = (bv : Int) := by omega
          rw [eb]
          rfl
      · obtain ⟨y7, y8, y9, rfl, g5, e5, es⟩ := hP
        have et : ((i + 1) :: fs).take ((vN (Tf.cnts (i + 1) fs)).length + 1) = (i + 1) :: fs := List.take_of_length_le (by rw [List.length_map, Tf.cnts_len]; simp)
        rw [et] at es
        -- the stops are known
        have g6 := g5.abs hps gps es
        have gp6 : (upd G3 ps (.lst (vN ((i + 1) :: fs)))) p = none := by rw [upd_ne hpps]; exact gp3
        have hF6 : SqL K (upd G3 ps (.lst (vN ((i + 1) :: fs)))) pf (vN (Tf.prevAt k t i)) := (same_up gps).seq hF3
        have ha6 := dpa_mono (same_up (o := .lst (vN ((i + 1) :: fs))) gps) ha3
        have hS6 : SqL K (upd G3 ps (.lst (vN ((i + 1) :: fs)))) ps (vN ((i + 1) :: fs)) := SqL.of upd_same
        generalize upd G3 ps (.lst (vN ((i + 1) :: fs))) = G6 at g6 gp6 hF6 ha6 hS6
        clear es et g5 gps hps hpps nps
        -- any([..])
        refine ⟨_, rfl, _, rfl, 1, rfl, ps, _, rfl, g6.sub.seq hS6, fun c1 nc1 => ?_⟩
        rw [cut1]
        have g7 := g6.lay (o := .lst ((vN ((i + 1) :: fs)).drop 1)) nc1
        have gp7 : (upd G6 c1 (.lst ((vN ((i + 1) :: fs)).drop 1))) p = none := by rw [upd_ne (ne_of_none e5 nc1)]; exact gp6
        have e7 : (upd H' c1 (.lst ((vN ((i + 1) :: fs)).drop 1))) p = some (.lst acc) := by rw [upd_ne (ne_of_none e5 nc1)]; exact e5
        have hF7 := (same_up (o := .lst ((vN ((i + 1) :: fs)).drop 1)) (same_none g6.sub nc1)).seq hF6
        have hc7 : SqL K (upd G6 c1 (.lst ((vN ((i + 1) :: fs)).drop 1))) c1 (vN fs) := SqL.of upd_same
        have hS7 := (same_up (o := .lst ((vN ((i + 1) :: fs)).drop 1)) (same_none g6.sub nc1)).seq hS6
        have ha7 := dpa_mono (same_up (o := .lst ((vN ((i + 1) :: fs)).drop 1)) (same_none g6.sub nc1)) ha6
        generalize upd G6 c1 (.lst ((vN ((i + 1) :: fs)).drop 1)) = G7 at g7 gp7 hF7 hc7 hS7 ha7
        generalize upd H' c1 (.lst ((vN ((i + 1) :: fs)).drop 1)) = H7 at g7 e7
        have lp : (Tf.prevAt k t i).length = k := by
          cases i with
          | zero => show (List.replicate k 0).length = k; rw [List.length_replicate]
          | succ i => exact hv.len i (by omega)
        refine ⟨pf, c1, _, _, rfl, g7.sub.seq hF7, g7.sub.seq hc7, fun Dl hDl => ?_⟩
        refine lc_loc (K := K) (Q := fun x H1 => tNil _ H1 fun xs H2 => rAny K (x :: xs) H2 _) (walk_zip (n := k) (xs := vN (Tf.prevAt k t i)) (ys := vN fs) (by simp [lp, hlen])) ((List.range k).map fun _ => PyData.bool false) g7.sub hDl (by rw [List.length_map, List.length_range]) (by omega)
          (fun G1 H1 g => ⟨g.sub.seq (g.gg.seq hF7), g.sub.seq (g.gg.seq hc7)⟩) (fun j x G8 H8 H8' d hj g8 y E hE => ?_) (fun G8 H8 acc8 g8 gn e8 hacc => ?_) (gm_tup (gms_cons gm_name (gms_cons gm_name gms_nil)))
        · obtain ⟨T, x1, x2, rfl, nT, rfl, f1, f2⟩ := y
          obtain ⟨n1, hn1, rfl⟩ := of_vN_get f1
          obtain ⟨n2, hn2, rfl⟩ := of_vN_get f2
          obtain ⟨hjk, rfl⟩ := range_get hj
          have hle := hmon j hjk
          rw [List.getD_eq_getElem?_getD, List.getD_eq_getElem?_getD, hn1, hn2] at hle
          have hle : n1 ≤ n2 := hle
          refine ⟨T, _, rfl, SqT.of upd_same, rfl, _, _, rfl, _, _, rfl, rfl, rfl, ?_⟩
          refine ⟨_, rfl, _, rfl, _, _, rfl, rfl, ?_⟩
          show E (V.bl (decide ((n2 : Int) < (n1 : Int)))) _
          rw [decide_eq_false (show ¬ ((n2 : Int) < (n1 : Int)) by omega)]
          exact hE _ _ _ (grow_new g8.sub nT) (.bl false)
        · have e2 : acc8 = (List.replicate k false).map V.bl := by
            have aux : ∀ (n : Nat) (acc : List V), DpAll K G8 acc (List.replicate n (PyData.bool false)) → acc = (List.replicate n false).map V.bl := by
              intro n
              induction n with
              | zero => intro acc h; cases h; rfl
              | succ n ih =>
                intro acc h
                rw [List.replicate_succ] at h
                cases h with
                | cons h1 h2 =>
                  rw [dp_bl h1, ih _ h2, List.replicate_succ]
                  rfl
            refine aux k acc8 ?_
            rw [← show (List.range k).map (fun _ => PyData.bool false) = List.replicate k (PyData.bool false) by rw [List.map_const', List.length_range]]
            exact hacc
          refine ⟨Dl, List.replicate k false, rfl, by rw [← e2]; exact SqL.of e8, ?_⟩
          have e3 : (List.replicate k false).any id = false := by simp
          rw [e3]
          refine ⟨false, rfl, iteF ?_⟩
          have g9 := g7.trans g8
          have e9 : H8 p = some (.lst acc) := g8.same _ _ e7
          have gp9 : G8 p = none := g8.new _ gp7 (nn_of e7)
          -- firsts = stops[1:]
          have hS8 := g8.gg.seq hS7
          have ha8 := dpa_mono g8.gg ha7
          refine ⟨_, rfl, 1, rfl, ps, _, rfl, g9.sub.seq hS8, fun c2 nc2 => ?_⟩
          rw [cut1]
          have g10 := g9.lay (o := .lst ((vN ((i + 1) :: fs)).drop 1)) nc2
          have gp10 : (upd G8 c2 (.lst ((vN ((i + 1) :: fs)).drop 1))) p = none := by rw [upd_ne (ne_of_none e9 nc2)]; exact gp9
          have e10 : (upd H8 c2 (.lst ((vN ((i + 1) :: fs)).drop 1))) p = some (.lst acc) := by rw [upd_ne (ne_of_none e9 nc2)]; exact e9
          have hc10 : SqL K (upd G8 c2 (.lst ((vN ((i + 1) :: fs)).drop 1))) c2 (vN fs) := SqL.of upd_same
          have hS10 := (same_up (o := .lst ((vN ((i + 1) :: fs)).drop 1)) (same_none g9.sub nc2)).seq hS8
          have ha10 := dpa_mono (same_up (o := .lst ((vN ((i + 1) :: fs)).drop 1)) (same_none g9.sub nc2)) ha8
          generalize upd G8 c2 (.lst ((vN ((i + 1) :: fs)).drop 1)) = G10 at g10 gp10 hc10 hS10 ha10
          generalize upd H8 c2 (.lst ((vN ((i + 1) :: fs)).drop 1)) = H10 at g10 e10
          -- found.append(list(zip(firsts, stops)))
          refine ⟨.ref p, rfl, .inl ⟨rfl, _, SqL.of e10⟩, _, rfl, _, rfl, c2, ps, _, _, rfl, g10.sub.seq hc10, g10.sub.seq hS10, fun H11 pl ts k1 k2 k3 k4 k5 k6 k7 => ?_⟩
          rw [zip_map2] at k7
          obtain ⟨G11, g11, hd11⟩ := grow_pairs (K := K) g10.sub k1 k2 k3 k5 k6 k7
          have gp11 : G11 p = none := g11.new _ gp10 (nn_of e10)
          refine ⟨p, acc, _, rfl, rfl, g11.same _ _ e10, szl (by rw [dpa_len ha, List.length_map, List.length_range]; omega), ?_⟩
          refine ⟨c2, _, _, _, _, _, _, G11, acc ++ [.ref pl], rfl, (g10.trans g11).mut hp gp11, gp11, upd_same, ?_, ?_⟩
          · rw [range_map_succ, hfs]
            exact dpa_app (dpa_mono g11.gg ha10) (dpa_one hd11)
          · show SqL K G11 c2 (vN (Tf.rowAt t i))
            rw [hfs]
            exact g11.gg.seq hc10
    · obtain ⟨pf, y4, y5, y6, y7, y8, y9, G2, acc, rfl, g, gp2, ep, ha, hF⟩ := hP
      rw [hx] at ha
      exact ⟨_, rfl, q _ _ _ (g.abs hp gp2 ep) (dp_lst upd_same (dpa_mono (same_up gp2) ha))⟩
end
end Tw
end
section
set_option maxHeartbeats 8000000
namespace Tw
open PySem PySem.Spec PyProof.Rows L2
/-! ### readings of built-ins by name -/
abbrev rLn (K : PySem.W.Frag) : List V → Hp → VK → Prop := fun xs H Q => ∃ p ys, xs = [.ref p] ∧ (SqL K H p ys ∨ SqT K H p ys) ∧ Q (.int ys.length) H
abbrev rTpl (K : PySem.W.Frag) : List V → Hp → VK → Prop := fun xs H Q => ∃ p ys, xs = [.ref p] ∧ ((SqL K H p ys ∧ ∀ l, H l = none → Q (.ref l) (upd H l (.tup ys))) ∨ (SqT K H p ys ∧ Q (.ref p) H))
abbrev rLst (K : PySem.W.Frag) : List V → Hp → VK → Prop := fun xs H Q => ∃ p ys, xs = [.ref p] ∧ (SqL K H p ys ∨ SqT K H p ys) ∧ ∀ l, H l = none → Q (.ref l) (upd H l (.lst ys))
/-! ### defs with the keyword-only parameters low=0, high=None -/
abbrev ksLH : List Str := ["low", "high"]
structure DefK (K : PySem.W.Frag) (mg : Str → Option Value) (x : Str) (st : Stmt) (ps : List Str) (n : Nat) : Prop where
  ex : ∃ f fd ds, Fun K x x st f fd ∧ mg x = some (.ref f) ∧ KBn K fd ps n ksLH (fun us ws => us ++ ws) (fun vs zs => vs ++ zs) ∧ Vals [.int 0, .non] ds ∧ Binds K fd ps ds
structure CalK (P : Program) (w : World) (K : PySem.W.Frag) (mg : Str → Option Value) (base : Heap) (k : Nat) (x : Str) (ps : List Str) (n : Nat) (sp : Sp) : Prop where
  ex : ∃ f fd ds, FnOk P w K mg base CX0 k f fd ps sp ∧ mg x = some (.ref f) ∧ PySem.W.keepIn K (.ref f) = true ∧ KBn K fd ps n ksLH (fun us ws => us ++ ws) (fun vs zs => vs ++ zs) ∧ Vals [.int 0, .non] ds ∧ Binds K fd ps ds
section
variable {P : Program} {w : World} {K : PySem.W.Frag} {mg : Str → Option Value} {base : Heap} {x : Str} {st : Stmt} {N ps : List Str} {k n : Nat} {sp : Sp}
theorem DefK.ok (D : DefK K mg x st ps n) (S : FnScope N ps (defScope st)) (len : ∀ vs H Q E, sp vs H Q E → vs.length = ps.length)
    (hbody : ∀ (f : Addr) (cdv : Value) (A : Around) (outer : List Env) (s : Shared) (H : Hp) (vs : List V) (Q : VK) (E : XK), Room k (A.deeper (envOfC x (defScope st) s.heap.objs.size f cdv)) → sp vs H Q E →
      ∃ t, PSs (cxOf CX0 P w K mg base N x (defScope st) f cdv A outer s H E).nox (defBody st) t ∧ t { nx := fun _ H' => Q .non H', rt := Q } (start N vs) H) : CalK P w K mg base (k + 1) x ps n sp := by
  obtain ⟨f, fd, ds, F, hm, hb, hv, hd⟩ := D.ex
  exact ⟨f, fd, ds, F.ok S len (fun cdv A outer s H vs Q E hr h => hbody f cdv A outer s H vs Q E hr h), hm, F.kp, hb, hv, hd⟩
end
section
variable {X : Cx} {k n : Nat} {ps : List Str} {sp : Sp} {x : Str} {p pos : Pos} {e : Expr} {es : List Expr} {kws : List Keyword} {t tk : TA}
/-- f(.., low=.., high=..) -/
theorem pe_calK (C : CalK X.prog X.w X.K X.mg X.base k x ps n sp) (hr : Room k X.A) (hg : Gl X x) (ha : PA X (e :: es) t) (hkw : PK X kws tk) (hall : (backToKw pos (keywordEach kws X.env)).all (·.1.isSome) = true := by rfl) (hks : (backToKw pos (keywordEach kws X.env)).filterMap (·.1) = ksLH := by rfl)
    (hdb : (x == ("__debug__" : Str)) = false := by decide) (he : starEach (e :: es) X.env = (false, eval e X.env) :: starEach es X.env := by rfl)
    (hpl : ((backTo pos (starEach (e :: es) X.env)).any (·.1) || (backToKw pos (keywordEach kws X.env)).any (·.1.isNone)) = false := by rfl) :
    PE X (.Call (.Name x p) (e :: es) kws pos) (tCallN n 2 sp (fun vs zs => vs ++ zs) E0 t tk) := by
  obtain ⟨f, fd, ds, F, hm, hk, hb, hv, hd⟩ := C.ex
  exact pe_callN F hr hg hm hk hb pass0 ha hkw hall hks hdb he hpl
/-- f(..), low and high by default -/
theorem pe_cal0 (C : CalK X.prog X.w X.K X.mg X.base k x ps n sp) (hr : Room k X.A) (hg : Gl X x) (ha : PA X (e :: es) t) (hdb : (x == ("__debug__" : Str)) = false := by decide)
    (he : starEach (e :: es) X.env = (false, eval e X.env) :: starEach es X.env := by rfl) (hpl : (backTo pos (starEach es X.env)).any (·.1) = false := by rfl) :
    PE X (.Call (.Name x p) (e :: es) [] pos) (tCall sp [.int 0, .non] E0 t) := by
  obtain ⟨f, fd, ds, F, hm, hk, hb, hv, hd⟩ := C.ex
  exact pe_call F hr hg hm hk hd hv pass0 ha hdb he hpl
end
/-! ### tiers as data, the list of facts while it grows -/
abbrev Tiers := List (Nat × Int)
def dTier (q : Nat × Int) : PyData := .tuple [.int q.1, .int q.2]
def dTiers (ts : Tiers) : PyData := .list (ts.map dTier)
structure FAt (K : PySem.W.Frag) (G0 H0 : Hp) (p : Addr) (G : Hp) (fs : List Tf.Fa) (H : Hp) : Prop where
  g : Grow M0 G0 H0 G H
  np : G p = none
  ex : ∃ acc, H p = some (.lst acc) ∧ DpAll K G acc (fs.map dFa)
theorem FAt.push {K : PySem.W.Frag} {G0 H0 G H : Hp} {p t1 t2 : Addr} {fs : List Tf.Fa} {va vb vv : Int} (h : FAt K G0 H0 p G fs H) (hp : H0 p = none) (f : Tf.Fa) (hl : fs.length < 50000) (n1 : H t1 = none) (n2 : (upd H t1 (.tup [.int va, .int vb])) t2 = none)
    (ha : va = f.a := by rfl) (hb : vb = f.b := by rfl) (hv : vv = f.v := by rfl) :
    ∃ acc, (upd (upd H t1 (.tup [.int va, .int vb])) t2 (.tup [.str (wordOf f.mst), .ref t1, .int vv])) p = some (.lst acc) ∧ acc.length < sizeLine ∧
      ∃ G2, Same G G2 ∧ FAt K G0 H0 p G2 (fs ++ [f]) (upd (upd (upd H t1 (.tup [.int va, .int vb])) t2 (.tup [.str (wordOf f.mst), .ref t1, .int vv])) p (.lst (acc ++ [.ref t2]))) := by
  subst ha hb hv
  obtain ⟨g, np, acc, e, a⟩ := h
  have g1 := g.lay (o := .tup [.int f.a, .int f.b]) n1
  have g2 := g1.lay (o := .tup [.str (wordOf f.mst), .ref t1, .int f.v]) n2
  have e1 : (upd H t1 (.tup [.int f.a, .int f.b])) p = some (.lst acc) := by rw [upd_ne (ne_of_none e n1)]; exact e
  have p1 : (upd G t1 (.tup [.int f.a, .int f.b])) p = none := by rw [upd_ne (ne_of_none e n1)]; exact np
  have e2 : (upd (upd H t1 (.tup [.int f.a, .int f.b])) t2 (.tup [.str (wordOf f.mst), .ref t1, .int f.v])) p = some (.lst acc) := by rw [upd_ne (ne_of_none e1 n2)]; exact e1
  have p2 : (upd (upd G t1 (.tup [.int f.a, .int f.b])) t2 (.tup [.str (wordOf f.mst), .ref t1, .int f.v])) p = none := by rw [upd_ne (ne_of_none e1 n2)]; exact p1
  have s12 : Same G (upd (upd G t1 (.tup [.int f.a, .int f.b])) t2 (.tup [.str (wordOf f.mst), .ref t1, .int f.v])) := (same_up (same_none g.sub n1)).trans (same_up (same_none g1.sub n2))
  have h1 : (upd (upd G t1 (.tup [.int f.a, .int f.b])) t2 (.tup [.str (wordOf f.mst), .ref t1, .int f.v])) t1 = some (.tup [.int f.a, .int f.b]) := same_up (same_none g1.sub n2) _ _ upd_same
  refine ⟨acc, e2, szl (by rw [dpa_len a, List.length_map]; omega), _, s12, g2.mut hp p2, p2, _, upd_same, ?_⟩
  rw [List.map_append]
  exact dpa_app (dpa_mono s12 a) (dpa_one (dp_tpl upd_same (.cons (.str _) (.cons (dp_tpl h1 (.cons (.int _) (.cons (.int _) .nil))) (.cons (.int _) .nil)))))
theorem FAt.grow {K : PySem.W.Frag} {G0 H0 G H G' H' : Hp} {p : Addr} {fs : List Tf.Fa} (h : FAt K G0 H0 p G fs H) (g : Grow M0 G H G' H') : FAt K G0 H0 p G' fs H' := by
  obtain ⟨g0, np, acc, e, a⟩ := h
  exact ⟨g0.trans g, g.new _ np (nn_of e), acc, g.same _ _ e, dpa_mono g.gg a⟩
theorem getD_of {α : Type} {xs : List α} {j : Nat} {x d : α} (h : xs[j]? = some x) : xs.getD j d = x := by
  rw [List.getD_eq_getElem?_getD, h]; rfl
theorem getD_vN {ns : List Nat} {j : Nat} (h : j < ns.length) : (vN ns)[j]? = some (.int (ns.getD j 0)) := by
  rw [List.getElem?_map, List.getElem?_eq_getElem h, getD_of (List.getElem?_eq_getElem h)]; rfl
section
variable {P : Program} {w : World} {K : PySem.W.Frag} {mg : Str → Option Value} {base : Heap}
/-! ### facts -/
abbrev sFacts : Stmt := topS 12
abbrev nFacts : List Str := ["tiers", "seen", "measure", "low", "high", "rows", "found", "number", "before", "row", "at", "first", "stop"]
abbrev psTS : List Str := ["tiers", "seen", "measure", "low", "high"]
theorem scFacts : FnScope nFacts psTS (defScope sFacts) := ⟨rfl, rfl, rfl, by decide +kernel, rfl, by decide +kernel, by decide +kernel⟩
/-- a list of facts comes back, not yet known to the view -/
def GvF (K : PySem.W.Frag) (G H : Hp) (fs : List Tf.Fa) (Q : VK) : Prop := ∀ p xs G' H', Grow M0 G H G' H' → H p = none → G' p = none → H' p = some (.lst xs) → DpAll K G' xs (fs.map dFa) → Q (.ref p) H'
def spFacts (K : PySem.W.Frag) : Sp := fun vs H Q _ => ∃ (G : Hp) (vt v : V) (ts : Tiers) (t : Tf.Tab) (m : Nat) (low : Int) (high : Option Int), Same G H ∧ vs = [vt, v, .int m, .int low, vOI high] ∧ Dp K G vt (dTiers ts) ∧ Dp K G v (dSeen t) ∧
  Tf.Valid ts.length t ∧ ts.length ≤ 10 ∧ t.length ≤ 100 ∧ GvF K G H (Tf.factsM ts t m low high) Q
/-- behind i rows -/
def FRow (K : PySem.W.Frag) (G H : Hp) (p : Addr) (G1 : Hp) (ts : Tiers) (t : Tf.Tab) (m : Nat) (low : Int) (high : Option Int) (at_ as ar : Addr) (y7 : Option V) (i : Nat) (σ : L2.St) (H' : Hp) : Prop :=
  ∃ (bf : Addr) (y9 y10 y11 y12 : Option V) (G' : Hp), σ = [some (.ref at_), some (.ref as), some (.int m), some (.int low), some (vOI high), some (.ref ar), some (.ref p), y7, some (.ref bf), y9, y10, y11, y12] ∧ Same G1 G' ∧
    SqL K G' bf (vN (Tf.prevAt ts.length t i)) ∧ FAt K G H p G' ((List.range t.length).flatMap (Tf.bnds low high) ++ (List.range i).flatMap (Tf.rowFs ts t m)) H'
theorem ok_facts (D : DefK K mg "facts" sFacts psTS 3) (C_stretches_seen : Cal P w K mg base 3 "stretches_seen" ["size", "seen"] (spStr K)) (z_len : mg "len" = none) (z_range : mg "range" = none) (z_enumerate : mg "enumerate" = none) : CalK P w K mg base 4 "facts" psTS 3 (spFacts K) := by
  refine D.ok scFacts (fun vs H Q E h => ?_) (fun f cdv A outer s H vs Q E hr h => ?_)
  · obtain ⟨G, vt, v, ts, t, m, low, high, _, rfl, _⟩ := h
    rfl
  · obtain ⟨G, vt, v, ts, t, m, low, high, sG, rfl, hdt, hds, hv, hk, hn, q⟩ := h
    refine ⟨_, (pss_cons (ps_set (i := 5) scFacts.nd rfl (.inl rfl) (pe_cal C_stretches_seen (hr.mono (by decide)) (by rfl) (pa_cons (pe_callB (r := rLn K) call_len_seq (by rfl) z_len PySem.boot_len (pa_cons (pv 0) pa_nil)) (pa_cons (pv 1) pa_nil))))
  (pss_cons (ps_set (i := 6) scFacts.nd rfl (.inl rfl) (pe_lst pa_nil))
  (pss_cons (ps_for PassesOwn.never rfl (pi_range1 (by rfl) z_range (pa_cons (pe_callB (r := rLn K) call_len_seq (by rfl) z_len PySem.boot_len (pa_cons (pv 1) pa_nil)) pa_nil)) (pg_name (i := 7) scFacts.nd rfl (.inl rfl))
  (pss_cons (ps_expr (pe_bm PySem.F.plainAttrs_list PySem.F.slot_list_append PySem.F.type_list_append mt_append (pv 6) (pa_cons (pe_tup (pa_cons pe_str (pa_cons (pe_tup (pa_cons (pv 7) (pa_cons (pe_op op_add (pv 7) pe_int) pa_nil))) (pa_cons (pv 3) pa_nil)))) pa_nil)))
  (pss_one (ps_if (pt_cmpR op_notN (pv 4) pe_non (nomark _))
  (pss_one (ps_expr (pe_bm PySem.F.plainAttrs_list PySem.F.slot_list_append PySem.F.type_list_append mt_append (pv 6) (pa_cons (pe_tup (pa_cons pe_str (pa_cons (pe_tup (pa_cons (pv 7) (pa_cons (pe_op op_add (pv 7) pe_int) pa_nil))) (pa_cons (pv 4) pa_nil)))) pa_nil))))
  pss_nil))))
  (pss_cons (ps_set (i := 8) scFacts.nd rfl (.inl rfl) (pe_op op_rep (pe_lst (pa_cons pe_int pa_nil)) (pe_callB (r := rLn K) call_len_seq (by rfl) z_len PySem.boot_len (pa_cons (pv 0) pa_nil))))
  (pss_cons (ps_for PassesOwn.never rfl (pi_list (pv 5)) (pg_name (i := 9) scFacts.nd rfl (.inl rfl))
  (pss_cons (ps_for PassesOwn.never rfl (pi_enum (by rfl) z_enumerate (pa_cons (pv 9) pa_nil)) (pg_tup rfl (pgs_cons (pg_name (i := 10) scFacts.nd rfl (.inl rfl)) (pgs_cons (pg_tup rfl (pgs_cons (pg_name (i := 11) scFacts.nd rfl (.inl rfl)) (pgs_cons (pg_name (i := 12) scFacts.nd rfl (.inl rfl)) pgs_nil))) pgs_nil)))
  (pss_one (ps_if (pt_cmpR op_eq (pe_ix (r := rIxT K) ix_tup (pe_ix (r := rIxL K) ix_list (pv 0) (pv 10) (fun _ _ => rfl)) pe_int (fun _ _ => rfl)) (pv 2) (nomark _))
  (pss_cons (ps_if (pt_cmpR op_lt (pv 11) (pv 12) (nomark _))
  (pss_one (ps_expr (pe_bm PySem.F.plainAttrs_list PySem.F.slot_list_append PySem.F.type_list_append mt_append (pv 6) (pa_cons (pe_tup (pa_cons pe_str (pa_cons (pe_tup (pa_cons (pv 11) (pa_cons (pv 12) pa_nil))) (pa_cons (pe_ix (r := rIxT K) ix_tup (pe_ix (r := rIxL K) ix_list (pv 0) (pv 10) (fun _ _ => rfl)) pe_int (fun _ _ => rfl)) pa_nil)))) pa_nil))))
  pss_nil)
  (pss_one (ps_if (pt_cmpR op_gt (pv 11) (pe_ix (r := rIxL K) ix_list (pv 8) (pv 10) (fun _ _ => rfl)) (nomark _))
  (pss_one (ps_expr (pe_bm PySem.F.plainAttrs_list PySem.F.slot_list_append PySem.F.type_list_append mt_append (pv 6) (pa_cons (pe_tup (pa_cons pe_str (pa_cons (pe_tup (pa_cons (pe_op op_sub (pv 11) pe_int) (pa_cons (pv 12) pa_nil))) (pa_cons (pe_op op_add (pe_ix (r := rIxT K) ix_tup (pe_ix (r := rIxL K) ix_list (pv 0) (pv 10) (fun _ _ => rfl)) pe_int (fun _ _ => rfl)) pe_int) pa_nil)))) pa_nil))))
  pss_nil)))
  pss_nil)))
  (pss_one (ps_setLc (i := 8) (own := [("first", 11), ("stop", 12)]) (g := (gTup K 2 (gCons (gName 11) (gCons (gName 12) gNil)))) (tt := tYes) rfl scFacts.nd rfl rfl (sw_true rfl rfl rfl (by decide +kernel)) (pi_list (pv 9)) (blkOk_by (N := nFacts) (sc := defScope sFacts) (by decide +kernel)) (fun _ _ _ _ _ => (pg_tup rfl (pgs_cons (pg_name (i := 11) scFacts.nd rfl (.inl rfl)) (pgs_cons (pg_name (i := 12) scFacts.nd rfl (.inl rfl)) pgs_nil)))) (fun _ _ _ _ _ => pts_nil) (fun _ _ _ _ _ => (pv 11))))))
  (pss_one (ps_ret (pv 6)))))))), ?_⟩
    obtain ⟨at_, txs, rfl, hLt, hAt⟩ := dp_list hdt
    obtain ⟨as, sxs, rfl, hLs, hAs⟩ := dp_list hds
    have hxt : txs.length = ts.length := by rw [dpa_len hAt, List.length_map]
    have hxs : sxs.length = t.length := by rw [dpa_len hAs, List.length_map, List.length_range]
    -- rows = stretches_seen(len(tiers), seen)
    refine ⟨_, rfl, at_, txs, rfl, .inl (sG.seq hLt), _, rfl, G, .ref as, txs.length, t, sG, rfl, hds, by rw [hxt]; exact hv, by omega, by omega, fun vr G1 H1 g1 hr1 => ?_⟩
    obtain ⟨ar, rxs, rfl, hLr, hAr⟩ := dp_list hr1
    -- found = []
    refine ⟨Nat.zero_le _, fun p np => ?_⟩
    have hp : H p = none := g1.back np
    have F0 : FAt K G H p G1 [] (upd H1 p (.lst [])) := ⟨g1.loc np, same_none g1.sub np, [], upd_same, .nil⟩
    -- for number in range(len(seen))
    refine ⟨_, rfl, as, sxs, rfl, .inl (F0.g.sub.seq (g1.gg.seq hLs)), _, rfl, by omega, by omega, ?_⟩
    have en : ((sxs.length : Int)).toNat = t.length := by omega
    rw [en]
    refine for_range (lo := 0) (n := t.length) (fun i σ H' => ∃ (y7 : Option V) (G' : Hp), σ = [some (.ref at_), some (.ref as), some (.int m), some (.int low), some (vOI high), some (.ref ar), some (.ref p), y7, none, none, none, none, none] ∧ Same G1 G' ∧
      FAt K G H p G' ((List.range i).flatMap (Tf.bnds low high)) H') ⟨none, G1, rfl, Same.refl _, F0⟩ ?_ ?_
    · rintro i σ H2 hi ⟨y7, G2, rfl, s2, F2⟩
      have hl2 : ((List.range i).flatMap (Tf.bnds low high)).length < 50000 := by
        have := Tf.fm_len (Tf.bnds_len low high) i
        omega
      have e0 : (0 : Int) + (i : Int) = (i : Int) := by omega
      -- found.append(("least", (number, number + 1), low))
      obtain ⟨_, np2, acc0, ep2, _⟩ := id F2
      refine ⟨.ref p, rfl, .inl ⟨rfl, _, SqL.of ep2⟩, .int ((0 : Int) + (i : Int)), rfl, .int ((0 : Int) + (i : Int)), rfl, (0 : Int) + (i : Int), 1, rfl, rfl, sz2, fun t1 n1 => ?_⟩
      refine ⟨_, rfl, sz3, fun t2 n2 => ?_⟩
      rw [e0] at n2 ⊢
      obtain ⟨acc, ea, hla, G3, s3, F3⟩ := F2.push (vv := low) hp ⟨false, i, i + 1, low⟩ hl2 n1 n2
      refine ⟨p, acc, .ref t2, rfl, rfl, ea, hla, ?_⟩
      -- if high is not None
      refine ⟨_, rfl, rfl, _, rfl, ?_⟩
      cases hh : high with
      | none =>
        refine iteF ?_
        refine ⟨_, G3, rfl, s2.trans s3, ?_⟩
        rw [Tf.fm_succ]
        rw [hh] at F3
        exact F3
      | some hv' =>
        refine iteT ?_
        obtain ⟨_, np3, acc1, ep3, _⟩ := id F3
        have e1 : ((i : Int)) + 1 = ((i + 1 : Nat) : Int) := by omega
        refine ⟨.ref p, rfl, .inl ⟨rfl, _, SqL.of ep3⟩, .int (i : Int), rfl, .int (i : Int), rfl, (i : Int), 1, rfl, rfl, sz2, fun t3 n3 => ?_⟩
        refine ⟨_, rfl, sz3, fun t4 n4 => ?_⟩
        obtain ⟨acc2, ea2, hla2, G4, s4, F4⟩ := F3.push (vv := hv') hp ⟨true, i, i + 1, hv'⟩ (by rw [List.length_append]; simp only [List.length_cons, List.length_nil]; have := Tf.fm_len (Tf.bnds_len low high) i; omega) n3 n4
        refine ⟨p, acc2, .ref t4, rfl, rfl, ea2, hla2, ?_⟩
        refine ⟨_, G4, rfl, (s2.trans s3).trans s4, ?_⟩
        rw [Tf.fm_succ]
        rw [hh] at F4
        rw [List.append_assoc] at F4
        exact F4
    · rintro σ H2 ⟨y7, G2, rfl, s2, F2⟩
      -- before = [0] * len(tiers)
      refine ⟨sz1, fun p1 np1 => ?_⟩
      have g2' := (grow_loc (M := M0) (o := .lst [.int 0]) F2.g.sub np1)
      refine ⟨_, rfl, at_, txs, rfl, .inl (g2'.sub.seq (s2.seq (g1.gg.seq hLt))), p1, txs.length, [.int 0], rfl, rfl, upd_same, by omega, by omega, sz (by show 1 * ((txs.length : Int)).toNat ≤ 100000; omega), fun pb npb => ?_⟩
      have ek : ((txs.length : Int)).toNat = ts.length := by omega
      rw [ek, flat_rep]
      have gb := g2'.trans (grow_new (M := M0) (o := .lst (List.replicate ts.length (.int 0))) g2'.sub npb)
      have F5 := F2.grow gb
      have hB0 : SqL K (upd G2 pb (.lst (List.replicate ts.length (.int 0)))) pb (vN (Tf.prevAt ts.length t 0)) := by
        have e : vN (Tf.prevAt ts.length t 0) = List.replicate ts.length (.int 0) := by
          show (List.replicate ts.length 0).map (fun (n : Nat) => V.int n) = _
          rw [List.map_replicate]
          rfl
        rw [e]
        exact SqL.of upd_same
      have s5 := s2.trans gb.gg
      generalize upd G2 pb (.lst (List.replicate ts.length (.int 0))) = G5 at F5 hB0 s5
      generalize upd (upd H2 p1 (.lst [.int 0])) pb (.lst (List.replicate ts.length (.int 0))) = H5 at F5
      clear gb g2' npb np1
      -- for row in rows
      have hxr : rxs.length = t.length := by rw [dpa_len hAr, List.length_map, List.length_range]
      refine ⟨_, rfl, ar, rfl, ⟨rxs, F5.g.sub.seq (s5.seq hLr)⟩, for_list (K := K) (a := ar) (xs := rxs) (FRow K G H p G1 ts t m low high at_ as ar y7) ⟨pb, none, none, none, none, G5, rfl, s5, hB0, by simpa using F5⟩ (fun i σ H' _ hP => ?_) (fun i x σ H' hi hP => ?_) (fun σ H' hP => ?_)⟩
      · obtain ⟨_, _, _, _, _, G', _, s', _, F⟩ := hP
        exact F.g.sub.seq (s'.seq hLr)
      · obtain ⟨bf, y9, y10, y11, y12, G6, rfl, s6, hB, F6⟩ := hP
        obtain ⟨d0, hd0, hrow⟩ := dpa_getV hAr hi
        obtain ⟨hit, rfl⟩ := range_get hd0
        obtain ⟨aw, wxs, rfl, hLw, hAw⟩ := dp_list hrow
        have hlen := hv.len i hit
        have hwl : wxs.length = ts.length := by rw [dpa_len hAw, List.length_map, List.length_zip, List.length_cons, hlen]; omega
        have lp : (Tf.prevAt ts.length t i).length = ts.length := by
          cases i with
          | zero => show (List.replicate ts.length 0).length = ts.length; rw [List.length_replicate]
          | succ i => exact hv.len i (by omega)
        have hbl : ∀ j, j ≤ ts.length → ((List.range t.length).flatMap (Tf.bnds low high) ++ (List.range i).flatMap (Tf.rowFs ts t m) ++ (List.range j).flatMap (Tf.cellFs ts t m i)).length < 40000 := fun j hj => by
          rw [List.length_append, List.length_append]
          have a1 := Tf.fm_len (Tf.bnds_len low high) t.length
          have a2 := Tf.fm_len (Tf.rowFs_len ts t m) i
          have a3 := Tf.fm_len (Tf.cellFs_len ts t m i) j
          have a4 : 2 * ts.length * i ≤ 20 * 100 := Nat.mul_le_mul (by omega) (by omega)
          omega
        -- for at, (first, stop) in enumerate(row)
        refine ⟨_, rfl, aw, wxs, rfl, F6.g.sub.seq (s6.seq hLw), ?_⟩
        refine for_it (walk_enum (K := K) (a := aw) (xs := wxs)) (fun j σ H' => ∃ (y10 y11 y12 : Option V) (G' : Hp), σ = [some (.ref at_), some (.ref as), some (.int m), some (.int low), some (vOI high), some (.ref ar), some (.ref p), y7, some (.ref bf), some (.ref aw), y10, y11, y12] ∧ Same G6 G' ∧
          FAt K G H p G' ((List.range t.length).flatMap (Tf.bnds low high) ++ (List.range i).flatMap (Tf.rowFs ts t m) ++ (List.range j).flatMap (Tf.cellFs ts t m i)) H') ⟨y10, y11, y12, G6, rfl, Same.refl _, by simpa using F6⟩ (fun j σ H' _ hP => ?_) (fun j x σ H7 H7' hj hP hy => ?_) (fun σ H' hP => ?_)
        · obtain ⟨_, _, _, G', _, s', F⟩ := hP
          exact F.g.sub.seq (s'.seq (s6.seq hLw))
        · obtain ⟨y10, y11, y12, G7, rfl, s7, F7⟩ := hP
          obtain ⟨T, x1, x2, rfl, nT, rfl, f1, f2⟩ := hy
          have f1 : some (V.int (j : Nat)) = some x1 := f1
          have f2 : wxs[j]? = some x2 := f2
          cases f1
          have hjk : j < ts.length := by omega
          obtain ⟨d1, hd1, hpr⟩ := dpa_getV hAw f2
          obtain ⟨⟨fv, sv⟩, hz, rfl⟩ := get_map hd1
          obtain ⟨hfv, hsv⟩ := List.getElem?_zip_eq_some.mp hz
          obtain ⟨pp, pxs, rfl, hTp, hAp⟩ := dp_tup hpr
          obtain rfl : pxs = [.int fv, .int sv] := by
            cases hAp with
            | cons h1 hA =>
              cases hA with
              | cons h2 hA =>
                cases hA
                rw [dp_int h1, dp_int h2]
          have F8 := F7.grow (grow_new (M := M0) (o := .tup [V.int (j : Nat), .ref pp]) F7.g.sub nT)
          have s8 : Same G6 (upd G7 T (.tup [V.int (j : Nat), .ref pp])) := s7.trans (same_up (same_none F7.g.sub nT))
          have hT8 : SqT K (upd G7 T (.tup [V.int (j : Nat), .ref pp])) T [V.int (j : Nat), .ref pp] := SqT.of upd_same
          generalize upd G7 T (.tup [V.int (j : Nat), .ref pp]) = G8 at F8 s8 hT8
          generalize upd H7 T (.tup [V.int (j : Nat), .ref pp]) = H8 at F8
          refine ⟨T, _, rfl, Same.tup F8.g.sub hT8, rfl, _, _, rfl, _, _, rfl, ⟨pp, _, rfl, Same.tup F8.g.sub (Same.tup s8 (Same.tup s6 hTp)), rfl, _, _, rfl, _, _, rfl, rfl, rfl, ?_⟩⟩
          -- tiers[at][0] == measure
          obtain ⟨⟨tm, tl⟩, htj⟩ : ∃ q, ts[j]? = some q := ⟨ts[j], List.getElem?_eq_getElem hjk⟩
          obtain ⟨tv, htv, htd⟩ := dpa_get hAt (show (ts.map dTier)[j]? = some (dTier (tm, tl)) by rw [List.getElem?_map, htj]; rfl)
          obtain ⟨tp, txs2, rfl, hTt, hAtt⟩ := dp_tup htd
          obtain rfl : txs2 = [.int tm, .int tl] := by
            cases hAtt with
            | cons h1 hA =>
              cases hA with
              | cons h2 hA =>
                cases hA
                rw [dp_int h1, dp_int h2]
          have sG8 : Same G1 G8 := s6.trans s8
          have hLt8 : SqL K H8 at_ txs := F8.g.sub.seq (sG8.seq (g1.gg.seq hLt))
          have hTt8 : SqT K H8 tp [.int tm, .int tl] := Same.tup F8.g.sub (Same.tup sG8 (Same.tup g1.gg hTt))
          have ec : Tf.cellFs ts t m i j = Tf.tierFs m (tm, tl) ((Tf.prevAt ts.length t i).getD j 0) fv sv := by
            show Tf.tierFs m (Tf.tierAt ts j) _ _ _ = _
            rw [show Tf.tierAt ts j = (tm, tl) from getD_of htj, getD_of hfv, getD_of hsv]
          have hpf : (vN (Tf.prevAt ts.length t i))[j]? = some (.int ((Tf.prevAt ts.length t i).getD j 0)) := getD_vN (by omega)
          generalize (Tf.prevAt ts.length t i).getD j 0 = pf at ec hpf
          have hb1 := hbl j (by omega)
          refine ⟨_, rfl, _, rfl, at_, txs, (j : Nat), _, rfl, rfl, hLt8, atI_nat htv, tp, _, 0, _, rfl, rfl, hTt8, atI_nat (j := 0) rfl, _, rfl, rfl, _, rfl, ?_⟩
          by_cases hm : ¬ tm = m
          · rw [decide_eq_false (show ¬ (V.int (tm : Int) = V.int (m : Int)) from fun z => hm (by have := V.int.inj z; omega))]
            refine iteF ?_
            refine ⟨_, _, _, G8, rfl, s8, ?_⟩
            rw [Tf.fm_succ, ec]
            unfold Tf.tierFs
            rw [if_neg hm, List.append_nil]
            exact F8
          · have hm : tm = m := Decidable.byContradiction hm
            rw [hm, decide_eq_true rfl]
            refine iteT ?_
            have ec2 : Tf.cellFs ts t m i j = (if fv < sv then [⟨true, fv, sv, tl⟩] else []) ++ (if pf < fv then [⟨false, fv - 1, sv, tl + 1⟩] else []) := by
              rw [ec]
              unfold Tf.tierFs
              rw [if_pos hm]
            -- the second if, from any list
            have second : ∀ (G9 H9 : Hp) (fs : List Tf.Fa), Same G6 G9 → FAt K G H p G9 fs H9 → fs.length < 45000 → ∀ D : Ends, (∀ G10 H10, Same G6 G10 → FAt K G H p G10 (fs ++ (if pf < fv then [⟨false, fv - 1, sv, tl + 1⟩] else [])) H10 →
                D.nx [some (.ref at_), some (.ref as), some (.int m), some (.int low), some (vOI high), some (.ref ar), some (.ref p), y7, some (.ref bf), some (.ref aw), some (.int (j : Nat)), some (.int fv), some (.int sv)] H10) →
                (tIfS (tTest (tOp (rI0 fun i j => V.bl (decide (j < i))) (tVar 11) (tOp (rIxL K) (tVar 8) (tVar 10))))
                  (tDrop (tBM K "list" rAppend (tVar 6) (tCons (tTup (tCons (tC (.str "least")) (tCons (tTup (tCons (tOp (rI0 fun i j => V.int (i - j)) (tVar 11) (tC (.int 1))) (tCons (tVar 12) tNil))) (tCons (tOp (rI0 fun i j => V.int (i + j)) (tOp (rIxT K) (tOp (rIxL K) (tVar 0) (tVar 10)) (tC (.int 1))) (tC (.int 1))) tNil)))) tNil))) tNext) D
                  [some (.ref at_), some (.ref as), some (.int m), some (.int low), some (vOI high), some (.ref ar), some (.ref p), y7, some (.ref bf), some (.ref aw), some (.int (j : Nat)), some (.int fv), some (.int sv)] H9 := fun G9 H9 fs s9 F9 hfl D hD => by
              have sG9 : Same G1 G9 := s6.trans s9
              refine ⟨_, rfl, _, rfl, _, rfl, bf, _, (j : Nat), _, rfl, rfl, F9.g.sub.seq (s9.seq hB), atI_nat hpf, _, _, rfl, rfl, _, rfl, ?_⟩
              by_cases hlt : pf < fv
              · rw [decide_eq_true (show ((pf : Nat) : Int) < (fv : Int) by omega)]
                refine iteT ?_
                rw [if_pos hlt] at hD
                obtain ⟨_, np9, acc9, ep9, _⟩ := id F9
                refine ⟨.ref p, rfl, .inl ⟨rfl, _, SqL.of ep9⟩, .int fv, rfl, (fv : Int), 1, rfl, rfl, .int sv, rfl, sz2, fun t1 n1 => ?_⟩
                have hTn : SqT K (upd H9 t1 (.tup [V.int ((fv : Int) - 1), .int sv])) tp [.int tm, .int tl] := Same.tup (same_up n1) (Same.tup F9.g.sub (Same.tup sG9 (Same.tup g1.gg hTt)))
                have hLn : SqL K (upd H9 t1 (.tup [V.int ((fv : Int) - 1), .int sv])) at_ txs := (same_up n1).seq (F9.g.sub.seq (sG9.seq (g1.gg.seq hLt)))
                refine ⟨.ref at_, rfl, .int (j : Nat), rfl, at_, txs, (j : Nat), _, rfl, rfl, hLn, atI_nat htv, tp, _, 1, _, rfl, rfl, hTn, atI_nat (j := 1) rfl, ?_⟩
                have ef : (fv : Int) - 1 = ((fv - 1 : Nat) : Int) := by omega
                refine ⟨_, _, rfl, rfl, sz3, fun t2 n2 => ?_⟩
                obtain ⟨acc, ea, hla, G10, s10, F10⟩ := F9.push (vv := tl + 1) hp ⟨false, fv - 1, sv, tl + 1⟩ (by omega) n1 n2 ef
                exact ⟨p, acc, .ref t2, rfl, rfl, ea, hla, hD G10 _ (s9.trans s10) F10⟩
              · rw [decide_eq_false (show ¬ ((pf : Nat) : Int) < (fv : Int) by omega)]
                refine iteF ?_
                rw [if_neg hlt, List.append_nil] at hD
                exact hD G9 H9 s9 F9
            -- if first < stop
            refine ⟨_, rfl, _, rfl, _, _, rfl, rfl, _, rfl, ?_⟩
            by_cases hlt : fv < sv
            · rw [decide_eq_true (show ((fv : Nat) : Int) < (sv : Int) by omega)]
              refine iteT ?_
              obtain ⟨_, np8, acc8, ep8, _⟩ := id F8
              refine ⟨.ref p, rfl, .inl ⟨rfl, _, SqL.of ep8⟩, .int fv, rfl, .int sv, rfl, sz2, fun t1 n1 => ?_⟩
              have hTn : SqT K (upd H8 t1 (.tup [V.int (fv : Int), .int sv])) tp [.int tm, .int tl] := Same.tup (same_up n1) hTt8
              have hLn : SqL K (upd H8 t1 (.tup [V.int (fv : Int), .int sv])) at_ txs := (same_up n1).seq hLt8
              refine ⟨.ref at_, rfl, .int (j : Nat), rfl, at_, txs, (j : Nat), _, rfl, rfl, hLn, atI_nat htv, tp, _, 1, _, rfl, rfl, hTn, atI_nat (j := 1) rfl, sz3, fun t2 n2 => ?_⟩
              obtain ⟨acc, ea, hla, G9, s9, F9⟩ := F8.push (vv := tl) hp ⟨true, fv, sv, tl⟩ (by omega) n1 n2
              refine ⟨p, acc, .ref t2, rfl, rfl, ea, hla, second G9 _ _ (s8.trans s9) F9 (by rw [List.length_append]; simp only [List.length_cons, List.length_nil]; omega) _ fun G10 H10 s10 F10 => ?_⟩
              refine ⟨_, _, _, G10, rfl, s10, ?_⟩
              rw [Tf.fm_succ, ec2, if_pos hlt, ← List.append_assoc, ← List.append_assoc]
              exact F10
            · rw [decide_eq_false (show ¬ ((fv : Nat) : Int) < (sv : Int) by omega)]
              refine iteF ?_
              refine second G8 H8 _ s8 F8 (by omega) _ fun G10 H10 s10 F10 => ?_
              refine ⟨_, _, _, G10, rfl, s10, ?_⟩
              rw [Tf.fm_succ, ec2, if_neg hlt, List.nil_append, ← List.append_assoc]
              exact F10
        · obtain ⟨y10, y11, y12, G7, rfl, s7, F7⟩ := hP
          have F7' : FAt K G H p G7 ((List.range t.length).flatMap (Tf.bnds low high) ++ (List.range (i + 1)).flatMap (Tf.rowFs ts t m)) H' := by
            rw [Tf.fm_succ, ← List.append_assoc]
            rw [hwl] at F7
            exact F7
          -- before = [first for first, stop in row]
          have hL7 : SqL K G7 aw wxs := s7.seq (s6.seq hLw)
          refine ⟨_, rfl, aw, rfl, ⟨wxs, F7.g.sub.seq hL7⟩, fun Dl hDl => ?_⟩
          refine lc_loc (K := K) (Q := fun x H1 => FRow K G H p G1 ts t m low high at_ as ar y7 (i + 1) [some (.ref at_), some (.ref as), some (.int m), some (.int low), some (vOI high), some (.ref ar), some (.ref p), y7, some x, some (.ref aw), y10, y11, y12] H1) walk_list ((Tf.rowAt t i).map fun (n : Nat) => PyData.int n) F7.g.sub hDl (by rw [List.length_map, hlen, hwl]) (by omega)
            (fun G8 H8 g => g.sub.seq (g.gg.seq hL7)) (fun j x G8 H8 H8' d hj g8 y E hE => ?_) (fun G8 H8 acc g8 gn e hacc => ?_) (gm_tup (gms_cons gm_name (gms_cons gm_name gms_nil)))
          · obtain ⟨rfl, hxj⟩ := y
            obtain ⟨n1, hn1, rfl⟩ := get_map hj
            obtain ⟨d1, hd1, hpr⟩ := dpa_getV hAw hxj
            obtain ⟨⟨fv, sv⟩, hz, rfl⟩ := get_map hd1
            obtain ⟨hfv, hsv⟩ := List.getElem?_zip_eq_some.mp hz
            rw [hfv] at hn1
            cases hn1
            obtain ⟨pp, pxs, rfl, hTp, hAp⟩ := dp_tup hpr
            obtain rfl : pxs = [.int fv, .int sv] := by
              cases hAp with
              | cons h1 hA =>
                cases hA with
                | cons h2 hA =>
                  cases hA
                  rw [dp_int h1, dp_int h2]
            refine ⟨pp, _, rfl, Same.tup g8.sub (Same.tup g8.gg (Same.tup s7 (Same.tup s6 hTp))), rfl, _, _, rfl, _, _, rfl, rfl, rfl, _, rfl, ?_⟩
            exact hE _ _ _ (Grow.refl g8.sub) (.int _)
          · have e1 := of_dpa_nats hacc
            rw [e1] at e
            have hDp : Dl ≠ p := fun z => by
              obtain ⟨_, _, acc0, ep0, _⟩ := F7
              rw [z, ep0] at hDl
              cases hDl
            obtain ⟨g9, np9, acc9, ep9, a9⟩ := F7'.grow g8
            have hDH : H Dl = none := F7.g.back hDl
            refine ⟨Dl, _, _, _, _, upd G8 Dl (.lst (vN (Tf.rowAt t i))), rfl, (s6.trans (s7.trans g8.gg)).trans (same_up gn), SqL.of upd_same, g9.abs hDH gn e, by rw [upd_ne hDp.symm]; exact np9, acc9, ep9, dpa_mono (same_up gn) a9⟩
      · obtain ⟨bf, y9, y10, y11, y12, G6, rfl, s6, hB, F6⟩ := hP
        rw [hxr] at F6
        obtain ⟨g6, np6, acc, ep6, a6⟩ := F6
        exact ⟨_, rfl, q p acc G6 H' g6 hp np6 ep6 a6⟩
end
end Tw
end
section
set_option maxHeartbeats 8000000
namespace Tw
open PySem PySem.Spec PyProof.Rows L2
open Tf (psum psum_zero psum_succ)
/-- the running totals of a log in a measure -/
abbrev Tm (l : Log) : Nat → Nat → Int := fun m i => psum (col l m) i
theorem vN_set {ns : List Nat} {j n : Nat} : (vN ns).set j (.int (n : Int)) = vN (ns.set j n) := by
  show (ns.map _).set j _ = (ns.set j n).map _
  rw [List.map_set]
theorem take_get_succ {α : Type} {xs : List α} {j : Nat} {x : α} (h : xs[j]? = some x) : xs.take (j + 1) = xs.take j ++ [x] := by
  rw [List.take_add_one, h]; rfl
section
variable {P : Program} {w : World} {K : PySem.W.Frag} {mg : Str → Option Value} {base : Heap}
/-! ### sighting -/
abbrev sSight : Stmt := topS 9
abbrev nSight : List Str := ["log", "tiers", "sums", "measure", "limit", "firsts", "found", "added", "stop", "held", "at"]
theorem scSight : FnScope nSight ["log", "tiers"] (defScope sSight) := ⟨rfl, rfl, rfl, by decide +kernel, rfl, by decide +kernel, by decide +kernel⟩
def spSight (K : PySem.W.Frag) : Sp := fun vs H Q _ => ∃ (G : Hp) (vl vt : V) (l : Log) (ts : Tiers), Same G H ∧ vs = [vl, vt] ∧ Dp K G vl (dLog l) ∧ Dp K G vt (dTiers ts) ∧ (∀ e ∈ l, ∀ q ∈ ts, q.1 < e.length) ∧ (∀ q ∈ ts, 0 ≤ q.2) ∧ l.length ≤ 100 ∧ ts.length ≤ 10 ∧
  Gv K G H (dSeen (Tf.sight (Tm l) ts l.length)) Q
/-- while a row is made: turn j -/
structure SRow (K : PySem.W.Frag) (G H G' : Hp) (p pf ph : Addr) (acc : List V) (new old : List Nat) (stop0 j : Nat) (H' : Hp) : Prop where
  g : Grow M0 G H G' H'
  ef : H' pf = some (.lst (vN (Tf.mix new old j)))
  ep : H' p = some (.lst acc)
  eh : H' ph = some (.lst (vN ((Tf.cnts stop0 new).take j)))
theorem ok_sight (D : Def K mg "sighting" sSight ["log", "tiers"]) (C_running_totals : Cal P w K mg base 1 "running_totals" ["log", "measure"] (spRun K)) (z_len : mg "len" = none) (z_range : mg "range" = none) (z_enumerate : mg "enumerate" = none) (z_tuple : mg "tuple" = none) :
    Cal P w K mg base 2 "sighting" ["log", "tiers"] (spSight K) := by
  refine D.ok scSight (fun vs H Q E h => ?_) (fun f cdv A outer s H vs Q E hr h => ?_)
  · obtain ⟨G, vl, vt, l, ts, _, rfl, _⟩ := h
    rfl
  · obtain ⟨G, vl, vt, l, ts, sG, rfl, hdl, hdt, hw, hL0, hn, hk, q⟩ := h
    refine ⟨_, (pss_cons (ps_setLc (i := 2) (own := [("measure", 3), ("limit", 4)]) (g := (gTup K 2 (gCons (gName 3) (gCons (gName 4) gNil)))) (tt := tYes) rfl scSight.nd rfl rfl (sw_true rfl rfl rfl (by decide +kernel)) (pi_list (pv 1)) (blkOk_by (N := nSight) (sc := defScope sSight) (by decide +kernel)) (fun _ _ _ _ _ => (pg_tup rfl (pgs_cons (pg_name (i := 3) scSight.nd rfl (.inl rfl)) (pgs_cons (pg_name (i := 4) scSight.nd rfl (.inl rfl)) pgs_nil)))) (fun _ _ _ _ _ => pts_nil) (fun _ _ _ _ _ => (pe_cal C_running_totals (hr.mono (by decide)) (by rfl) (pa_cons (pv 0) (pa_cons (pv 3) pa_nil)))))
  (pss_cons (ps_set (i := 5) scSight.nd rfl (.inl rfl) (pe_op op_rep (pe_lst (pa_cons pe_int pa_nil)) (pe_callB (r := rLn K) call_len_seq (by rfl) z_len PySem.boot_len (pa_cons (pv 1) pa_nil))))
  (pss_cons (ps_set (i := 6) scSight.nd rfl (.inl rfl) (pe_lst pa_nil))
  (pss_cons (ps_for PassesOwn.never rfl (pi_range2 (by rfl) z_range (pa_cons pe_int (pa_cons (pe_op op_add (pe_callB (r := rLn K) call_len_seq (by rfl) z_len PySem.boot_len (pa_cons (pv 0) pa_nil)) pe_int) pa_nil))) (pg_name (i := 7) scSight.nd rfl (.inl rfl))
  (pss_cons (ps_set (i := 8) scSight.nd rfl (.inl rfl) (pv 7))
  (pss_cons (ps_set (i := 9) scSight.nd rfl (.inl rfl) (pe_lst pa_nil))
  (pss_cons (ps_for PassesOwn.never rfl (pi_enum (by rfl) z_enumerate (pa_cons (pv 1) pa_nil)) (pg_tup rfl (pgs_cons (pg_name (i := 10) scSight.nd rfl (.inl rfl)) (pgs_cons (pg_tup rfl (pgs_cons (pg_name (i := 3) scSight.nd rfl (.inl rfl)) (pgs_cons (pg_name (i := 4) scSight.nd rfl (.inl rfl)) pgs_nil))) pgs_nil)))
  (pss_cons (ps_while PassesOwn.never (pt_cmpR op_gt (pe_op op_sub (pe_ix (r := rIxL K) ix_list (pe_ix (r := rIxL K) ix_list (pv 2) (pv 10) (fun _ _ => rfl)) (pv 8) (fun _ _ => rfl)) (pe_ix (r := rIxL K) ix_list (pe_ix (r := rIxL K) ix_list (pv 2) (pv 10) (fun _ _ => rfl)) (pe_ix (r := rIxL K) ix_list (pv 5) (pv 10) (fun _ _ => rfl)) (fun _ _ => rfl))) (pv 4) (nomark _))
  (pss_one (ps_augS (pv 5) (pv 10) get_list pe_int ip_add set_list)))
  (pss_cons (ps_expr (pe_bm PySem.F.plainAttrs_list PySem.F.slot_list_append PySem.F.type_list_append mt_append (pv 9) (pa_cons (pe_op op_sub (pv 8) (pe_ix (r := rIxL K) ix_list (pv 5) (pv 10) (fun _ _ => rfl))) pa_nil)))
  (pss_one (ps_set (i := 8) scSight.nd rfl (.inl rfl) (pe_ix (r := rIxL K) ix_list (pv 5) (pv 10) (fun _ _ => rfl)))))))
  (pss_one (ps_expr (pe_bm PySem.F.plainAttrs_list PySem.F.slot_list_append PySem.F.type_list_append mt_append (pv 6) (pa_cons (pe_callTy (r := rTpl K) call_tuple_of (by rfl) z_tuple (by decide +kernel) (pa_cons (pv 9) pa_nil)) pa_nil))))))))
  (pss_one (ps_ret (pv 6))))))), ?_⟩
    obtain ⟨al, lxs, rfl, hLl, hAl⟩ := dp_list hdl
    obtain ⟨at_, txs, rfl, hLt, hAt⟩ := dp_list hdt
    have hxl : lxs.length = l.length := by rw [dpa_len hAl, List.length_map]
    have hxt : txs.length = ts.length := by rw [dpa_len hAt, List.length_map]
    -- sums
    refine ⟨_, rfl, at_, rfl, ⟨txs, sG.seq hLt⟩, fun Dl hDl => ?_⟩
    refine lc_pure (K := K) (Q := fun x H1 => gName 2 x _ H1 _) walk_list (ts.map fun q => PyData.list ((pres (col l q.1) l.length).map PyData.int)) sG hDl (by rw [List.length_map, hxt]) (by omega) (fun G1 H1 g => g.sub.seq (g.gg.seq hLt)) (fun i x G1 H1 H1' d hi g1 y E hE => ?_) (fun G1 H1 g1 hd1 => ?_) (gm_tup (gms_cons gm_name (gms_cons gm_name gms_nil)))
    · obtain ⟨rfl, hxi⟩ := y
      obtain ⟨d1, hd1, hpr⟩ := dpa_getV hAt hxi
      obtain ⟨⟨m, L⟩, hz, rfl⟩ := get_map hd1
      obtain ⟨q2, hq2, rfl⟩ := get_map hi
      rw [hz] at hq2
      cases hq2
      obtain ⟨pp, pxs, rfl, hTp, hAp⟩ := dp_tup hpr
      obtain rfl : pxs = [.int m, .int L] := by
        cases hAp with
        | cons h1 hA =>
          cases hA with
          | cons h2 hA =>
            cases hA
            rw [dp_int h1, dp_int h2]
      refine ⟨pp, _, rfl, Same.tup g1.sub (Same.tup g1.gg hTp), rfl, _, _, rfl, _, _, rfl, rfl, rfl, ?_⟩
      refine ⟨_, rfl, _, rfl, G1, .ref al, l, m, g1.sub, rfl, dp_mono g1.gg hdl, fun e he => hw e he (m, L) (List.mem_of_getElem? hz), by omega, fun v G4 H4 g4 hv => hE v G4 H4 g4 hv⟩
    · obtain ⟨asu, sxs, esu, hLs, hAs⟩ := dp_list hd1
      cases esu
      -- firsts = [0] * len(tiers); found = []
      refine ⟨sz1, fun p1 np1 => ?_⟩
      have g2 := g1.loc (o := .lst [.int 0]) np1
      refine ⟨_, rfl, at_, txs, rfl, .inl (g2.sub.seq (g1.gg.seq hLt)), p1, txs.length, [.int 0], rfl, rfl, upd_same, by omega, by omega, sz (by show 1 * ((txs.length : Int)).toNat ≤ 100000; omega), fun pf npf => ?_⟩
      have ek : ((txs.length : Int)).toNat = ts.length := by omega
      rw [ek, flat_rep]
      have g3 := g2.loc (o := .lst (List.replicate ts.length (.int 0))) npf
      refine ⟨Nat.zero_le _, fun p np => ?_⟩
      have g4 := g3.loc (o := .lst []) np
      have e0 : (upd (upd H1 p1 (.lst [.int 0])) pf (.lst (List.replicate ts.length (.int 0)))) pf = some (.lst (vN (Tf.rowS (Tm l) ts 0))) := by
        rw [upd_same]
        show some (HO.lst (List.replicate ts.length (V.int 0))) = some (.lst ((List.replicate ts.length 0).map fun (n : Nat) => V.int n))
        rw [List.map_replicate]
        rfl
      have hpfp : pf ≠ p := ne_of_none e0 np
      have hpf : H pf = none := g2.back npf
      have hp : H p = none := g3.back np
      have gpf : G1 pf = none := same_none g2.sub npf
      have gp : G1 p = none := same_none g3.sub np
      have e1 : (upd (upd (upd H1 p1 (.lst [.int 0])) pf (.lst (List.replicate ts.length (.int 0)))) p (.lst [])) pf = some (.lst (vN (Tf.rowS (Tm l) ts 0))) := by rw [upd_ne hpfp]; exact e0
      have e2 : (upd (upd (upd H1 p1 (.lst [.int 0])) pf (.lst (List.replicate ts.length (.int 0)))) p (.lst [])) p = some (.lst []) := upd_same
      generalize upd (upd (upd H1 p1 (.lst [.int 0])) pf (.lst (List.replicate ts.length (.int 0)))) p (.lst []) = H4 at g4 e1 e2
      clear g2 g3 e0 npf np np1
      -- for added in range(1, len(log) + 1)
      refine ⟨_, rfl, al, lxs, rfl, .inl (g4.sub.seq (g1.gg.seq hLl)), _, _, rfl, rfl, _, _, rfl, ⟨by omega, by omega, by omega, by omega⟩, ?_⟩
      have en : ((lxs.length : Int) + 1 - 1).toNat = l.length := by omega
      rw [en]
      refine for_range (lo := 1) (n := l.length) (fun i σ H' => ∃ (y3 y4 y7 y8 y9 y10 : Option V) (G' : Hp) (acc : List V), σ = [some (.ref al), some (.ref at_), some (.ref Dl), y3, y4, some (.ref pf), some (.ref p), y7, y8, y9, y10] ∧ Same G1 G' ∧ Grow M0 G H G' H' ∧ G' p = none ∧ G' pf = none ∧
        H' pf = some (.lst (vN (Tf.rowS (Tm l) ts i))) ∧ H' p = some (.lst acc) ∧ DpAll K G' acc ((List.range i).map fun i => dNats (Tf.cnts (i + 1) (Tf.rowS (Tm l) ts (i + 1))))) ⟨none, none, none, none, none, none, G1, [], rfl, Same.refl _, g4, gp, gpf, e1, e2, .nil⟩ ?_ ?_
      · rintro i σ H5 hi ⟨y3, y4, y7, y8, y9, y10, G5, acc, rfl, s5, g5, gp5, gpf5, ef5, ep5, a5⟩
        have ei : (1 : Int) + (i : Int) = ((i + 1 : Nat) : Int) := by omega
        rw [ei]
        -- stop = added; held = []
        refine ⟨_, rfl, Nat.zero_le _, fun ph nph => ?_⟩
        have hph : H ph = none := g5.back nph
        have gph : G5 ph = none := same_none g5.sub nph
        have hpfh : pf ≠ ph := ne_of_none ef5 nph
        have hpph : p ≠ ph := ne_of_none ep5 nph
        have hold := Tf.rowS_len (Tm l) ts i
        have hnew := Tf.rowS_len (Tm l) ts (i + 1)
        have hdes := Tf.rowS_desc (Tm l) ts (i + 1)
        have hdeso := Tf.rowS_desc (Tm l) ts i
        have hok := Tf.trimRow_ok (Tm := Tm l) ts _ i (i + 1) hold hdeso (Nat.le_succ i)
        have hget := fun (j : Nat) (q : Nat × Int) (o s : Nat) => Tf.trimRow_get (Tm := Tm l) ts (Tf.rowS (Tm l) ts i) (i + 1) j q o s
        have hrow : Tf.rowS (Tm l) ts (i + 1) = Tf.trimRow (Tm l) ts (Tf.rowS (Tm l) ts i) (i + 1) := rfl
        rw [← hrow] at hok hget
        generalize hN : Tf.rowS (Tm l) ts (i + 1) = new at hnew hdes hok hget
        generalize hO : Tf.rowS (Tm l) ts i = old at hold hdeso hok hget ef5
        -- for at, (meDlre, limit) in enumerate(tiers)
        have r0 : SRow K G H G5 p pf ph acc new old (i + 1) 0 (upd H5 ph (.lst [])) := ⟨g5.loc nph, by rw [upd_ne hpfh]; exact ef5, by rw [upd_ne hpph]; exact ep5, upd_same⟩
        refine ⟨_, rfl, at_, txs, rfl, r0.g.sub.seq (s5.seq (g1.gg.seq hLt)), ?_⟩
        refine for_it (walk_enum (K := K) (a := at_) (xs := txs)) (fun j σ H' => ∃ (y3 y4 y10 : Option V) (sj : Nat), σ = [some (.ref al), some (.ref at_), some (.ref Dl), y3, y4, some (.ref pf), some (.ref p), some (.int ((i + 1 : Nat) : Int)), some (.int (sj : Nat)), some (.ref ph), y10] ∧
          ((i + 1) :: new)[j]? = some sj ∧ SRow K G H G5 p pf ph acc new old (i + 1) j H') ⟨y3, y4, y10, i + 1, rfl, rfl, r0⟩ (fun j σ H' _ hP => ?_) (fun j x σ H7 H7' hj hP hy => ?_) (fun σ H' hP => ?_)
        · obtain ⟨_, _, _, _, _, _, r⟩ := hP
          exact r.g.sub.seq (s5.seq (g1.gg.seq hLt))
        · obtain ⟨y3, y4, y10, sj, rfl, hsj, r7⟩ := hP
          obtain ⟨T, x1, x2, rfl, nT, rfl, f1, f2⟩ := hy
          have f1 : some (V.int (j : Nat)) = some x1 := f1
          have f2 : txs[j]? = some x2 := f2
          cases f1
          have hjk : j < ts.length := by omega
          obtain ⟨d1, hd1', hpr⟩ := dpa_getV hAt f2
          obtain ⟨⟨m, L⟩, htj, rfl⟩ := get_map hd1'
          obtain ⟨pp, pxs, rfl, hTp, hAp⟩ := dp_tup hpr
          obtain rfl : pxs = [.int m, .int L] := by
            cases hAp with
            | cons h1 hA =>
              cases hA with
              | cons h2 hA =>
                cases hA
                rw [dp_int h1, dp_int h2]
          have g8 := r7.g.loc (o := .tup [V.int (j : Nat), .ref pp]) nT
          have e8f : (upd H7 T (.tup [V.int (j : Nat), .ref pp])) pf = some (.lst (vN (Tf.mix new old j))) := by rw [upd_ne (ne_of_none r7.ef nT)]; exact r7.ef
          have e8p : (upd H7 T (.tup [V.int (j : Nat), .ref pp])) p = some (.lst acc) := by rw [upd_ne (ne_of_none r7.ep nT)]; exact r7.ep
          have e8h : (upd H7 T (.tup [V.int (j : Nat), .ref pp])) ph = some (.lst (vN ((Tf.cnts (i + 1) new).take j))) := by rw [upd_ne (ne_of_none r7.eh nT)]; exact r7.eh
          have hT8 : SqT K (upd H7 T (.tup [V.int (j : Nat), .ref pp])) T [V.int (j : Nat), .ref pp] := SqT.of upd_same
          generalize upd H7 T (.tup [V.int (j : Nat), .ref pp]) = H8 at g8 e8f e8p e8h hT8
          refine ⟨T, _, rfl, hT8, rfl, _, _, rfl, _, _, rfl, ⟨pp, _, rfl, Same.tup g8.sub (Same.tup s5 (Same.tup g1.gg hTp)), rfl, _, _, rfl, _, _, rfl, rfl, rfl, ?_⟩⟩
          -- the old one, the new one
          have hlj : j < old.length := by omega
          have hnj : j < new.length := by omega
          obtain ⟨o, ho⟩ : ∃ o, old[j]? = some o := ⟨old[j], List.getElem?_eq_getElem hlj⟩
          have hnw := hget j (m, L) o sj htj ho hsj
          have hsl : sj ≤ i + 1 := by
            cases j with
            | zero => simp at hsj; omega
            | succ j => exact Tf.desc_le _ _ hdes j sj (by simpa using hsj)
          have hos : o ≤ sj := by
            cases j with
            | zero =>
              simp at hsj
              have := Tf.desc_le _ _ hdeso 0 o ho
              omega
            | succ j =>
              have h1 : new[j]? = some sj := by simpa using hsj
              have hj' : j < old.length := by omega
              have h2 := hok.2 j _ sj (List.getElem?_eq_getElem hj') h1
              have h3 := Tf.desc_get _ _ hdeso (j + 1) (old[j]) o (by simp [List.getElem?_eq_getElem hj']) ho
              omega
          have hL := hL0 (m, L) (List.mem_of_getElem? htj)
          have hL : 0 ≤ L := hL
          -- the running totals of this tier
          obtain ⟨sv, hsv, hsd⟩ := dpa_get hAs (show (ts.map fun q => PyData.list ((pres (col l q.1) l.length).map PyData.int))[j]? = some (.list ((pres (col l m) l.length).map PyData.int)) by rw [List.getElem?_map, htj]; rfl)
          obtain ⟨bs, bxs, rfl, hLb, hAb⟩ := dp_list hsd
          have ebx := of_dpa_ints hAb
          subst ebx
          -- while
          refine ⟨fun μ σ H' => ∃ fc : Nat, σ = [some (.ref al), some (.ref at_), some (.ref Dl), some (.int m), some (.int L), some (.ref pf), some (.ref p), some (.int ((i + 1 : Nat) : Int)), some (.int (sj : Nat)), some (.ref ph), some (.int (j : Nat))] ∧ μ = sj - fc ∧ fc ≤ sj ∧ o ≤ fc ∧ Tf.trim (Tm l m) L sj fc = Tf.trim (Tm l m) L sj o ∧
            Grow M0 G H G5 H' ∧ H' pf = some (.lst (vN ((Tf.mix new old j).set j fc))) ∧ H' p = some (.lst acc) ∧ H' ph = some (.lst (vN ((Tf.cnts (i + 1) new).take j))),
            ⟨sj - o, o, rfl, rfl, hos, Nat.le_refl _, rfl, g8, ?_, e8p, e8h⟩, ?_⟩
          · rw [e8f]
            have hm := Tf.mix_get (new := new) (old := old) (j := j) (by omega)
            rw [ho] at hm
            obtain ⟨hlt, hge⟩ := List.getElem?_eq_some_iff.mp hm
            rw [← hge, List.set_getElem_self]
          · rintro μ σ H9 ⟨fc, rfl, hμ, hfs, hof, htr, g9, ef9, ep9, eh9⟩
            have hml : (Tf.mix new old j).length = new.length := Tf.mix_len (by omega) (by omega)
            have hfg : (vN ((Tf.mix new old j).set j fc))[j]? = some (.int fc) := vN_get (List.getElem?_set_self (by omega))
            have hLs9 : SqL K H9 Dl sxs := g9.sub.seq (s5.seq hLs)
            have hLb9 : SqL K H9 bs ((pres (col l m) l.length).map V.int) := g9.sub.seq (s5.seq hLb)
            have gs : ((pres (col l m) l.length).map V.int)[sj]? = some (.int (Tm l m sj)) := by rw [List.getElem?_map, pres_get (by omega)]; rfl
            have gf : ((pres (col l m) l.length).map V.int)[fc]? = some (.int (Tm l m fc)) := by rw [List.getElem?_map, pres_get (by omega)]; rfl
            refine ⟨_, rfl, _, rfl, Dl, sxs, (j : Nat), _, rfl, rfl, hLs9, atI_nat hsv, _, rfl, bs, _, (sj : Nat), _, rfl, rfl, hLb9, atI_nat gs, _, rfl, _, rfl, Dl, sxs, (j : Nat), _, rfl, rfl, hLs9, atI_nat hsv, _, rfl, _, rfl, pf, _, (j : Nat), _, rfl, rfl, SqL.of ef9, atI_nat hfg,
              bs, _, (fc : Nat), _, rfl, rfl, hLb9, atI_nat gf, _, _, rfl, rfl, _, rfl, _, _, rfl, rfl, _, rfl, ?_⟩
            by_cases hc : L < Tm l m sj - Tm l m fc
            · rw [decide_eq_true hc]
              refine iteT ?_
              have hlt : fc < sj := by
                rcases Nat.lt_or_ge fc sj with h | h
                · exact h
                · have : fc = sj := by omega
                  rw [this] at hc
                  omega
              refine ⟨fun σ' H' => σ' = [some (.ref al), some (.ref at_), some (.ref Dl), some (.int m), some (.int L), some (.ref pf), some (.ref p), some (.int ((i + 1 : Nat) : Int)), some (.int (sj : Nat)), some (.ref ph), some (.int (j : Nat))] ∧ H' = upd H9 pf (.lst (vN ((Tf.mix new old j).set j (fc + 1)))), fun σ' H' hN => ?_, ?_⟩
              · obtain ⟨rfl, rfl⟩ := hN
                exact ⟨sj - (fc + 1), by omega, fc + 1, rfl, rfl, by omega, by omega, by rw [← Tf.trim_step hc hlt]; exact htr, g9.mut hpf gpf5, upd_same, by rw [upd_ne hpfp.symm]; exact ep9, by rw [upd_ne hpfh.symm]; exact eh9⟩
              · refine ⟨_, rfl, _, rfl, pf, _, j, _, rfl, rfl, SqL.of ef9, hfg, _, _, rfl, rfl, pf, _, (j : Nat), j, rfl, rfl, ef9, ixN_nat (by rw [List.length_map, List.length_set]; omega), rfl, ?_⟩
                have e1 : (fc : Int) + 1 = ((fc + 1 : Nat) : Int) := by omega
                show upd H9 pf (.lst ((vN ((Tf.mix new old j).set j fc)).set j (V.int ((fc : Int) + 1)))) = _
                rw [e1, vN_set, List.set_set]
            · rw [decide_eq_false hc]
              refine iteF ?_
              have hfn : fc = Tf.trim (Tm l m) L sj o := by rw [← htr, Tf.trim_stop (show ¬ Tm l m sj - Tm l m fc > L from hc)]
              rw [← hfn] at hnw
              have ecn := Tf.cnts_get _ _ j sj fc hsj hnw
              have esub : (sj : Int) - (fc : Int) = ((sj - fc : Nat) : Int) := by omega
              -- held.append(stop - firsts[at]); stop = firsts[at]
              refine ⟨.ref ph, rfl, .inl ⟨rfl, _, SqL.of eh9⟩, _, rfl, _, rfl, _, rfl, pf, _, (j : Nat), _, rfl, rfl, SqL.of ef9, atI_nat hfg, _, _, rfl, rfl, ph, _, _, rfl, rfl, eh9, szl (by rw [List.length_map, List.length_take]; omega), ?_⟩
              have g10 := g9.mut (o := .lst (vN ((Tf.cnts (i + 1) new).take j) ++ [V.int ((sj : Int) - (fc : Int))])) hph gph
              have ef10 : (upd H9 ph (.lst (vN ((Tf.cnts (i + 1) new).take j) ++ [V.int ((sj : Int) - (fc : Int))]))) pf = some (.lst (vN ((Tf.mix new old j).set j fc))) := by rw [upd_ne hpfh]; exact ef9
              refine ⟨_, rfl, _, rfl, pf, _, (j : Nat), _, rfl, rfl, SqL.of ef10, atI_nat hfg, ?_⟩
              refine ⟨_, _, _, fc, rfl, by rw [List.getElem?_cons_succ]; exact hnw, g10, ?_, ?_, ?_⟩
              · rw [ef10, Tf.mix_set (by omega) hnw]
              · rw [upd_ne hpph]
                exact ep9
              · rw [upd_same, take_get_succ ecn]
                show some (HO.lst (vN ((Tf.cnts (i + 1) new).take j) ++ [V.int ((sj : Int) - (fc : Int))])) = _
                rw [esub]
                show some (HO.lst (vN ((Tf.cnts (i + 1) new).take j) ++ [V.int ((sj - fc : Nat) : Int)])) = some (.lst (((Tf.cnts (i + 1) new).take j ++ [sj - fc]).map _))
                rw [List.map_append]
                rfl
        · obtain ⟨y3, y4, y10, sj, rfl, hsj, r7⟩ := hP
          rw [hxt] at r7
          obtain ⟨g7, ef7, ep7, eh7⟩ := r7
          have et : (Tf.cnts (i + 1) new).take ts.length = Tf.cnts (i + 1) new := List.take_of_length_le (by rw [Tf.cnts_len]; omega)
          have em : Tf.mix new old ts.length = new := by rw [← hnew]; exact Tf.mix_all (by omega)
          rw [et] at eh7
          rw [em] at ef7
          -- found.append(tuple(held))
          refine ⟨.ref p, rfl, .inl ⟨rfl, _, SqL.of ep7⟩, _, rfl, ph, _, rfl, .inl ⟨SqL.of eh7, fun pt npt => ?_⟩⟩
          have g8 := g7.lay (o := .tup (vN (Tf.cnts (i + 1) new))) npt
          have nG5 : G5 pt = none := same_none g7.sub npt
          have ep8 : (upd H' pt (.tup (vN (Tf.cnts (i + 1) new)))) p = some (.lst acc) := by rw [upd_ne (ne_of_none ep7 npt)]; exact ep7
          have gp8 : (upd G5 pt (.tup (vN (Tf.cnts (i + 1) new)))) p = none := by rw [upd_ne (ne_of_none ep7 npt)]; exact gp5
          refine ⟨p, acc, .ref pt, rfl, rfl, ep8, szl (by rw [dpa_len a5, List.length_map, List.length_range]; omega), ?_⟩
          refine ⟨_, _, _, _, _, _, upd G5 pt (.tup (vN (Tf.cnts (i + 1) new))), acc ++ [.ref pt], rfl, s5.trans (same_up nG5), g8.mut hp gp8, gp8, by rw [upd_ne (ne_of_none ef7 npt)]; exact gpf5, ?_, upd_same, ?_⟩
          · rw [upd_ne hpfp, upd_ne (ne_of_none ef7 npt), ef7]
          · rw [range_map_succ, hN]
            exact dpa_app (dpa_mono (same_up nG5) a5) (dpa_one (dp_tpl upd_same (dpa_nats _)))
      · rintro σ H5 ⟨y3, y4, y7, y8, y9, y10, G5, acc, rfl, s5, g5, gp5, gpf5, ef5, ep5, a5⟩
        refine ⟨_, rfl, q _ _ _ (g5.abs hp gp5 ep5) (dp_lst upd_same (dpa_mono (same_up gp5) ?_))⟩
        rw [Tf.sight_len]
        have e : ((List.range l.length).map fun i => dNats (Tf.cnts (i + 1) (Tf.rowAt (Tf.sight (Tm l) ts l.length) i))) = (List.range l.length).map fun i => dNats (Tf.cnts (i + 1) (Tf.rowS (Tm l) ts (i + 1))) := by
          refine List.map_congr_left fun i hi => ?_
          rw [Tf.sight_row (List.mem_range.mp hi)]
        rw [e]
        exact a5
end
end Tw
end
section
set_option maxHeartbeats 8000000
namespace Tw
open PySem PySem.Spec PyProof.Rows L2
open Tf (bEs lts lt difs difs_len Ok fEs sprT spr)
section
variable {K : PySem.W.Frag} {H : Hp}
theorem dp_tup2 {v : V} {d1 d2 : PyData} (h : Dp K H v (.tuple [d1, d2])) : ∃ a x y, v = .ref a ∧ SqT K H a [x, y] ∧ Dp K H x d1 ∧ Dp K H y d2 := by
  obtain ⟨a, xs, rfl, hT, hA⟩ := dp_tup h
  cases hA with
  | cons h1 hA =>
    cases hA with
    | cons h2 hA =>
      cases hA
      exact ⟨a, _, _, rfl, hT, h1, h2⟩
theorem dp_tup3 {v : V} {d1 d2 d3 : PyData} (h : Dp K H v (.tuple [d1, d2, d3])) : ∃ a x y z, v = .ref a ∧ SqT K H a [x, y, z] ∧ Dp K H x d1 ∧ Dp K H y d2 ∧ Dp K H z d3 := by
  obtain ⟨a, xs, rfl, hT, hA⟩ := dp_tup h
  cases hA with
  | cons h1 hA =>
    cases hA with
    | cons h2 hA =>
      cases hA with
      | cons h3 hA =>
        cases hA
        exact ⟨a, _, _, _, rfl, hT, h1, h2, h3⟩
theorem lts_get {fs : List Tf.Fa} {n i : Nat} (k : Ok fs n) (h : i < n) : ((lts fs n).map V.int)[i]? = some (.int (lt fs n i)) := by
  have hl : i < (lts fs n).length := by rw [Tf.lts_len k]; exact h
  rw [List.getElem?_map, List.getElem?_eq_getElem hl]
  show some (V.int _) = some (V.int ((lts fs n).getD i 0))
  rw [getD_of (List.getElem?_eq_getElem hl)]
end
section
variable {P : Program} {w : World} {K : PySem.W.Frag} {mg : Str → Option Value} {base : Heap}
/-! ### agreeing -/
abbrev sAgr : Stmt := topS 22
abbrev nAgr : List Str := ["tiers", "seen", "measure", "low", "high", "rows", "totals", "walk"]
theorem scAgr : FnScope nAgr psTS (defScope sAgr) := ⟨rfl, rfl, rfl, by decide +kernel, rfl, by decide +kernel, by decide +kernel⟩
/-- what agreeing gives: the pair, and its list, are new and not yet known to the view -/
def GvA (K : PySem.W.Frag) (G H : Hp) (zs : List Int) (Q : VK) : Prop := ∀ pt pl G' H', Grow M0 G H G' H' → H pl = none → H pt = none → G' pl = none → G' pt = none → pl ≠ pt → H' pt = some (.tup [.str "sizes", .ref pl]) → H' pl = some (.lst (zs.map V.int)) → Q (.ref pt) H'
def spAgr (K : PySem.W.Frag) : Sp := fun vs H Q _ => ∃ (G : Hp) (vt v : V) (ts : Tiers) (t : Tf.Tab) (m : Nat) (low : Int) (high : Option Int), Same G H ∧ vs = [vt, v, .int m, .int low, vOI high] ∧ Dp K G vt (dTiers ts) ∧ Dp K G v (dSeen t) ∧
  Tf.Valid ts.length t ∧ ts.length ≤ 10 ∧ t.length ≤ 100 ∧ Ok (Tf.factsM ts t m low high) (t.length + 1) ∧ GvA K G H (difs (lts (Tf.factsM ts t m low high) (t.length + 1))) Q
theorem ok_agr (D : DefK K mg "agreeing" sAgr psTS 3) (C_facts : CalK P w K mg base 4 "facts" psTS 3 (spFacts K)) (C_least_totals : Cal P w K mg base 3 "least_totals" ["rows", "many"] (spLeast K)) (C_sizes_of : Cal P w K mg base 1 "sizes_of" ["totals"] (spSizesOf K)) (z_len : mg "len" = none) :
    CalK P w K mg base 5 "agreeing" psTS 3 (spAgr K) := by
  refine D.ok scAgr (fun vs H Q E h => ?_) (fun f cdv A outer s H vs Q E hr h => ?_)
  · obtain ⟨G, vt, v, ts, t, m, low, high, _, rfl, _⟩ := h
    rfl
  · obtain ⟨G, vt, v, ts, t, m, low, high, sG, rfl, hdt, hds, hv, hk, hn, ok, q⟩ := h
    refine ⟨_, (pss_cons (ps_set (i := 5) scAgr.nd rfl (.inl rfl) (pe_calK C_facts (hr.mono (by decide)) (by rfl) (pa_cons (pv 0) (pa_cons (pv 1) (pa_cons (pv 2) pa_nil))) (pk_cons (pv 3) (pk_cons (pv 4) pk_nil))))
  (pss_cons (ps_asg (pe_cal C_least_totals (hr.mono (by decide)) (by rfl) (pa_cons (pv 5) (pa_cons (pe_op op_add (pe_callB (r := rLn K) call_len_seq (by rfl) z_len PySem.boot_len (pa_cons (pv 1) pa_nil)) pe_int) pa_nil))) (pg_tup rfl (pgs_cons (pg_name (i := 6) scAgr.nd rfl (.inl rfl)) (pgs_cons (pg_name (i := 7) scAgr.nd rfl (.inl rfl)) pgs_nil))))
  (pss_cons (ps_if (pt_cmpR op_isN (pv 6) pe_non (nomark _)) pss_never pss_nil)
  (pss_one (ps_ret (pe_tup (pa_cons pe_str (pa_cons (pe_cal C_sizes_of (hr.mono (by decide)) (by rfl) (pa_cons (pv 6) pa_nil)) pa_nil)))))))), ?_⟩
    have hfl := Tf.factsM_len (m := m) (low := low) (high := high) hn hk
    -- rows = facts(..)
    refine ⟨_, rfl, _, rfl, _, rfl, _, rfl, _, rfl, rfl, rfl, G, vt, v, ts, t, m, low, high, sG, rfl, hdt, hds, hv, hk, hn, fun pr xs G1 H1 g1 hp gp ep ha => ?_⟩
    have g2 := g1.abs hp gp ep
    have hd2 : Dp K (upd G1 pr (.lst xs)) (.ref pr) (.list ((Tf.factsM ts t m low high).map dFa)) := dp_lst upd_same (dpa_mono (same_up gp) ha)
    generalize upd G1 pr (.lst xs) = G2 at g2 hd2
    -- totals, walk = least_totals(rows, len(seen) + 1)
    obtain ⟨as, sxs, rfl, hLs, hAs⟩ := dp_list hds
    have hxs : sxs.length = t.length := by rw [dpa_len hAs, List.length_map, List.length_range]
    refine ⟨_, rfl, _, rfl, as, sxs, rfl, .inl (g2.sub.seq (g2.gg.seq hLs)), _, _, rfl, rfl, G2, _, Tf.factsM ts t m low high, t.length + 1, g2.sub, ?_, hd2, Tf.in_b ok.inn, ok.pos, by omega, by omega, ok.done.none, ok.done.good.len, ok.lab, fun u G3 H3 g3 hu => ?_⟩
    · rw [hxs]
      rfl
    obtain ⟨b, x, y, rfl, hT, h1, h2⟩ := dp_tup2 hu
    obtain ⟨bl, lxs, rfl, hL, hA⟩ := dp_list h1
    refine ⟨b, _, rfl, Same.tup g3.sub hT, rfl, _, _, rfl, _, _, rfl, rfl, ?_⟩
    refine ⟨_, rfl, rfl, _, rfl, iteF ?_⟩
    -- return ("sizes", sizes_of(totals))
    refine ⟨_, rfl, G3, _, lts (Tf.factsM ts t m low high) (t.length + 1), g3.sub, rfl, h1, by rw [Tf.lts_len ok]; omega, fun pl G4 H4 g4 hpl gpl epl => ?_⟩
    have g23 := g2.trans g3
    have g24 := g23.trans g4
    refine ⟨sz2, fun pt npt => ?_⟩
    have hne : pl ≠ pt := ne_of_none epl npt
    refine q pt pl G4 _ (g24.loc npt) (g23.back hpl) (g24.back npt) gpl (same_none g24.sub npt) hne upd_same (by rw [upd_ne hne]; exact epl)
/-! ### agreeing_facts -/
abbrev sAgrF : Stmt := topS 25
abbrev nAgrF : List Str := ["tiers", "seen", "measure", "low", "high", "rows", "base", "walk"]
theorem scAgrF : FnScope nAgrF psTS (defScope sAgrF) := ⟨rfl, rfl, rfl, by decide +kernel, rfl, by decide +kernel, by decide +kernel⟩
def spAgrF (K : PySem.W.Frag) : Sp := fun vs H Q _ => ∃ (G : Hp) (vt v : V) (ts : Tiers) (t : Tf.Tab) (m : Nat) (low : Int) (high : Option Int), Same G H ∧ vs = [vt, v, .int m, .int low, vOI high] ∧ Dp K G vt (dTiers ts) ∧ Dp K G v (dSeen t) ∧
  Tf.Valid ts.length t ∧ ts.length ≤ 10 ∧ t.length ≤ 100 ∧ Ok (Tf.factsM ts t m low high) (t.length + 1) ∧
  Gv K G H (.tuple [.list ((Tf.factsM ts t m low high).map dFa), .list ((lts (Tf.factsM ts t m low high) (t.length + 1)).map PyData.int)]) Q
theorem ok_agrF (D : Def K mg "agreeing_facts" sAgrF psTS) (C_facts : CalK P w K mg base 4 "facts" psTS 3 (spFacts K)) (C_least_totals : Cal P w K mg base 3 "least_totals" ["rows", "many"] (spLeast K)) (z_len : mg "len" = none) :
    Cal P w K mg base 5 "agreeing_facts" psTS (spAgrF K) := by
  refine D.ok scAgrF (fun vs H Q E h => ?_) (fun f cdv A outer s H vs Q E hr h => ?_)
  · obtain ⟨G, vt, v, ts, t, m, low, high, _, rfl, _⟩ := h
    rfl
  · obtain ⟨G, vt, v, ts, t, m, low, high, sG, rfl, hdt, hds, hv, hk, hn, ok, q⟩ := h
    refine ⟨_, (pss_cons (ps_set (i := 5) scAgrF.nd rfl (.inl rfl) (pe_calK C_facts (hr.mono (by decide)) (by rfl) (pa_cons (pv 0) (pa_cons (pv 1) (pa_cons (pv 2) pa_nil))) (pk_cons (pv 3) (pk_cons (pv 4) pk_nil))))
  (pss_cons (ps_asg (pe_cal C_least_totals (hr.mono (by decide)) (by rfl) (pa_cons (pv 5) (pa_cons (pe_op op_add (pe_callB (r := rLn K) call_len_seq (by rfl) z_len PySem.boot_len (pa_cons (pv 1) pa_nil)) pe_int) pa_nil))) (pg_tup rfl (pgs_cons (pg_name (i := 6) scAgrF.nd rfl (.inl rfl)) (pgs_cons (pg_name (i := 7) scAgrF.nd rfl (.inl rfl)) pgs_nil))))
  (pss_cons (ps_if (pt_cmpR op_isN (pv 6) pe_non (nomark _)) pss_never pss_nil)
  (pss_one (ps_ret (pe_tup (pa_cons (pv 5) (pa_cons (pv 6) pa_nil)))))))), ?_⟩
    have hfl := Tf.factsM_len (m := m) (low := low) (high := high) hn hk
    refine ⟨_, rfl, _, rfl, _, rfl, _, rfl, _, rfl, rfl, rfl, G, vt, v, ts, t, m, low, high, sG, rfl, hdt, hds, hv, hk, hn, fun pr xs G1 H1 g1 hp gp ep ha => ?_⟩
    have g2 := g1.abs hp gp ep
    have hd2 : Dp K (upd G1 pr (.lst xs)) (.ref pr) (.list ((Tf.factsM ts t m low high).map dFa)) := dp_lst upd_same (dpa_mono (same_up gp) ha)
    generalize upd G1 pr (.lst xs) = G2 at g2 hd2
    obtain ⟨as, sxs, rfl, hLs, hAs⟩ := dp_list hds
    have hxs : sxs.length = t.length := by rw [dpa_len hAs, List.length_map, List.length_range]
    refine ⟨_, rfl, _, rfl, as, sxs, rfl, .inl (g2.sub.seq (g2.gg.seq hLs)), _, _, rfl, rfl, G2, _, Tf.factsM ts t m low high, t.length + 1, g2.sub, ?_, hd2, Tf.in_b ok.inn, ok.pos, by omega, by omega, ok.done.none, ok.done.good.len, ok.lab, fun u G3 H3 g3 hu => ?_⟩
    · rw [hxs]
      rfl
    obtain ⟨b, x, y, rfl, hT, h1, h2⟩ := dp_tup2 hu
    obtain ⟨bl, lxs, rfl, hL, hA⟩ := dp_list h1
    refine ⟨b, _, rfl, Same.tup g3.sub hT, rfl, _, _, rfl, _, _, rfl, rfl, ?_⟩
    refine ⟨_, rfl, rfl, _, rfl, iteF ?_⟩
    have g23 := g2.trans g3
    refine ⟨_, rfl, _, rfl, sz2, fun pt npt => ?_⟩
    have s4 := same_up (o := .tup [V.ref pr, .ref bl]) (same_none g23.sub npt)
    exact q _ _ _ (g23.lay npt) (dp_tpl upd_same (.cons (dp_mono (g3.gg.trans s4) hd2) (.cons (dp_mono s4 h1) .nil)))
/-! ### spread -/
abbrev sSpread : Stmt := topS 23
abbrev nSpread : List Str := ["rows", "base", "origin", "edges", "distances", "lasts", "changed", "lift", "start", "end", "more", "fact", "totals", "at", "distance"]
theorem scSpread : FnScope nSpread ["rows", "base", "origin"] (defScope sSpread) := ⟨rfl, rfl, rfl, by decide +kernel, rfl, by decide +kernel, by decide +kernel⟩
def spSpread (K : PySem.W.Frag) : Sp := fun vs H Q _ => ∃ (G : Hp) (v vb : V) (fs : List Tf.Fa) (n o : Nat), Same G H ∧ vs = [v, vb, .int o] ∧ Dp K G v (.list (fs.map dFa)) ∧ Dp K G vb (.list ((lts fs n).map PyData.int)) ∧ Ok fs n ∧ o < n ∧ n < 1000 ∧ fs.length < 100000 ∧
  Gv K G H (.tuple [.list ((spr fs n o).map PyData.int), .list ((Tf.relax (fEs fs) n o).d.map dOI), .list ((Tf.relax (fEs fs) n o).l.map dOE)]) Q
theorem ok_spread (D : Def K mg "spread" sSpread ["rows", "base", "origin"]) (C_edges_of : Cal P w K mg base 2 "edges_of" ["rows"] (spEdges K)) (C_relaxed : Cal P w K mg base 1 "relaxed" ["edges", "many", "origin"] (spRel K)) (g0 : ∃ t, mg "FAR" = some (.int Tf.far t))
    (z_len : mg "len" = none) (z_max : mg "max" = none) (z_enumerate : mg "enumerate" = none) : Cal P w K mg base 3 "spread" ["rows", "base", "origin"] (spSpread K) := by
  obtain ⟨tk, g_FAR⟩ := g0
  refine D.ok scSpread (fun vs H Q E h => ?_) (fun f cdv A outer s H vs Q E hr h => ?_)
  · obtain ⟨G, v, vb, fs, n, o, _, rfl, _⟩ := h
    rfl
  · obtain ⟨G, v, vb, fs, n, o, sG, rfl, hd, hdb, ok, ho, hn, hl, q⟩ := h
    refine ⟨_, (pss_cons (ps_set (i := 3) scSpread.nd rfl (.inl rfl) (pe_cal C_edges_of (hr.mono (by decide)) (by rfl) (pa_cons (pv 0) pa_nil)))
  (pss_cons (ps_asg (pe_cal C_relaxed (hr.mono (by decide)) (by rfl) (pa_cons (pv 3) (pa_cons (pe_callB (r := rLn K) call_len_seq (by rfl) z_len PySem.boot_len (pa_cons (pv 1) pa_nil)) (pa_cons (pv 2) pa_nil)))) (pg_tup rfl (pgs_cons (pg_name (i := 4) scSpread.nd rfl (.inl rfl)) (pgs_cons (pg_name (i := 5) scSpread.nd rfl (.inl rfl)) (pgs_cons (pg_name (i := 6) scSpread.nd rfl (.inl rfl)) pgs_nil)))))
  (pss_cons (ps_set (i := 7) scSpread.nd rfl (.inr rfl) (pe_glob (v := .int Tf.far) (by rfl) g_FAR ⟨_, rfl⟩))
  (pss_cons (ps_for PassesOwn.never rfl (pi_list (pv 3)) (pg_tup rfl (pgs_cons (pg_name (i := 8) scSpread.nd rfl (.inl rfl)) (pgs_cons (pg_name (i := 9) scSpread.nd rfl (.inl rfl)) (pgs_cons (pg_name (i := 10) scSpread.nd rfl (.inl rfl)) (pgs_cons (pg_name (i := 11) scSpread.nd rfl (.inl rfl)) pgs_nil)))))
  (pss_one (ps_if (PW.pt (pw_and (pt_cmpR op_isN (pe_ix (r := rIxL K) ix_list (pv 4) (pv 8) (fun _ _ => rfl)) pe_non (nomark _)) (pw_and1 (pt_cmpR op_notN (pe_ix (r := rIxL K) ix_list (pv 4) (pv 9) (fun _ _ => rfl)) pe_non (nomark _)))))
  (pss_one (ps_set (i := 7) scSpread.nd rfl (.inr rfl) (pe_callB (call_max2 rfl) (by rfl) z_max (by decide +kernel) (pa_cons (pv 7) (pa_cons (pe_op op_sub (pe_op op_sub (pe_op op_add (pe_glob (v := .int Tf.far) (by rfl) g_FAR ⟨_, rfl⟩) (pe_ix (r := rIxL K) ix_list (pv 4) (pv 9) (fun _ _ => rfl))) (pv 10)) (pe_ix (r := rIxL K) ix_list (pv 1) (pv 8) (fun _ _ => rfl))) pa_nil)))))
  pss_nil)))
  (pss_cons (ps_setLc (i := 12) (own := [("at", 13), ("distance", 14)]) (g := (gTup K 2 (gCons (gName 13) (gCons (gName 14) gNil)))) (tt := tYes) rfl scSpread.nd rfl rfl (sw_true rfl rfl rfl (by decide +kernel)) (pi_enum (by rfl) z_enumerate (pa_cons (pv 4) pa_nil)) (blkOk_by (N := nSpread) (sc := defScope sSpread) (by decide +kernel)) (fun _ _ _ _ _ => (pg_tup rfl (pgs_cons (pg_name (i := 13) scSpread.nd rfl (.inl rfl)) (pgs_cons (pg_name (i := 14) scSpread.nd rfl (.inl rfl)) pgs_nil)))) (fun _ _ _ _ _ => pts_nil) (fun _ _ _ _ _ => (pe_ifExp (pt_cmpR op_isN (pv 14) pe_non (nomark _)) (pe_op op_add (pe_ix (r := rIxL K) ix_list (pv 1) (pv 13) (fun _ _ => rfl)) (pv 7)) (pv 14))))
  (pss_one (ps_ret (pe_tup (pa_cons (pv 12) (pa_cons (pv 4) (pa_cons (pv 5) pa_nil))))))))))), ?_⟩
    obtain ⟨ab, bxs, rfl, hLb, hAb⟩ := dp_list hdb
    have ebx := of_dpa_ints hAb
    subst ebx
    -- edges = edges_of(rows); relaxed
    refine ⟨_, rfl, G, v, fs, sG, rfl, hd, hl, fun v1 G1 H1 g1 h1 => ?_⟩
    refine ⟨_, rfl, _, rfl, ab, _, rfl, .inl (g1.sub.seq (g1.gg.seq hLb)), _, rfl, G1, v1, fEs fs, n, o, g1.sub, ?_, h1, Tf.in_f ok.inn, ho, hn, by rw [List.length_map]; exact hl, fun v2 G2 H2 g2 h2 => ?_⟩
    · rw [List.length_map, Tf.lts_len ok]
      rfl
    generalize hr0 : Tf.relax (fEs fs) n o = r at h2 q
    have hdone := ok.fdone ho
    rw [hr0] at hdone
    obtain ⟨b, x1, x2, x3, rfl, hT, k1, k2, k3⟩ := dp_tup3 h2
    obtain ⟨ad, dxs, rfl, hLd, hAd⟩ := dp_list k1
    obtain ⟨al, lxs, rfl, hLl, hAl⟩ := dp_list k2
    have edx := of_dpa_oi hAd
    subst edx
    obtain ⟨ae, exs, rfl, hLe, hAe⟩ := dp_list h1
    refine ⟨b, _, rfl, Same.tup g2.sub hT, rfl, _, _, rfl, _, _, rfl, _, _, rfl, rfl, ?_⟩
    have g12 := g1.trans g2
    -- lift = FAR; the loop
    refine ⟨_, rfl, ae, rfl, ⟨exs, g2.sub.seq (g2.gg.seq hLe)⟩, for_list (K := K) (a := ae) (xs := exs) (fun i σ H' => ∃ (y8 y9 y10 y11 : Option V), σ = [some v, some (.ref ab), some (.int o), some (.ref ae), some (.ref ad), some (.ref al), some x3, some (.int (((fEs fs).take i).foldl (Tf.liftS r.d (lt fs n)) Tf.far)), y8, y9, y10, y11, none, none, none] ∧ H2 = H')
      ⟨none, none, none, none, rfl, rfl⟩ (fun i σ H' _ hP => ?_) (fun i x σ H' hi hP => ?_) (fun σ H' hP => ?_)⟩
    · obtain ⟨_, _, _, _, _, rfl⟩ := hP
      exact g2.sub.seq (g2.gg.seq hLe)
    · obtain ⟨y8, y9, y10, y11, rfl, rfl⟩ := hP
      obtain ⟨d0, hd0, hv⟩ := dpa_getV hAe hi
      obtain ⟨ed, hed, rfl⟩ := get_map hd0
      have hmem : ed ∈ fEs fs := List.mem_of_getElem? hed
      obtain ⟨hs, he⟩ := Tf.in_f ok.inn ed hmem
      obtain ⟨bb, fv, rfl, hTe, hF⟩ := dp_ed (dp_mono g2.gg hv)
      rw [take_fold hed]
      generalize ((fEs fs).take i).foldl (Tf.liftS r.d (lt fs n)) Tf.far = acc
      have hsV := getOI (d := r.d) (i := ed.s) (by rw [hdone.good.len]; exact hs)
      have heV := getOI (d := r.d) (i := ed.e) (by rw [hdone.good.len]; exact he)
      have hLd2 := g2.sub.seq hLd
      have hLb2 := g12.sub.seq (g12.gg.seq hLb)
      refine ⟨bb, _, rfl, Same.tup g2.sub hTe, rfl, _, _, rfl, _, _, rfl, _, _, rfl, _, _, rfl, rfl, ?_⟩
      refine ⟨_, rfl, _, rfl, ad, _, (ed.s : Nat), _, rfl, rfl, hLd2, atI_nat hsV, rfl, _, rfl, ?_⟩
      have no : ∀ (h : Tf.liftS r.d (lt fs n) acc ed = acc), ∃ (y8 y9 y10 y11 : Option V), [some v, some (V.ref ab), some (.int o), some (.ref ae), some (.ref ad), some (.ref al), some x3, some (.int acc), some (.int ed.s), some (.int ed.e), some (.int ed.m), some fv, none, none, none] =
          [some v, some (.ref ab), some (.int o), some (.ref ae), some (.ref ad), some (.ref al), some x3, some (.int (Tf.liftS r.d (lt fs n) acc ed)), y8, y9, y10, y11, none, none, none] ∧ H2 = H2 := fun h => by
        rw [h]
        exact ⟨_, _, _, _, rfl, rfl⟩
      cases hcs : Tf.at_ r.d ed.s with
      | some c =>
        refine iteF (iteF ?_)
        refine no ?_
        unfold Tf.liftS
        rw [hcs]
      | none =>
        refine iteT ?_
        refine ⟨_, rfl, _, rfl, ad, _, (ed.e : Nat), _, rfl, rfl, hLd2, atI_nat heV, rfl, _, rfl, ?_⟩
        cases hce : Tf.at_ r.d ed.e with
        | none =>
          refine iteF ?_
          refine no ?_
          unfold Tf.liftS
          rw [hcs, hce]
        | some y =>
          refine iteT ?_
          rw [hce] at heV
          refine ⟨_, rfl, _, rfl, _, rfl, ad, _, (ed.e : Nat), _, rfl, rfl, hLd2, atI_nat heV, _, y, rfl, rfl, _, rfl, _, _, rfl, rfl, _, rfl, _, rfl, ab, _, (ed.s : Nat), _, rfl, rfl, hLb2, atI_nat (lts_get ok hs), _, _, rfl, rfl, _, _, rfl, ?_⟩
          have e1 : Tf.liftS r.d (lt fs n) acc ed = if Tf.far + y - ed.m - lt fs n ed.s > acc then Tf.far + y - ed.m - lt fs n ed.s else acc := by
            unfold Tf.liftS
            rw [hcs, hce]
          rw [e1]
          exact ⟨_, _, _, _, rfl, rfl⟩
    · obtain ⟨y8, y9, y10, y11, rfl, rfl⟩ := hP
      have et : (fEs fs).take exs.length = fEs fs := List.take_of_length_le (by rw [dpa_len hAe, List.length_map, List.length_map]; exact Nat.le_of_eq (List.length_map _).symm)
      rw [et]
      have elift : (fEs fs).foldl (Tf.liftS r.d (lt fs n)) Tf.far = Tf.lift r.d (lt fs n) (fEs fs) := rfl
      rw [elift]
      have hLd2 := g2.sub.seq hLd
      have hdl : (r.d.map vOI).length = n := by rw [List.length_map]; exact hdone.good.len
      -- totals
      refine ⟨_, rfl, ad, _, rfl, hLd2, fun Dl hDl => ?_⟩
      refine lc_pure (K := K) (Q := fun x H1 => tRet (tTup (tCons (tVar 12) (tCons (tVar 4) (tCons (tVar 5) tNil)))) { nx := fun _ H' => Q .non H', rt := Q } [some v, some (.ref ab), some (.int o), some (.ref ae), some (.ref ad), some (.ref al), some x3, some (.int (Tf.lift r.d (lt fs n) (fEs fs))), y8, y9, y10, y11, some x, none, none] H1)
        (walk_enum (K := K) (a := ad) (xs := r.d.map vOI)) ((spr fs n o).map PyData.int) g2.sub hDl (by rw [List.length_map, Tf.spr_len, hdl]) (by rw [hdl]; omega) (fun G3 H3 g => g.sub.seq (g.gg.seq hLd)) (fun i x G3 H3 H3' d hi g3 y E hE => ?_) (fun G3 H3 g3 hd3 => ?_) (gm_tup (gms_cons gm_name (gms_cons gm_name gms_nil)))
      · obtain ⟨T, z1, z2, rfl, nT, rfl, f1, f2⟩ := y
        have f1 : some (V.int (i : Nat)) = some z1 := f1
        have f2 : (r.d.map vOI)[i]? = some z2 := f2
        cases f1
        obtain ⟨z, hz, rfl⟩ := get_map hi
        obtain ⟨hin, ez⟩ := range_get hz
        subst ez
        have hoi := getOI (d := r.d) (i := i) (by rw [hdone.good.len]; exact hin)
        rw [hoi] at f2
        cases f2
        have hLb3 : SqL K H3 ab ((lts fs n).map V.int) := g3.sub.seq (g3.gg.seq (g12.gg.seq hLb))
        refine ⟨T, _, rfl, SqT.of upd_same, rfl, _, _, rfl, _, _, rfl, rfl, rfl, ?_⟩
        refine ⟨_, rfl, rfl, _, rfl, ?_⟩
        unfold sprT at hE
        rw [hr0] at hE
        cases hat : Tf.at_ r.d i with
        | none =>
          refine iteT ?_
          rw [hat] at hE
          refine ⟨_, rfl, _, rfl, ab, _, (i : Nat), _, rfl, rfl, (same_up nT).seq hLb3, atI_nat (lts_get ok hin), _, rfl, _, _, rfl, rfl, ?_⟩
          exact hE _ _ _ (grow_new g3.sub nT) (.int _)
        | some c =>
          refine iteF ?_
          rw [hat] at hE
          refine ⟨_, rfl, ?_⟩
          exact hE _ _ _ (grow_new g3.sub nT) (.int _)
      · refine ⟨_, rfl, _, rfl, _, rfl, sz3, fun pt npt => ?_⟩
        have s4 := same_up (o := .tup [V.ref Dl, .ref ad, .ref al]) (same_none g3.sub npt)
        exact q _ _ _ ((g12.trans g3).lay npt) (dp_tpl upd_same (.cons (dp_mono s4 hd3) (.cons (dp_mono (g3.gg.trans s4) k1) (.cons (dp_mono (g3.gg.trans s4) k2) .nil))))
end
end Tw
end
section
set_option maxHeartbeats 8000000
namespace Tw
open PySem PySem.Spec PyProof.Rows L2
open Tf (bEs lts lt difs difs_len Ok fEs sprT spr)
abbrev psTSS : List Str := ["tiers", "seen", "measure", "stretch", "low", "high"]
abbrev dInts (zs : List Int) : PyData := .list (zs.map PyData.int)
section
variable {P : Program} {w : World} {K : PySem.W.Frag} {mg : Str → Option Value} {base : Heap}
/-! ### greatest -/
abbrev sGreat : Stmt := topS 26
abbrev nGreat : List Str := ["tiers", "seen", "measure", "stretch", "low", "high", "rows", "base", "first", "stop", "totals", "distances", "lasts"]
theorem scGreat : FnScope nGreat psTSS (defScope sGreat) := ⟨rfl, rfl, rfl, by decide +kernel, rfl, by decide +kernel, by decide +kernel⟩
def GreatD (zs : List Int) (d : PyData) : Prop := d = .tuple [.str "unbounded", dInts zs] ∨ ∃ x dw, d = .tuple [.str "greatest", .int x, dInts zs, dw]
def spGreat (K : PySem.W.Frag) : Sp := fun vs H Q _ => ∃ (G : Hp) (vt v vr : V) (ts : Tiers) (t : Tf.Tab) (m a b : Nat) (low : Int) (high : Option Int), Same G H ∧ vs = [vt, v, .int m, vr, .int low, vOI high] ∧ Dp K G vt (dTiers ts) ∧ Dp K G v (dSeen t) ∧ Dp K G vr (.tuple [.int a, .int b]) ∧
  Tf.Valid ts.length t ∧ ts.length ≤ 10 ∧ t.length ≤ 100 ∧ Ok (Tf.factsM ts t m low high) (t.length + 1) ∧ a ≤ t.length ∧ b ≤ t.length ∧
  ∀ u d G' H', Grow M0 G H G' H' → Dp K G' u d → GreatD (difs (spr (Tf.factsM ts t m low high) (t.length + 1) a)) d → Q u H'
theorem ok_great (D : DefK K mg "greatest" sGreat psTSS 4) (C_agreeing_facts : Cal P w K mg base 5 "agreeing_facts" psTS (spAgrF K)) (C_spread : Cal P w K mg base 3 "spread" ["rows", "base", "origin"] (spSpread K)) (C_sizes_of : Cal P w K mg base 1 "sizes_of" ["totals"] (spSizesOf K))
    (C_walk_to : Cal P w K mg base 1 "walk_to" ["lasts", "origin", "place"] (spWalk K)) : CalK P w K mg base 6 "greatest" psTSS 4 (spGreat K) := by
  refine D.ok scGreat (fun vs H Q E h => ?_) (fun f cdv A outer s H vs Q E hr h => ?_)
  · obtain ⟨G, vt, v, vr, ts, t, m, a, b, low, high, _, rfl, _⟩ := h
    rfl
  · obtain ⟨G, vt, v, vr, ts, t, m, a, b, low, high, sG, rfl, hdt, hds, hdr, hv, hk, hn, ok, ha, hb, q⟩ := h
    refine ⟨_, (pss_cons (ps_asg (pe_cal C_agreeing_facts (hr.mono (by decide)) (by rfl) (pa_cons (pv 0) (pa_cons (pv 1) (pa_cons (pv 2) (pa_cons (pv 4) (pa_cons (pv 5) pa_nil)))))) (pg_tup rfl (pgs_cons (pg_name (i := 6) scGreat.nd rfl (.inl rfl)) (pgs_cons (pg_name (i := 7) scGreat.nd rfl (.inl rfl)) pgs_nil))))
  (pss_cons (ps_asg (pv 3) (pg_tup rfl (pgs_cons (pg_name (i := 8) scGreat.nd rfl (.inl rfl)) (pgs_cons (pg_name (i := 9) scGreat.nd rfl (.inl rfl)) pgs_nil))))
  (pss_cons (ps_asg (pe_cal C_spread (hr.mono (by decide)) (by rfl) (pa_cons (pv 6) (pa_cons (pv 7) (pa_cons (pv 8) pa_nil)))) (pg_tup rfl (pgs_cons (pg_name (i := 10) scGreat.nd rfl (.inl rfl)) (pgs_cons (pg_name (i := 11) scGreat.nd rfl (.inl rfl)) (pgs_cons (pg_name (i := 12) scGreat.nd rfl (.inl rfl)) pgs_nil)))))
  (pss_cons (ps_if (pt_cmpR op_isN (pe_ix (r := rIxL K) ix_list (pv 11) (pv 9) (fun _ _ => rfl)) pe_non (nomark _))
  (pss_one (ps_ret (pe_tup (pa_cons pe_str (pa_cons (pe_cal C_sizes_of (hr.mono (by decide)) (by rfl) (pa_cons (pv 10) pa_nil)) pa_nil)))))
  pss_nil)
  (pss_one (ps_ret (pe_tup (pa_cons pe_str (pa_cons (pe_ix (r := rIxL K) ix_list (pv 11) (pv 9) (fun _ _ => rfl)) (pa_cons (pe_cal C_sizes_of (hr.mono (by decide)) (by rfl) (pa_cons (pv 10) pa_nil)) (pa_cons (pe_cal C_walk_to (hr.mono (by decide)) (by rfl) (pa_cons (pv 12) (pa_cons (pv 8) (pa_cons (pv 9) pa_nil)))) pa_nil))))))))))), ?_⟩
    have hfl := Tf.factsM_len (m := m) (low := low) (high := high) hn hk
    refine ⟨_, rfl, _, rfl, _, rfl, _, rfl, _, rfl, G, vt, v, ts, t, m, low, high, sG, rfl, hdt, hds, hv, hk, hn, ok, fun u1 G1 H1 g1 hu1 => ?_⟩
    generalize Tf.factsM ts t m low high = fs at ok hfl hu1 q
    obtain ⟨b1, x, y, rfl, hT1, h1, h2⟩ := dp_tup2 hu1
    refine ⟨b1, _, rfl, Same.tup g1.sub hT1, rfl, _, _, rfl, _, _, rfl, rfl, ?_⟩
    obtain ⟨br, rx, ry, rfl, hTr, hr1, hr2⟩ := dp_tup2 hdr
    have e1 := dp_int hr1
    have e2 := dp_int hr2
    subst e1 e2
    refine ⟨_, rfl, br, _, rfl, Same.tup g1.sub (Same.tup g1.gg hTr), rfl, _, _, rfl, _, _, rfl, rfl, ?_⟩
    refine ⟨_, rfl, _, rfl, _, rfl, G1, x, y, fs, t.length + 1, a, g1.sub, rfl, h1, h2, ok, by omega, by omega, by omega, fun u2 G2 H2 g2 hu2 => ?_⟩
    have hdone := ok.fdone (o := a) (by omega)
    have hwalk := fun x hx => ok.walk (o := a) (v := b) (x := x) (by omega) (by omega) hx
    generalize Tf.relax (fEs fs) (t.length + 1) a = r at hdone hwalk hu2
    obtain ⟨b2, x1, x2, x3, rfl, hT2, k1, k2, k3⟩ := dp_tup3 hu2
    refine ⟨b2, _, rfl, Same.tup g2.sub hT2, rfl, _, _, rfl, _, _, rfl, _, _, rfl, rfl, ?_⟩
    obtain ⟨ad, dxs, rfl, hLd, hAd⟩ := dp_list k2
    have edx := of_dpa_oi hAd
    subst edx
    have hbV := getOI (d := r.d) (i := b) (by rw [hdone.good.len]; omega)
    refine ⟨_, rfl, _, rfl, ad, _, (b : Nat), _, rfl, rfl, g2.sub.seq hLd, atI_nat hbV, rfl, _, rfl, ?_⟩
    have g12 := g1.trans g2
    have hsl : (spr fs (t.length + 1) a).length < 1000 := by rw [Tf.spr_len]; omega
    cases hat : Tf.at_ r.d b with
    | none =>
      refine iteT ?_
      refine ⟨_, rfl, G2, x1, spr fs (t.length + 1) a, g2.sub, rfl, k1, hsl, fun pl G3 H3 g3 hpl gpl epl => ?_⟩
      have g4 := g3.abs hpl gpl epl
      refine ⟨sz2, fun pt npt => ?_⟩
      refine q _ _ _ _ ((g12.trans g4).lay npt) (dp_tpl upd_same (.cons (.str _) (.cons (dp_lst (same_up (same_none g4.sub npt) _ _ upd_same) (dpa_ints _)) .nil))) (.inl rfl)
    | some xv =>
      refine iteF ?_
      rw [hat] at hbV
      obtain ⟨j, hch, hj⟩ := hwalk xv hat
      refine ⟨_, rfl, _, rfl, ad, _, (b : Nat), _, rfl, rfl, g2.sub.seq hLd, atI_nat hbV, ?_⟩
      refine ⟨_, rfl, G2, x1, spr fs (t.length + 1) a, g2.sub, rfl, k1, hsl, fun pl G3 H3 g3 hpl gpl epl => ?_⟩
      have g4 := g3.abs hpl gpl epl
      have hl4 : Dp K (upd G3 pl (.lst ((difs (spr fs (t.length + 1) a)).map V.int))) (.ref pl) (dInts (difs (spr fs (t.length + 1) a))) := dp_lst upd_same (dpa_ints _)
      generalize upd G3 pl (.lst ((difs (spr fs (t.length + 1) a)).map V.int)) = G4 at g4 hl4
      refine ⟨_, rfl, _, rfl, _, rfl, G4, x3, r.l, a, b, j, g4.sub, rfl, dp_mono g4.gg k3, hch, by omega, fun u5 d5 G5 H5 g5 h5 => ?_⟩
      refine ⟨sz4, fun pt npt => ?_⟩
      have s6 := same_up (o := .tup [V.str "greatest", .int xv, .ref pl, u5]) (same_none g5.sub npt)
      refine q _ _ _ _ (((g12.trans g4).trans g5).lay npt) (dp_tpl upd_same (.cons (.str _) (.cons (.int _) (.cons (dp_mono (g5.gg.trans s6) hl4) (.cons (dp_mono s6 h5) .nil))))) (.inr ⟨_, _, rfl⟩)
/-! ### least -/
abbrev sLeastT : Stmt := topS 27
abbrev nLeastT : List Str := ["tiers", "seen", "measure", "stretch", "low", "high", "rows", "base", "first", "stop", "totals", "distances", "lasts"]
theorem scLeastT : FnScope nLeastT psTSS (defScope sLeastT) := ⟨rfl, rfl, rfl, by decide +kernel, rfl, by decide +kernel, by decide +kernel⟩
def spLeastT (K : PySem.W.Frag) : Sp := fun vs H Q _ => ∃ (G : Hp) (vt v vr : V) (ts : Tiers) (t : Tf.Tab) (m a b : Nat) (low : Int) (high : Option Int), Same G H ∧ vs = [vt, v, .int m, vr, .int low, vOI high] ∧ Dp K G vt (dTiers ts) ∧ Dp K G v (dSeen t) ∧ Dp K G vr (.tuple [.int a, .int b]) ∧
  Tf.Valid ts.length t ∧ ts.length ≤ 10 ∧ t.length ≤ 100 ∧ Ok (Tf.factsM ts t m low high) (t.length + 1) ∧ a ≤ b ∧ b ≤ t.length ∧
  ∀ u x dw G' H', Grow M0 G H G' H' → Dp K G' u (.tuple [.str "least", .int x, dInts (difs (spr (Tf.factsM ts t m low high) (t.length + 1) b)), dw]) → Q u H'
theorem ok_leastT (D : DefK K mg "least" sLeastT psTSS 4) (C_agreeing_facts : Cal P w K mg base 5 "agreeing_facts" psTS (spAgrF K)) (C_spread : Cal P w K mg base 3 "spread" ["rows", "base", "origin"] (spSpread K)) (C_sizes_of : Cal P w K mg base 1 "sizes_of" ["totals"] (spSizesOf K))
    (C_walk_to : Cal P w K mg base 1 "walk_to" ["lasts", "origin", "place"] (spWalk K)) : CalK P w K mg base 6 "least" psTSS 4 (spLeastT K) := by
  refine D.ok scLeastT (fun vs H Q E h => ?_) (fun f cdv A outer s H vs Q E hr h => ?_)
  · obtain ⟨G, vt, v, vr, ts, t, m, a, b, low, high, _, rfl, _⟩ := h
    rfl
  · obtain ⟨G, vt, v, vr, ts, t, m, a, b, low, high, sG, rfl, hdt, hds, hdr, hv, hk, hn, ok, ha, hb, q⟩ := h
    refine ⟨_, (pss_cons (ps_asg (pe_cal C_agreeing_facts (hr.mono (by decide)) (by rfl) (pa_cons (pv 0) (pa_cons (pv 1) (pa_cons (pv 2) (pa_cons (pv 4) (pa_cons (pv 5) pa_nil)))))) (pg_tup rfl (pgs_cons (pg_name (i := 6) scLeastT.nd rfl (.inl rfl)) (pgs_cons (pg_name (i := 7) scLeastT.nd rfl (.inl rfl)) pgs_nil))))
  (pss_cons (ps_asg (pv 3) (pg_tup rfl (pgs_cons (pg_name (i := 8) scLeastT.nd rfl (.inl rfl)) (pgs_cons (pg_name (i := 9) scLeastT.nd rfl (.inl rfl)) pgs_nil))))
  (pss_cons (ps_asg (pe_cal C_spread (hr.mono (by decide)) (by rfl) (pa_cons (pv 6) (pa_cons (pv 7) (pa_cons (pv 9) pa_nil)))) (pg_tup rfl (pgs_cons (pg_name (i := 10) scLeastT.nd rfl (.inl rfl)) (pgs_cons (pg_name (i := 11) scLeastT.nd rfl (.inl rfl)) (pgs_cons (pg_name (i := 12) scLeastT.nd rfl (.inl rfl)) pgs_nil)))))
  (pss_one (ps_ret (pe_tup (pa_cons pe_str (pa_cons (pe_un un_neg (pe_ix (r := rIxL K) ix_list (pv 11) (pv 8) (fun _ _ => rfl))) (pa_cons (pe_cal C_sizes_of (hr.mono (by decide)) (by rfl) (pa_cons (pv 10) pa_nil)) (pa_cons (pe_cal C_walk_to (hr.mono (by decide)) (by rfl) (pa_cons (pv 12) (pa_cons (pv 9) (pa_cons (pv 8) pa_nil)))) pa_nil)))))))))), ?_⟩
    have hfl := Tf.factsM_len (m := m) (low := low) (high := high) hn hk
    refine ⟨_, rfl, _, rfl, _, rfl, _, rfl, _, rfl, G, vt, v, ts, t, m, low, high, sG, rfl, hdt, hds, hv, hk, hn, ok, fun u1 G1 H1 g1 hu1 => ?_⟩
    generalize Tf.factsM ts t m low high = fs at ok hfl hu1 q
    obtain ⟨b1, x, y, rfl, hT1, h1, h2⟩ := dp_tup2 hu1
    refine ⟨b1, _, rfl, Same.tup g1.sub hT1, rfl, _, _, rfl, _, _, rfl, rfl, ?_⟩
    obtain ⟨br, rx, ry, rfl, hTr, hr1, hr2⟩ := dp_tup2 hdr
    have e1 := dp_int hr1
    have e2 := dp_int hr2
    subst e1 e2
    refine ⟨_, rfl, br, _, rfl, Same.tup g1.sub (Same.tup g1.gg hTr), rfl, _, _, rfl, _, _, rfl, rfl, ?_⟩
    refine ⟨_, rfl, _, rfl, _, rfl, G1, x, y, fs, t.length + 1, b, g1.sub, rfl, h1, h2, ok, by omega, by omega, by omega, fun u2 G2 H2 g2 hu2 => ?_⟩
    have hdone := ok.fdone (o := b) (by omega)
    have hwalk := fun x hx => ok.walk (o := b) (v := a) (x := x) (by omega) (by omega) hx
    obtain ⟨xv, hat⟩ := ok.below (o := b) (by omega) (b - a) a (by omega)
    generalize Tf.relax (fEs fs) (t.length + 1) b = r at hdone hwalk hu2 hat
    obtain ⟨b2, x1, x2, x3, rfl, hT2, k1, k2, k3⟩ := dp_tup3 hu2
    refine ⟨b2, _, rfl, Same.tup g2.sub hT2, rfl, _, _, rfl, _, _, rfl, _, _, rfl, rfl, ?_⟩
    obtain ⟨ad, dxs, rfl, hLd, hAd⟩ := dp_list k2
    have edx := of_dpa_oi hAd
    subst edx
    have hbV := getOI (d := r.d) (i := a) (by rw [hdone.good.len]; omega)
    have g12 := g1.trans g2
    have hsl : (spr fs (t.length + 1) b).length < 1000 := by rw [Tf.spr_len]; omega
    rw [hat] at hbV
    obtain ⟨j, hch, hj⟩ := hwalk xv hat
    refine ⟨_, rfl, _, rfl, ad, _, (a : Nat), _, rfl, rfl, g2.sub.seq hLd, atI_nat hbV, _, rfl, ?_⟩
    refine ⟨_, rfl, G2, x1, spr fs (t.length + 1) b, g2.sub, rfl, k1, hsl, fun pl G3 H3 g3 hpl gpl epl => ?_⟩
    have g4 := g3.abs hpl gpl epl
    have hl4 : Dp K (upd G3 pl (.lst ((difs (spr fs (t.length + 1) b)).map V.int))) (.ref pl) (dInts (difs (spr fs (t.length + 1) b))) := dp_lst upd_same (dpa_ints _)
    generalize upd G3 pl (.lst ((difs (spr fs (t.length + 1) b)).map V.int)) = G4 at g4 hl4
    refine ⟨_, rfl, _, rfl, _, rfl, G4, x3, r.l, b, a, j, g4.sub, rfl, dp_mono g4.gg k3, hch, by omega, fun u5 d5 G5 H5 g5 h5 => ?_⟩
    refine ⟨sz4, fun pt npt => ?_⟩
    have s6 := same_up (o := .tup [V.str "least", .int (-xv), .ref pl, u5]) (same_none g5.sub npt)
    exact q _ _ _ _ _ (((g12.trans g4).trans g5).lay npt) (dp_tpl upd_same (.cons (.str _) (.cons (.int _) (.cons (dp_mono (g5.gg.trans s6) hl4) (.cons (dp_mono s6 h5) .nil)))))
/-! ### sizes_with -/
abbrev sWith : Stmt := topS 28
abbrev nWith : List Str := ["tiers", "seen", "measure", "stretch", "value", "low", "high", "rows", "totals", "walk"]
abbrev psTSV : List Str := ["tiers", "seen", "measure", "stretch", "value", "low", "high"]
theorem scWith : FnScope nWith psTSV (defScope sWith) := ⟨rfl, rfl, rfl, by decide +kernel, rfl, by decide +kernel, by decide +kernel⟩
def withF (fs : List Tf.Fa) (a b : Nat) (z : Int) : List Tf.Fa := fs ++ [⟨true, a, b, z⟩, ⟨false, a, b, z⟩]
def spWith (K : PySem.W.Frag) : Sp := fun vs H Q _ => ∃ (G : Hp) (vt v vr : V) (ts : Tiers) (t : Tf.Tab) (m a b : Nat) (z low : Int) (high : Option Int), Same G H ∧ vs = [vt, v, .int m, vr, .int z, .int low, vOI high] ∧ Dp K G vt (dTiers ts) ∧ Dp K G v (dSeen t) ∧ Dp K G vr (.tuple [.int a, .int b]) ∧
  Tf.Valid ts.length t ∧ ts.length ≤ 10 ∧ t.length ≤ 100 ∧ Ok (withF (Tf.factsM ts t m low high) a b z) (t.length + 1) ∧
  Gv K G H (dInts (difs (lts (withF (Tf.factsM ts t m low high) a b z) (t.length + 1)))) Q
theorem ok_with (D : DefK K mg "sizes_with" sWith psTSV 5) (C_facts : CalK P w K mg base 4 "facts" psTS 3 (spFacts K)) (C_least_totals : Cal P w K mg base 3 "least_totals" ["rows", "many"] (spLeast K)) (C_sizes_of : Cal P w K mg base 1 "sizes_of" ["totals"] (spSizesOf K)) (z_len : mg "len" = none) :
    CalK P w K mg base 5 "sizes_with" psTSV 5 (spWith K) := by
  refine D.ok scWith (fun vs H Q E h => ?_) (fun f cdv A outer s H vs Q E hr h => ?_)
  · obtain ⟨G, vt, v, vr, ts, t, m, a, b, z, low, high, _, rfl, _⟩ := h
    rfl
  · obtain ⟨G, vt, v, vr, ts, t, m, a, b, z, low, high, sG, rfl, hdt, hds, hdr, hv, hk, hn, ok, q⟩ := h
    refine ⟨_, (pss_cons (ps_set (i := 7) scWith.nd rfl (.inl rfl) (pe_calK C_facts (hr.mono (by decide)) (by rfl) (pa_cons (pv 0) (pa_cons (pv 1) (pa_cons (pv 2) pa_nil))) (pk_cons (pv 5) (pk_cons (pv 6) pk_nil))))
  (pss_cons (ps_set (i := 7) scWith.nd rfl (.inl rfl) (pe_op op_cat (pv 7) (pe_lst (pa_cons (pe_tup (pa_cons pe_str (pa_cons (pv 3) (pa_cons (pv 4) pa_nil)))) (pa_cons (pe_tup (pa_cons pe_str (pa_cons (pv 3) (pa_cons (pv 4) pa_nil)))) pa_nil)))))
  (pss_cons (ps_asg (pe_cal C_least_totals (hr.mono (by decide)) (by rfl) (pa_cons (pv 7) (pa_cons (pe_op op_add (pe_callB (r := rLn K) call_len_seq (by rfl) z_len PySem.boot_len (pa_cons (pv 1) pa_nil)) pe_int) pa_nil))) (pg_tup rfl (pgs_cons (pg_name (i := 8) scWith.nd rfl (.inl rfl)) (pgs_cons (pg_name (i := 9) scWith.nd rfl (.inl rfl)) pgs_nil))))
  (pss_cons (ps_if (pt_cmpR op_isN (pv 8) pe_non (nomark _)) pss_never pss_nil)
  (pss_one (ps_ret (pe_cal C_sizes_of (hr.mono (by decide)) (by rfl) (pa_cons (pv 8) pa_nil)))))))), ?_⟩
    have hfl := Tf.factsM_len (m := m) (low := low) (high := high) hn hk
    refine ⟨_, rfl, _, rfl, _, rfl, _, rfl, _, rfl, rfl, rfl, G, vt, v, ts, t, m, low, high, sG, rfl, hdt, hds, hv, hk, hn, fun pr xs G1 H1 g1 hp gp ep ha => ?_⟩
    generalize Tf.factsM ts t m low high = fs at ok hfl ha q
    have hxl : xs.length = fs.length := by rw [dpa_len ha, List.length_map]
    -- rows + [..]
    refine ⟨_, rfl, _, rfl, _, rfl, sz3, fun t1 n1 => ?_⟩
    refine ⟨_, rfl, _, rfl, sz3, fun t2 n2 => ?_⟩
    refine ⟨sz2, fun pc npc => ?_⟩
    have g2 := (g1.lay (o := .tup [.str "most", vr, .int z]) n1).lay (o := .tup [.str "least", vr, .int z]) n2
    have e1p : (upd H1 t1 (.tup [V.str "most", vr, .int z])) pr = some (.lst xs) := by rw [upd_ne (ne_of_none ep n1)]; exact ep
    have e2p : (upd (upd H1 t1 (.tup [V.str "most", vr, .int z])) t2 (.tup [.str "least", vr, .int z])) pr = some (.lst xs) := by rw [upd_ne (ne_of_none e1p n2)]; exact e1p
    have g1p : (upd G1 t1 (.tup [V.str "most", vr, .int z])) pr = none := by rw [upd_ne (ne_of_none ep n1)]; exact gp
    have s1 : Same G1 (upd G1 t1 (.tup [V.str "most", vr, .int z])) := same_up (same_none g1.sub n1)
    have s2 : Same (upd G1 t1 (.tup [V.str "most", vr, .int z])) (upd (upd G1 t1 (.tup [V.str "most", vr, .int z])) t2 (.tup [.str "least", vr, .int z])) := same_up (same_none (g1.lay (o := .tup [.str "most", vr, .int z]) n1).sub n2)
    have a2 := dpa_mono (s1.trans s2) ha
    have f1 : Dp K (upd (upd G1 t1 (.tup [V.str "most", vr, .int z])) t2 (.tup [.str "least", vr, .int z])) (.ref t1) (dFa ⟨true, a, b, z⟩) := dp_tpl (s2 _ _ upd_same) (.cons (.str _) (.cons (dp_mono (g1.gg.trans (s1.trans s2)) hdr) (.cons (.int _) .nil)))
    have f2 : Dp K (upd (upd G1 t1 (.tup [V.str "most", vr, .int z])) t2 (.tup [.str "least", vr, .int z])) (.ref t2) (dFa ⟨false, a, b, z⟩) := dp_tpl upd_same (.cons (.str _) (.cons (dp_mono (g1.gg.trans (s1.trans s2)) hdr) (.cons (.int _) .nil)))
    generalize upd (upd G1 t1 (.tup [V.str "most", vr, .int z])) t2 (.tup [.str "least", vr, .int z]) = G2 at g2 a2 f1 f2
    generalize upd (upd H1 t1 (.tup [V.str "most", vr, .int z])) t2 (.tup [.str "least", vr, .int z]) = H2 at g2 e2p npc
    have g3 := g2.loc (o := .lst [.ref t1, .ref t2]) npc
    refine ⟨pr, pc, xs, _, rfl, rfl, by rw [upd_ne (ne_of_none e2p npc)]; exact e2p, upd_same, sz (by rw [hxl]; show fs.length + 2 ≤ 100000; omega), fun pn npn => ?_⟩
    have g4 := g3.lay (o := .lst (xs ++ [.ref t1, .ref t2])) npn
    have s4 : Same G2 (upd G2 pn (.lst (xs ++ [.ref t1, .ref t2]))) := same_up (same_none g3.sub npn)
    have hd4 : Dp K (upd G2 pn (.lst (xs ++ [.ref t1, .ref t2]))) (.ref pn) (.list ((withF fs a b z).map dFa)) := by
      refine dp_lst upd_same ?_
      unfold withF
      rw [List.map_append]
      exact dpa_mono s4 (dpa_app a2 (.cons f1 (.cons f2 .nil)))
    generalize upd G2 pn (.lst (xs ++ [.ref t1, .ref t2])) = G4 at g4 hd4
    have hwl : (withF fs a b z).length < 100000 := by
      unfold withF
      rw [List.length_append]
      show fs.length + 2 < 100000
      omega
    generalize withF fs a b z = ws at ok hd4 hwl q
    obtain ⟨as, sxs, rfl, hLs, hAs⟩ := dp_list hds
    have hxs : sxs.length = t.length := by rw [dpa_len hAs, List.length_map, List.length_range]
    refine ⟨_, rfl, _, rfl, as, sxs, rfl, .inl (g4.sub.seq (g4.gg.seq hLs)), _, _, rfl, rfl, G4, _, ws, t.length + 1, g4.sub, ?_, hd4, Tf.in_b ok.inn, ok.pos, by omega, hwl, ok.done.none, ok.done.good.len, ok.lab, fun u G5 H5 g5 hu => ?_⟩
    · rw [hxs]
      rfl
    obtain ⟨b5, x, y, rfl, hT, h1, h2⟩ := dp_tup2 hu
    obtain ⟨bl, lxs, rfl, hL, hA⟩ := dp_list h1
    refine ⟨b5, _, rfl, Same.tup g5.sub hT, rfl, _, _, rfl, _, _, rfl, rfl, ?_⟩
    refine ⟨_, rfl, rfl, _, rfl, iteF ?_⟩
    refine ⟨_, rfl, G5, _, lts ws (t.length + 1), g5.sub, rfl, h1, by rw [Tf.lts_len ok]; omega, fun pl G6 H6 g6 hpl gpl epl => ?_⟩
    exact q _ _ _ ((g4.trans g5).trans (g6.abs hpl gpl epl)) (dp_lst upd_same (dpa_ints _))
end
end Tw
end
section
set_option maxHeartbeats 8000000
namespace Tw
open PySem PySem.Spec PyProof.Rows L2
/-- the rest of a body, from any state that keeps R -/
theorem tseq_tail {t u : TS} {D : Ends} {σ : L2.St} {H : Hp} (R : L2.St → Hp → Prop) (h2 : ∀ σ' H', R σ' H' → u D σ' H') (h1 : (∀ σ' H', R σ' H' → u D σ' H') → t { D with nx := u D } σ H) : tSeq t u D σ H := h1 h2
theorem tset0 {u : TS} {D : Ends} {σ : L2.St} {H : Hp} {v : V} {i : Nat} (h : u D (σ.set i (some v)) H) : tSeq (tAsg (tC v) (gName i)) u D σ H := h
/-! ### the bag -/
abbrev Mb (b : Addr) : Addr → Prop := fun x => x = b
structure BagAt (b bx : Addr) (H : Hp) : Prop where
  ex : ∃ (b0 b1 : Int) (c : Nat), H b = some (.lst [.int b0, .int b1, .int (c : Int), .ref bx]) ∧ 0 ≤ b0 ∧ 0 ≤ b1 ∧ b1 < 2147483647
structure BG (K : PySem.W.Frag) (b bx : Addr) (G H : Hp) : Prop where
  sub : Same G H
  out : G b = none
  bv : ∃ xs : List Int, SqL K G bx (xs.map V.int) ∧ ∀ x ∈ xs, 0 ≤ x
  at_ : BagAt b bx H
section
variable {K : PySem.W.Frag} {b bx p : Addr} {G H G' H' : Hp} {o : HO}
theorem BagAt.nn (h : BagAt b bx H) : H b ≠ none := by
  obtain ⟨b0, b1, c, e, _⟩ := h.ex
  exact nn_of e
theorem BagAt.up (h : BagAt b bx H) (np : H p = none) : BagAt b bx (upd H p o) := by
  have hne : b ≠ p := ne_nn h.nn np
  obtain ⟨b0, b1, c, e, r⟩ := h.ex
  exact ⟨b0, b1, c, by rw [upd_ne hne]; exact e, r⟩
theorem BagAt.upn (h : BagAt b bx H) (hne : b ≠ p) : BagAt b bx (upd H p o) := by
  obtain ⟨b0, b1, c, e, r⟩ := h.ex
  exact ⟨b0, b1, c, by rw [upd_ne hne]; exact e, r⟩
theorem BagAt.grow (h : BagAt b bx H) (g : Grow M0 G H G' H') : BagAt b bx H' := by
  obtain ⟨b0, b1, c, e, r⟩ := h.ex
  exact ⟨b0, b1, c, g.same _ _ e, r⟩
theorem BG.step (B : BG K b bx G H) (g : Grow (Mb b) G H G' H') (h : BagAt b bx H') : BG K b bx G' H' := by
  obtain ⟨xs, hL, hx⟩ := B.bv
  exact ⟨g.sub, g.new _ B.out B.at_.nn, ⟨xs, g.gg.seq hL, hx⟩, h⟩
theorem BG.grow (B : BG K b bx G H) (g : Grow M0 G H G' H') : BG K b bx G' H' := B.step g.weak (B.at_.grow g)
theorem BG.loc (B : BG K b bx G H) (np : H p = none) : BG K b bx G (upd H p o) := B.step (grow_loc B.sub np) (B.at_.up np)
end
theorem fmod_r {a m : Int} (h : 0 < m) : 0 ≤ a.fmod m ∧ a.fmod m < m := ⟨Int.fmod_nonneg_of_pos a h, Int.fmod_lt_of_pos a h⟩
section
variable {P : Program} {w : World} {K : PySem.W.Frag} {mg : Str → Option Value} {base : Heap}
/-! ### _law_bag -/
abbrev sBag : Stmt := topS 30
abbrev nBag : List Str := ["_law_script", "_law_cell"]
theorem scBag : FnScope nBag ["_law_script"] (defScope sBag) := ⟨rfl, rfl, rfl, by decide +kernel, rfl, by decide +kernel, by decide +kernel⟩
def spBag (K : PySem.W.Frag) : Sp := fun vs H Q _ => ∃ (G : Hp) (a : Addr) (ns : List Int), Same G H ∧ vs = [.ref a] ∧ SqL K G a (ns.map V.int) ∧ ns.length ≤ 63 ∧ ∀ b bx G' H', Grow M0 G H G' H' → BG K b bx G' H' → Q (.ref b) H'
theorem ok_bag (D : Def K mg "_law_bag" sBag ["_law_script"]) (z_abs : mg "abs" = none) : Cal P w K mg base 1 "_law_bag" ["_law_script"] (spBag K) := by
  refine D.ok scBag (fun vs H Q E h => ?_) (fun f cdv A outer s H vs Q E hr h => ?_)
  · obtain ⟨G, a, ns, _, rfl, _⟩ := h
    rfl
  · obtain ⟨G, a, ns, sG, rfl, hL, hl, q⟩ := h
    refine ⟨_, (pss_one (ps_ret (pe_lst (pa_cons pe_int (pa_cons pe_int (pa_cons pe_int (pa_cons (pe_lc (own := [("_law_cell", 1)]) (g := (gName 1)) (tt := tYes) rfl scBag.nd (pi_list (pe_slice (r := rSlL K) sl_list (pv 0) po_none (po_some pe_int))) (blkOk_by (N := nBag) (sc := defScope sBag) (by decide +kernel)) (fun _ _ _ _ _ => (pg_name (i := 1) scBag.nd rfl (.inl rfl))) (fun _ _ _ _ _ => pts_nil) (fun _ _ _ _ _ => (pe_callB call_abs (by rfl) z_abs (by decide +kernel) (pa_cons (pv 1) pa_nil)))) pa_nil))))))), ?_⟩
    refine ⟨_, rfl, 63, rfl, a, _, rfl, sG.seq hL, fun c nc => ?_⟩
    have ecut : cutV (ns.map V.int) none (some 63) = ns.map V.int := by
      unfold cutV
      rw [HT.sIx_none, show HT.sIx (ns.map V.int).length (ns.map V.int).length (some 63) = min 63 (ns.map V.int).length from HT.sIx_nat _ _ 63]
      rw [List.drop_zero, List.length_map]
      exact List.take_of_length_le (by rw [List.length_map]; omega)
    rw [ecut]
    have g1 : Grow M0 G H (upd G c (.lst (ns.map V.int))) (upd H c (.lst (ns.map V.int))) := grow_new sG nc
    have hc : SqL K (upd G c (.lst (ns.map V.int))) c (ns.map V.int) := SqL.of upd_same
    generalize upd G c (.lst (ns.map V.int)) = G1 at g1 hc
    generalize upd H c (.lst (ns.map V.int)) = H1 at g1
    refine ⟨c, rfl, ⟨_, g1.sub.seq hc⟩, fun Dl hDl => ?_⟩
    refine lc_pure (K := K) (Q := fun x H1 => tNil _ H1 fun xs H2 => (V.int 0 :: V.int 1234567891 :: V.int 0 :: x :: xs).length ≤ sizeLine ∧ ∀ p, H2 p = none → Q (.ref p) (upd H2 p (.lst (V.int 0 :: V.int 1234567891 :: V.int 0 :: x :: xs)))) walk_list ((ns.map fun i => if i < 0 then -i else i).map PyData.int) g1.sub hDl (by simp) (by rw [List.length_map]; omega)
      (fun G2 H2 g => g.sub.seq (g.gg.seq hc)) (fun i x G2 H2 H2' d hi g2 y E hE => ?_) (fun G2 H2 g2 hd => ?_) gm_name
    · obtain ⟨rfl, hx⟩ := y
      obtain ⟨z, hz, rfl⟩ := get_map hx
      obtain ⟨z2, hz2, rfl⟩ := get_map hi
      obtain ⟨z3, hz3, rfl⟩ := get_map hz2
      rw [hz] at hz3
      cases hz3
      exact ⟨rfl, _, rfl, _, rfl, hE _ _ _ (Grow.refl g2.sub) (.int _)⟩
    · obtain ⟨bx, xs, ex, hX, hA⟩ := dp_list hd
      cases ex
      have exs := of_dpa_ints hA
      subst exs
      refine ⟨sz4, fun p np => ?_⟩
      have gp : G2 p = none := same_none g2.sub np
      refine q _ Dl G2 _ ((g1.trans g2).loc np) ⟨(grow_loc (M := M0) g2.sub np).sub, gp, ⟨_, hX, fun x hx => ?_⟩, ⟨0, 1234567891, 0, upd_same, by omega, by omega, by omega⟩⟩
      obtain ⟨i, _, rfl⟩ := List.mem_map.mp hx
      split <;> omega
/-! ### _law_take -/
abbrev sTake : Stmt := topS 31
abbrev nTake : List Str := ["_law_bag_here", "_law_many", "_law_cell", "_law_value", "_law_first", "_law_second"]
abbrev psBM : List Str := ["_law_bag_here", "_law_many"]
theorem scTake : FnScope nTake psBM (defScope sTake) := ⟨rfl, rfl, rfl, by decide +kernel, rfl, by decide +kernel, by decide +kernel⟩
def spTake (K : PySem.W.Frag) : Sp := fun vs H Q _ => ∃ (G : Hp) (b bx : Addr) (many : Int), BG K b bx G H ∧ vs = [.ref b, .int many] ∧ 0 < many ∧ many < 2 ^ 62 ∧
  ∀ v H', Grow (Mb b) G H G H' → BG K b bx G H' → 0 ≤ v → v < many → Q (.int v) H'
structure BSt (b bx : Addr) (G H : Hp) (b0 b1 : Int) (c : Nat) (H' : Hp) : Prop where
  g : Grow (Mb b) G H G H'
  e : H' b = some (.lst [.int b0, .int b1, .int (c : Int), .ref bx])
  p0 : 0 ≤ b0
  p1 : 0 ≤ b1
  q1 : b1 < 2147483647
theorem BSt.fin {b bx : Addr} {G H H' : Hp} {b0 b1 : Int} {c : Nat} (s : BSt b bx G H b0 b1 c H') (B : BG K b bx G H) : BG K b bx G H' := B.step s.g ⟨b0, b1, c, s.e, s.p0, s.p1, s.q1⟩
theorem BSt.put {b bx : Addr} {G H H' : Hp} {b0 b1 c0 c1 : Int} {c cc : Nat} (s : BSt b bx G H b0 b1 c H') (B : BG K b bx G H) (e : c1 = (cc : Int)) (p0 : 0 ≤ c0) {d1 : Int} (p1 : 0 ≤ d1) (q1 : d1 < 2147483647) : BSt b bx G H c0 d1 cc (upd H' b (.lst [.int c0, .int d1, .int c1, .ref bx])) := by
  subst e
  exact ⟨s.g.chg B.out (nn_of s.e), upd_same, p0, p1, q1⟩
theorem ok_take (D : Def K mg "_law_take" sTake psBM) (z_len : mg "len" = none) : Cal P w K mg base 1 "_law_take" psBM (spTake K) := by
  refine D.ok scTake (fun vs H Q E h => ?_) (fun f cdv A outer s H vs Q E hr h => ?_)
  · obtain ⟨G, b, bx, many, _, rfl, _⟩ := h
    rfl
  · obtain ⟨G, b, bx, many, B, rfl, hm0, hm1, q⟩ := h
    refine ⟨_, (pss_cons (ps_if (pt_cmpR op_eq (pe_ix (r := rIxL K) ix_list (pv 0) pe_int (fun _ _ => rfl)) pe_int (nomark _))
  (pss_cons (ps_set (i := 2) scTake.nd rfl (.inl rfl) pe_int)
  (pss_cons (ps_if (pt_cmpR op_lt (pe_ix (r := rIxL K) ix_list (pv 0) pe_int (fun _ _ => rfl)) (pe_callB (r := rLn K) call_len_seq (by rfl) z_len PySem.boot_len (pa_cons (pe_ix (r := rIxL K) ix_list (pv 0) pe_int (fun _ _ => rfl)) pa_nil)) (nomark _))
  (pss_one (ps_set (i := 2) scTake.nd rfl (.inl rfl) (pe_ix (r := rIxL K) ix_list (pe_ix (r := rIxL K) ix_list (pv 0) pe_int (fun _ _ => rfl)) (pe_ix (r := rIxL K) ix_list (pv 0) pe_int (fun _ _ => rfl)) (fun _ _ => rfl))))
  pss_nil)
  (pss_cons (ps_augS (pv 0) pe_int get_list pe_int ip_add set_list)
  (pss_cons (ps_if (pt_cmpR op_ge (pv 2) pe_int (nomark _))
  (pss_one (ps_asg (pv 2) (pg_sub (pv 0) pe_int set_list)))
  pss_nil)
  (pss_one (ps_asg (pe_op op_modN (pe_op op_add (pe_op op_add (pe_op op_mul (pe_ix (r := rIxL K) ix_list (pv 0) pe_int (fun _ _ => rfl)) pe_int) (pe_op op_modN (pv 2) pe_int)) (pe_op op_mul pe_int (pe_ix (r := rIxL K) ix_list (pv 0) pe_int (fun _ _ => rfl)))) pe_int) (pg_sub (pv 0) pe_int set_list)))))))
  pss_nil)
  (pss_cons (ps_if (pt_cmpR op_gt (pe_ix (r := rIxL K) ix_list (pv 0) pe_int (fun _ _ => rfl)) pe_int (nomark _))
  (pss_cons (ps_set (i := 3) scTake.nd rfl (.inl rfl) (pe_op op_modN (pe_ix (r := rIxL K) ix_list (pv 0) pe_int (fun _ _ => rfl)) (pv 1)))
  (pss_cons (ps_asg (pe_op op_fdivW (pe_ix (r := rIxL K) ix_list (pv 0) pe_int (fun _ _ => rfl)) (pv 1)) (pg_sub (pv 0) pe_int set_list))
  (pss_one (ps_ret (pv 3)))))
  pss_nil)
  (pss_cons (ps_set (i := 4) scTake.nd rfl (.inl rfl) (pe_op op_modN (pe_op op_mul (pe_op op_add (pe_ix (r := rIxL K) ix_list (pv 0) pe_int (fun _ _ => rfl)) pe_int) pe_int) pe_int))
  (pss_cons (ps_set (i := 5) scTake.nd rfl (.inl rfl) (pe_op op_modN (pe_op op_mul (pe_op op_modN (pe_op op_mul (pv 4) (pv 4)) pe_int) pe_int) pe_int))
  (pss_cons (ps_if (pt_cmpR op_gt (pv 1) pe_int (nomark _))
  (pss_one (ps_ret (pe_op op_modN (pe_op op_add (pe_op op_mul (pv 5) pe_int) (pv 4)) (pv 1))))
  pss_nil)
  (pss_one (ps_ret (pe_op op_modN (pe_op op_fdivW (pv 5) pe_int) (pv 1))))))))), ?_⟩
    obtain ⟨xs, hX, hxs⟩ := B.bv
    obtain ⟨b0, b1, c, e, p0, p1, q1⟩ := B.at_.ex
    have S0 : BSt b bx G H b0 b1 c H := ⟨Grow.refl B.sub, e, p0, p1, q1⟩
    have hb : ∀ {b0 b1 : Int} {c : Nat} {H' : Hp}, BSt b bx G H b0 b1 c H' → SqL K H' bx (xs.map V.int) := fun s => s.g.sub.seq hX
    refine tseq_tail (fun σ' H' => ∃ (y2 : Option V) (b0 b1 : Int) (c : Nat), σ' = [some (.ref b), some (.int many), y2, none, none, none] ∧ BSt b bx G H b0 b1 c H') (fun σ' H1 hR => ?_) (fun k => ?_)
    · obtain ⟨y2, b0, b1, c, rfl, S⟩ := hR
      refine ⟨_, rfl, b, _, 0, _, rfl, rfl, SqL.of S.e, rfl, _, _, rfl, rfl, _, rfl, ?_⟩
      by_cases h0 : 0 < b0
      · rw [decide_eq_true h0]
        refine iteT ?_
        refine ⟨_, rfl, b, _, 0, _, rfl, rfl, SqL.of S.e, rfl, _, rfl, _, _, rfl, rfl, by omega, ?_⟩
        refine ⟨_, rfl, b, _, 0, _, rfl, rfl, SqL.of S.e, rfl, _, rfl, _, _, rfl, rfl, wide_div (b := 62) hm0 (by omega) (by decide) (by decide), ?_⟩
        refine ⟨_, rfl, b, _, 0, 0, rfl, rfl, S.e, rfl, ?_⟩
        have S2 := S.put (c1 := (c : Int)) (cc := c) B rfl (Int.ediv_nonneg S.p0 (Int.le_of_lt hm0)) S.p1 S.q1
        refine ⟨_, rfl, q _ _ S2.g (S2.fin B) (fmod_r hm0).1 (fmod_r hm0).2⟩
      · rw [decide_eq_false h0]
        refine iteF ?_
        refine ⟨_, rfl, b, _, 1, _, rfl, rfl, SqL.of S.e, rfl, _, _, rfl, rfl, _, _, rfl, rfl, .inr ⟨by decide, by decide⟩, _, _, rfl, rfl, (show (1000000007 : Int) ≠ 0 by decide), ?_⟩
        have hfr := fmod_r (a := (b1 + 1) * 39373) (m := 1000000007) (by decide)
        refine ⟨_, rfl, _, rfl, _, _, rfl, rfl, .inl ⟨by omega, by omega⟩, _, _, rfl, rfl, (show (998244353 : Int) ≠ 0 by decide), _, _, rfl, rfl, .inr ⟨by decide, by decide⟩, _, _, rfl, rfl, (show (998244353 : Int) ≠ 0 by decide), ?_⟩
        have hsr := fmod_r (a := (((b1 + 1) * 39373).fmod 1000000007 * ((b1 + 1) * 39373).fmod 1000000007).fmod 998244353 * 30011) (m := 998244353) (by decide)
        refine ⟨_, rfl, _, _, rfl, rfl, _, rfl, ?_⟩
        by_cases hbig : 1000000 < many
        · rw [decide_eq_true hbig]
          refine iteT ?_
          refine ⟨_, rfl, _, _, rfl, rfl, .inr ⟨by decide, by decide⟩, _, rfl, _, _, rfl, rfl, _, rfl, _, _, rfl, rfl, by omega, ?_⟩
          exact q _ _ S.g (S.fin B) (fmod_r hm0).1 (fmod_r hm0).2
        · rw [decide_eq_false hbig]
          refine iteF ?_
          refine ⟨_, rfl, _, _, rfl, rfl, wide_div (b := 62) (by decide) (by decide) (by decide) (by decide), _, rfl, _, _, rfl, rfl, by omega, ?_⟩
          exact q _ _ S.g (S.fin B) (fmod_r hm0).1 (fmod_r hm0).2
    · refine ⟨_, rfl, b, _, 0, _, rfl, rfl, SqL.of S0.e, rfl, rfl, _, rfl, ?_⟩
      by_cases h0 : b0 = 0
      · rw [h0, decide_eq_true rfl]
        refine iteT ?_
        rw [h0] at S0
        -- cell
        refine tset0 (tseq_tail (fun σ' H' => ∃ cell : Int, σ' = [some (.ref b), some (.int many), some (.int cell), none, none, none] ∧ 0 ≤ cell ∧ H' = H) (fun σ' H1 hR => ?_) (fun k2 => ?_))
        · obtain ⟨cell, rfl, hc, rfl⟩ := hR
          refine ⟨_, rfl, b, _, 2, _, rfl, rfl, SqL.of S0.e, rfl, _, _, rfl, rfl, b, _, 2, 2, rfl, rfl, S0.e, rfl, ?_⟩
          have S1 := S0.put (c1 := (c : Int) + 1) (cc := c + 1) B (by omega) S0.p0 S0.p1 S0.q1
          dsimp only
          refine tseq_tail (fun σ' H' => ∃ b0 : Int, σ' = [some (.ref b), some (.int many), some (.int cell), none, none, none] ∧ BSt b bx G H1 b0 b1 (c + 1) H') (fun σ' H1 hR => ?_) (fun k2 => ?_)
          · obtain ⟨b0', rfl, S2⟩ := hR
            refine ⟨_, rfl, b, _, 1, _, rfl, rfl, SqL.of S2.e, rfl, _, _, rfl, rfl, .inr ⟨by decide, by decide⟩, _, rfl, _, _, rfl, rfl, (show (2147483647 : Int) ≠ 0 by decide), _, _, rfl, rfl, _, rfl, b, _, 2, _, rfl, rfl, SqL.of S2.e, rfl, _, _, rfl, rfl, .inl ⟨by decide, by decide⟩, _, _, rfl, rfl, _, _, rfl, rfl, (show (2147483647 : Int) ≠ 0 by decide), ?_⟩
            refine ⟨_, rfl, b, _, 1, 1, rfl, rfl, S2.e, rfl, ?_⟩
            have hr := fmod_r (a := b1 * 48271 + cell.fmod 2147483647 + 7919 * ((c + 1 : Nat) : Int)) (m := 2147483647) (by decide)
            have S3 := S2.put (c1 := ((c + 1 : Nat) : Int)) (cc := c + 1) B rfl S2.p0 hr.1 hr.2
            exact k _ _ ⟨_, _, _, _, rfl, S3⟩
          · refine ⟨_, rfl, _, _, rfl, rfl, _, rfl, ?_⟩
            by_cases hbig : 1000000000000000000 ≤ cell
            · rw [decide_eq_true hbig]
              refine iteT ?_
              refine ⟨_, rfl, _, rfl, b, _, 0, 0, rfl, rfl, S1.e, rfl, ?_⟩
              have S2 := S1.put (c1 := ((c + 1 : Nat) : Int)) (cc := c + 1) B rfl hc S1.p1 S1.q1
              exact k2 _ _ ⟨_, rfl, S2⟩
            · rw [decide_eq_false hbig]
              refine iteF ?_
              exact k2 _ _ ⟨_, rfl, S1⟩
        · refine ⟨_, rfl, b, _, 2, _, rfl, rfl, SqL.of S0.e, rfl, _, rfl, b, _, 3, _, rfl, rfl, SqL.of S0.e, rfl, bx, _, rfl, .inl (hb S0), _, _, rfl, rfl, _, rfl, ?_⟩
          by_cases hlt : c < xs.length
          · rw [decide_eq_true (show (c : Int) < ((xs.map V.int).length : Int) by rw [List.length_map]; omega)]
            refine iteT ?_
            have hget : (xs.map V.int)[c]? = some (.int xs[c]) := by rw [List.getElem?_map, List.getElem?_eq_getElem hlt]; rfl
            refine ⟨_, rfl, b, _, 3, _, rfl, rfl, SqL.of S0.e, rfl, _, rfl, b, _, 2, _, rfl, rfl, SqL.of S0.e, rfl, bx, _, (c : Nat), _, rfl, rfl, hb S0, atI_nat hget, ?_⟩
            exact k2 _ _ ⟨_, rfl, hxs _ (List.getElem_mem _), rfl⟩
          · rw [decide_eq_false (show ¬ (c : Int) < ((xs.map V.int).length : Int) by rw [List.length_map]; omega)]
            refine iteF ?_
            exact k2 _ _ ⟨_, rfl, by omega, rfl⟩
      · rw [decide_eq_false (show ¬ (V.int b0 = V.int 0) from fun z => h0 (V.int.inj z))]
        refine iteF ?_
        exact k _ _ ⟨_, b0, b1, c, rfl, S0⟩
end
end Tw
end
section
set_option maxHeartbeats 8000000
namespace Tw
open PySem PySem.Spec PyProof.Rows L2
def compSc : Expr → Scope
  | .ListComp _ _ s _ => s
  | _ => defScope (topS 30)
/-- a comprehension's names, as they stand within a def -/
def relS (sc fs : Scope) : Scope := relabel sc { scope := fs, locals := 0, globals := 0, cells := [] }
def retEx : Stmt → Expr
  | .Return (some e) _ => e
  | .Assign _ e _ => e
  | _ => .Constant .none 0 ⟨0, 0, 0, 0⟩
def argEx : Expr → Expr
  | .Call _ (e :: _) _ _ => e
  | _ => .Constant .none 0 ⟨0, 0, 0, 0⟩
theorem dint {a b : Int} : decide (V.int a = V.int b) = decide (a = b) := by
  by_cases h : a = b
  · rw [h, decide_eq_true rfl, decide_eq_true rfl]
  · rw [decide_eq_false h, decide_eq_false (fun z => h (V.int.inj z))]
/-- data each of a form come from a list -/
theorem pick {α : Type} {f : α → PyData} {P : α → Prop} : ∀ (ds : List PyData), (∀ (j : Nat) (d : PyData), ds[j]? = some d → ∃ e, d = f e ∧ P e) → ∃ l : List α, ds = l.map f ∧ ∀ e ∈ l, P e
  | [], _ => ⟨[], rfl, fun _ h => by cases h⟩
  | d :: ds, h => by
    obtain ⟨e, he, pe⟩ := h 0 d rfl
    obtain ⟨l, hl, pl⟩ := pick ds fun j d' hj => h (j + 1) d' (by simpa using hj)
    refine ⟨e :: l, by rw [he, hl]; rfl, fun x hx => ?_⟩
    rcases List.mem_cons.mp hx with q | q
    · rw [q]; exact pe
    · exact pl x q
section
variable {P : Program} {w : World} {K : PySem.W.Frag} {mg : Str → Option Value} {base : Heap}
/-! ### _law_size -/
abbrev sSize : Stmt := topS 33
abbrev nSize : List Str := ["_law_bag_here", "_law_way"]
abbrev psSize : List Str := ["_law_bag_here", "_law_way"]
theorem scSize : FnScope nSize psSize (defScope sSize) := ⟨rfl, rfl, rfl, by decide +kernel, rfl, by decide +kernel, by decide +kernel⟩
def spSize (K : PySem.W.Frag) : Sp := fun vs H Q _ => ∃ (G : Hp) (b bx : Addr) (way : Int), BG K b bx G H ∧ vs = [.ref b, .int way] ∧ 0 ≤ way ∧ way < 5 ∧
  ∀ v H', Grow (Mb b) G H G H' → BG K b bx G H' → 0 ≤ v → v ≤ 1000000000000000000 → Q (.int v) H'
theorem ok_size (D : Def K mg "_law_size" sSize psSize) (C__law_take : Cal P w K mg base 1 "_law_take" psBM (spTake K)) : Cal P w K mg base 2 "_law_size" psSize (spSize K) := by
  refine D.ok scSize (fun vs H Q E h => ?_) (fun f cdv A outer s H vs Q E hr h => ?_)
  · obtain ⟨G, b, bx, many, _, rfl, _⟩ := h
    rfl
  · obtain ⟨G, b, bx, way, B, rfl, hm0, hm1, q⟩ := h
    refine ⟨_, (pss_cons (ps_if (pt_cmpR op_eq (pv 1) pe_int (nomark _))
  (pss_one (ps_ret pe_int))
  pss_nil)
  (pss_cons (ps_if (pt_cmpR op_eq (pv 1) pe_int (nomark _))
  (pss_one (ps_ret (pe_cal C__law_take (hr.mono (by decide)) (by rfl) (pa_cons (pv 0) (pa_cons pe_int pa_nil)))))
  pss_nil)
  (pss_cons (ps_if (pt_cmpR op_eq (pv 1) pe_int (nomark _))
  (pss_one (ps_ret (pe_ix (r := rIxL K) ix_list (pe_lst (pa_cons pe_int (pa_cons pe_int (pa_cons (pe_op op_add pe_int (pe_cal C__law_take (hr.mono (by decide)) (by rfl) (pa_cons (pv 0) (pa_cons pe_int pa_nil)))) pa_nil)))) (pe_cal C__law_take (hr.mono (by decide)) (by rfl) (pa_cons (pv 0) (pa_cons pe_int pa_nil))) (fun _ _ => rfl))))
  pss_nil)
  (pss_cons (ps_if (pt_cmpR op_eq (pv 1) pe_int (nomark _))
  (pss_one (ps_ret (pe_cal C__law_take (hr.mono (by decide)) (by rfl) (pa_cons (pv 0) (pa_cons pe_int pa_nil)))))
  pss_nil)
  (pss_one (ps_ret (pe_ix (r := rIxL K) ix_list (pe_lst (pa_cons (pe_op op_pow pe_int pe_int) (pa_cons (pe_cal C__law_take (hr.mono (by decide)) (by rfl) (pa_cons (pv 0) (pa_cons (pe_op op_add (pe_op op_pow pe_int pe_int) pe_int) pa_nil))) (pa_cons (pe_op op_sub (pe_op op_pow pe_int pe_int) (pe_cal C__law_take (hr.mono (by decide)) (by rfl) (pa_cons (pv 0) (pa_cons pe_int pa_nil)))) pa_nil)))) (pe_cal C__law_take (hr.mono (by decide)) (by rfl) (pa_cons (pv 0) (pa_cons pe_int pa_nil))) (fun _ _ => rfl)))))))), ?_⟩
    refine ⟨_, rfl, rfl, _, rfl, ?_⟩
    rw [dint]
    by_cases h0 : way = 0
    · rw [decide_eq_true h0]
      exact iteT (q _ _ (Grow.refl B.sub) B (by decide) (by decide))
    rw [decide_eq_false h0]
    refine iteF ⟨_, rfl, rfl, _, rfl, ?_⟩
    rw [dint]
    by_cases h1 : way = 1
    · rw [decide_eq_true h1]
      exact iteT ⟨_, rfl, G, b, bx, 4, B, rfl, by decide, by decide, fun v H1 g1 B1 l1 u1 => q _ _ g1 B1 l1 (by omega)⟩
    rw [decide_eq_false h1]
    refine iteF ⟨_, rfl, rfl, _, rfl, ?_⟩
    rw [dint]
    by_cases h2 : way = 2
    · rw [decide_eq_true h2]
      refine iteT ⟨_, rfl, G, b, bx, 9, B, rfl, by decide, by decide, fun v H1 g1 B1 l1 u1 => ?_⟩
      refine ⟨_, _, rfl, rfl, sz3, fun p np => ?_⟩
      have g2 := g1.loc (o := .lst [.int 0, .int 0, .int (1 + v)]) np
      refine ⟨_, rfl, G, b, bx, 3, B1.loc np, rfl, by decide, by decide, fun v2 H2 g3 B3 l2 u2 => ?_⟩
      have ep := g3.keep p _ (fun z => B1.at_.nn (by rw [← show p = b from z]; exact np)) upd_same
      obtain rfl | rfl | rfl : v2 = 0 ∨ v2 = 1 ∨ v2 = 2 := by omega
      · exact ⟨p, _, 0, .int 0, rfl, rfl, SqL.of ep, rfl, q _ _ (g2.trans g3) B3 (by omega) (by omega)⟩
      · exact ⟨p, _, 1, .int 0, rfl, rfl, SqL.of ep, rfl, q _ _ (g2.trans g3) B3 (by omega) (by omega)⟩
      · exact ⟨p, _, 2, .int (1 + v), rfl, rfl, SqL.of ep, rfl, q _ _ (g2.trans g3) B3 (by omega) (by omega)⟩
    rw [decide_eq_false h2]
    refine iteF ⟨_, rfl, rfl, _, rfl, ?_⟩
    rw [dint]
    by_cases h3 : way = 3
    · rw [decide_eq_true h3]
      exact iteT ⟨_, rfl, G, b, bx, 21, B, rfl, by decide, by decide, fun v H1 g1 B1 l1 u1 => q _ _ g1 B1 l1 (by omega)⟩
    rw [decide_eq_false h3]
    refine iteF ?_
    refine ⟨_, _, rfl, rfl, ⟨by decide, by decide, by decide⟩, _, rfl, _, _, rfl, rfl, ⟨by decide, by decide, by decide⟩, _, _, rfl, rfl, G, b, bx, 1000000000000000000 + 1, B, rfl, by decide, by decide, fun v H1 g1 B1 l1 u1 => ?_⟩
    refine ⟨_, _, rfl, rfl, ⟨by decide, by decide, by decide⟩, _, rfl, G, b, bx, 3, B1, rfl, by decide, by decide, fun v2 H2 g2 B2 l2 u2 => ?_⟩
    refine ⟨_, _, rfl, rfl, sz3, fun p np => ?_⟩
    have g3 := (g1.trans g2).loc (o := .lst [.int 1000000000000000000, .int v, .int (1000000000000000000 - v2)]) np
    refine ⟨_, rfl, G, b, bx, 3, B2.loc np, rfl, by decide, by decide, fun v3 H3 g4 B3 l3 u3 => ?_⟩
    have ep := g4.keep p _ (fun z => B2.at_.nn (by rw [← show p = b from z]; exact np)) upd_same
    obtain rfl | rfl | rfl : v3 = 0 ∨ v3 = 1 ∨ v3 = 2 := by omega
    · exact ⟨p, _, 0, .int 1000000000000000000, rfl, rfl, SqL.of ep, rfl, q _ _ (g3.trans g4) B3 (by decide) (by decide)⟩
    · exact ⟨p, _, 1, .int v, rfl, rfl, SqL.of ep, rfl, q _ _ (g3.trans g4) B3 (by omega) (by omega)⟩
    · exact ⟨p, _, 2, .int (1000000000000000000 - v2), rfl, rfl, SqL.of ep, rfl, q _ _ (g3.trans g4) B3 (by omega) (by omega)⟩
/-! ### _law_log -/
abbrev sLog : Stmt := topS 34
abbrev nLog : List Str := ["_law_bag_here", "_law_width", "_law_most", "_law_ways", "_law_measure", "_law_many", "_law_way", "_law_k"]
abbrev psLog : List Str := ["_law_bag_here", "_law_width", "_law_most"]
abbrev cLog : Scope := relS (compSc (retEx ((defBody sLog).getD 2 (topS 0)))) (defScope sLog)
theorem scLog : FnScope nLog psLog (defScope sLog) := ⟨rfl, rfl, rfl, by decide +kernel, rfl, by decide +kernel, by decide +kernel⟩
def LogOk (width : Nat) (l : Log) : Prop := ∀ e ∈ l, e.length = width ∧ ∀ z ∈ e, 0 ≤ z ∧ z ≤ 1000000000000000000
def spLog (K : PySem.W.Frag) : Sp := fun vs H Q _ => ∃ (G : Hp) (b bx : Addr) (width most : Nat), BG K b bx G H ∧ vs = [.ref b, .int width, .int most] ∧ width ≤ 10 ∧ most ≤ 60 ∧
  ∀ v l G' H', Grow (Mb b) G H G' H' → BG K b bx G' H' → Dp K G' v (dLog l) → LogOk width l → l.length ≤ most → Q v H'
theorem ok_log (D : Def K mg "_law_log" sLog psLog) (C__law_take : Cal P w K mg base 1 "_law_take" psBM (spTake K)) (C__law_size : Cal P w K mg base 2 "_law_size" psSize (spSize K)) (z_range : mg "range" = none) (z_int : mg "int" = none) (z_tuple : mg "tuple" = none) : Cal P w K mg base 3 "_law_log" psLog (spLog K) := by
  refine D.ok scLog (fun vs H Q E h => ?_) (fun f cdv A outer s H vs Q E hr h => ?_)
  · obtain ⟨G, b, bx, wi, mo, _, rfl, _⟩ := h
    rfl
  · obtain ⟨G, b, bx, wi, mo, B, rfl, hw, hm, q⟩ := h
    refine ⟨_, (pss_cons (ps_set (i := 3) scLog.nd rfl (.inr rfl) (pe_lc (own := [("_law_measure", 4)]) (g := (gName 4)) (tt := tYes) rfl scLog.nd (pi_range1 (by rfl) z_range (pa_cons (pv 1) pa_nil)) (blkOk_by (N := nLog) (sc := defScope sLog) (by decide +kernel)) (fun _ _ _ _ _ => (pg_name (i := 4) scLog.nd rfl (.inl rfl))) (fun _ _ _ _ _ => pts_nil) (fun _ _ _ _ _ => (pe_cal C__law_take (hr.mono (by decide)) (by rfl) (pa_cons (pv 0) (pa_cons pe_int pa_nil))))))
  (pss_cons (ps_set (i := 5) scLog.nd rfl (.inl rfl) (pe_ix (r := rIxL K) ix_list (pe_lst (pa_cons (pe_cal C__law_take (hr.mono (by decide)) (by rfl) (pa_cons (pv 0) (pa_cons (pe_op op_add (pv 2) pe_int) pa_nil))) (pa_cons (pv 2) pa_nil))) (pe_callTy call_int1 (by rfl) z_int (by decide +kernel) (pa_cons (pe_cmpR op_eq (pe_cal C__law_take (hr.mono (by decide)) (by rfl) (pa_cons (pv 0) (pa_cons pe_int pa_nil))) pe_int (nomark _)) pa_nil)) (fun _ _ => rfl)))
  (pss_one (ps_ret (pe_lc (own := [("_law_k", 7)]) (g := (gName 7)) (tt := tYes) rfl scLog.nd (pi_range1 (by rfl) z_range (pa_cons (pv 5) pa_nil)) (blkOk_by (N := nLog) (sc := defScope sLog) (by decide +kernel)) (fun _ _ _ _ _ => (pg_name (i := 7) scLog.nd rfl (.inl rfl))) (fun _ _ _ _ _ => pts_nil) (fun _ _ _ _ _ => (pe_callTy (r := rTpl K) call_tuple_of (by rfl) z_tuple (by decide +kernel) (pa_cons (pe_lc (own := [("_law_way", 6)]) (g := (gName 6)) (tt := tYes) (wi := (iList K (tVar 3))) rfl scLog.nd (pi_list (pv 3)) (blkOk_by (N := nLog) (sc := cLog) (by decide +kernel)) (fun _ _ _ _ _ => (pg_name (i := 6) scLog.nd rfl (.inl rfl))) (fun _ _ _ _ _ => pts_nil) (fun _ _ _ _ _ => (pe_cal C__law_size (hr.mono (by decide)) (by rfl) (pa_cons (pv 0) (pa_cons (pv 6) pa_nil))))) pa_nil)))))))), ?_⟩
    -- ways
    refine ⟨_, rfl, wi, rfl, by omega, by omega, fun Dl hDl => ?_⟩
    have en : ((wi : Int)).toNat = wi := by omega
    rw [en]
    have hDb : Dl ≠ b := fun z => B.at_.nn (by rw [← z]; exact hDl)
    refine lc_mk (K := K) (M := Mb b) (Q := fun x H1 => gName 3 x _ H1 _) (walk_range (lo := 0) (n := wi)) (fun _ d => ∃ v : Int, d = .int v ∧ 0 ≤ v ∧ v < 5) (BagAt b bx) B.sub hDl hDb (by omega) B.at_ (fun H1 o j => j.upn hDb.symm) (fun _ _ _ _ => trivial) (fun i x G1 H1 H1' hi g1 j1 y E hE => ?_) (fun G1 H1 ds g1 hd hl hR j1 => ?_) gm_name
    · obtain ⟨rfl, rfl⟩ := y
      have B1 := B.step g1 j1
      refine ⟨rfl, ?_⟩
      exact ⟨_, rfl, G1, b, bx, 5, B1, rfl, by decide, by decide, fun v H2 g2 B2 l2 u2 => hE _ _ _ _ g2 (.int v) ⟨v, rfl, l2, u2⟩ B2.at_⟩
    obtain ⟨aw, wxs, ew, hLw, hAw⟩ := dp_list hd
    cases ew
    obtain ⟨ws, rfl, hws⟩ := pick (f := PyData.int) (P := fun v : Int => 0 ≤ v ∧ v < 5) ds fun j d h => hR j d h
    have exw := of_dpa_ints hAw
    subst exw
    rw [List.length_map] at hl
    have B1 := B.step g1 j1
    -- many
    refine ⟨_, rfl, _, rfl, _, _, rfl, rfl, G1, b, bx, (mo : Int) + 1, B1, rfl, by omega, by omega, fun v H2 g2 B2 l2 u2 => ?_⟩
    refine ⟨_, rfl, sz2, fun p np => ?_⟩
    have g2' := g2.loc (o := .lst [.int v, .int mo]) np
    refine ⟨_, rfl, G1, b, bx, 6, B2.loc np, rfl, by decide, by decide, fun v2 H3 g3 B3 l3 u3 => ?_⟩
    have ep := g3.keep p _ (fun z => B2.at_.nn (by rw [← show p = b from z]; exact np)) upd_same
    have hix : ∃ (k : Int) (many : Nat), V.int (if decide (V.int v2 = V.int 0) = true then 1 else 0) = .int k ∧ atI [V.int v, .int mo] k = some (.int many) ∧ many ≤ mo := by
      rw [dint]
      by_cases h0 : v2 = 0
      · rw [decide_eq_true h0]
        exact ⟨1, mo, rfl, rfl, Nat.le_refl _⟩
      · rw [decide_eq_false h0]
        refine ⟨0, v.toNat, rfl, ?_, by omega⟩
        show some (V.int v) = _
        rw [show ((v.toNat : Nat) : Int) = v by omega]
    obtain ⟨k, many, ek, ea, hmn⟩ := hix
    refine ⟨rfl, .inr ⟨_, rfl, p, _, k, _, rfl, ek, SqL.of ep, ea, ?_⟩⟩
    have gA := g1.trans (g2'.trans g3)
    have hLw3 : SqL K G1 Dl (ws.map V.int) := hLw
    clear ep np ek ea g2' g3 B2 g2
    -- the log
    refine ⟨_, rfl, (many : Int), rfl, by omega, by omega, fun D2 hD2 => ?_⟩
    have en2 : ((many : Int)).toNat = many := by omega
    rw [en2]
    have hDb2 : D2 ≠ b := fun z => B3.at_.nn (by rw [← z]; exact hD2)
    refine lc_mk (K := K) (M := Mb b) (Q := Q) (walk_range (lo := 0) (n := many)) (fun _ d => ∃ e : List Int, d = dEn e ∧ (e.length = wi ∧ ∀ z ∈ e, 0 ≤ z ∧ z ≤ 1000000000000000000)) (BagAt b bx) B3.sub hD2 hDb2 (by omega) B3.at_ (fun H1 o j => j.upn hDb2.symm) (fun _ _ _ _ => trivial) (fun i x G4 H4 H4' hi g4 j4 y E hE => ?_) (fun G4 H4 ds g4 hd4 hl4 hR4 j4 => ?_) gm_name
    · obtain ⟨rfl, rfl⟩ := y
      have B4 := B3.step g4 j4
      refine ⟨rfl, ?_⟩
      have hLw4 : SqL K G4 Dl (ws.map V.int) := g4.gg.seq hLw3
      refine ⟨_, rfl, Dl, rfl, ⟨_, g4.sub.seq hLw4⟩, fun D3 hD3 => ?_⟩
      have hDb3 : D3 ≠ b := fun z => B4.at_.nn (by rw [← z]; exact hD3)
      refine lc_mk (K := K) (M := Mb b) (Q := fun x H1 => tNil _ H1 fun xs H2 => rTpl K (x :: xs) H2 E) (walk_list (K := K) (a := Dl) (xs := ws.map V.int)) (fun _ d => ∃ v : Int, d = .int v ∧ (0 ≤ v ∧ v ≤ 1000000000000000000)) (BagAt b bx) B4.sub hD3 hDb3 (by rw [List.length_map]; omega) B4.at_ (fun H1 o j => j.upn hDb3.symm) (fun G5 H5 g5 _ => g5.sub.seq (g5.gg.seq hLw4)) (fun i x G5 H5 H5' hi g5 j5 y E hE => ?_) (fun G5 H5 ds g5 hd5 hl5 hR5 j5 => ?_) gm_name
      · obtain ⟨rfl, hx⟩ := y
        obtain ⟨way, hway, rfl⟩ := get_map hx
        have B5 := B4.step g5 j5
        obtain ⟨w0, w1⟩ := hws way (List.mem_of_getElem? hway)
        exact ⟨rfl, _, rfl, _, rfl, G5, b, bx, way, B5, rfl, w0, w1, fun v H6 g6 B6 l6 u6 => hE _ _ _ _ g6 (.int v) ⟨v, rfl, l6, u6⟩ B6.at_⟩
      · obtain ⟨a5, xs5, e5, hL5, hA5⟩ := dp_list hd5
        cases e5
        obtain ⟨zs, rfl, hzs⟩ := pick (f := PyData.int) (P := fun v : Int => 0 ≤ v ∧ v ≤ 1000000000000000000) ds fun j d h => hR5 j d h
        refine ⟨D3, xs5, rfl, .inl ⟨g5.sub.seq hL5, fun pt npt => ?_⟩⟩
        refine hE (.ref pt) (dEn zs) _ _ (g5.lay npt) (dp_tpl upd_same (dpa_mono (same_up (same_none g5.sub npt)) hA5)) ⟨zs, rfl, ?_, hzs⟩ (j5.up npt)
        rw [List.length_map] at hl5
        rw [hl5, List.length_map, hl]
    · obtain ⟨l, rfl, hls⟩ := pick (f := dEn) (P := fun e : List Int => e.length = wi ∧ ∀ z ∈ e, 0 ≤ z ∧ z ≤ 1000000000000000000) ds fun j d h => hR4 j d h
      rw [List.length_map] at hl4
      exact q _ l G4 H4 (gA.trans g4) (B3.step g4 j4) hd4 hls (by omega)
end
end Tw
end
section
namespace Tw
open PySem PySem.Spec PyProof.Rows L2
open PySem.PyData (eqv eqvAll canLay0 canLayAll0 depth depthAll)
mutual
theorem eqv_self : ∀ d : PyData, canLay0 d = true → eqv d d = true
  | .none, _ => by rw [eqv]
  | .bool b, _ => by rw [eqv]; exact beq_self_eq_true b
  | .int i, _ => by rw [eqv]; exact beq_self_eq_true i
  | .str x, _ => by rw [eqv]; exact beq_self_eq_true x
  | .list xs, h => by
    rw [canLay0] at h
    rw [eqv]
    exact eqvAll_self xs h
  | .tuple xs, h => by
    rw [canLay0] at h
    rw [eqv]
    exact eqvAll_self xs h
  | .dict _, h => by rw [canLay0] at h; cases h
theorem eqvAll_self : ∀ ds : List PyData, canLayAll0 ds = true → eqvAll ds ds = true
  | [], _ => by rw [eqvAll]
  | d :: ds, h => by
    rw [canLayAll0, Bool.and_eq_true] at h
    rw [eqvAll, eqv_self d h.1, eqvAll_self ds h.2]
    rfl
end
/-- data of a bounded depth that may be laid -/
structure Flat (n : Nat) (d : PyData) : Prop where
  c : canLay0 d = true
  d : depth d ≤ n
theorem Flat.shaped {n : Nat} {d : PyData} (h : Flat n d) (hn : n ≤ 64) : SeqAt.shaped d = true := by
  unfold SeqAt.shaped
  rw [Bool.and_eq_true]
  exact ⟨h.c, decide_eq_true (Nat.le_trans h.d hn)⟩
theorem Flat.self {n : Nat} {d : PyData} (h : Flat n d) : eqv d d = true := eqv_self d h.c
theorem flat_int {n : Nat} (i : Int) : Flat n (.int i) := ⟨by rw [canLay0], by rw [depth]; exact Nat.zero_le _⟩
theorem flat_none {n : Nat} : Flat n .none := ⟨by rw [canLay0], by rw [depth]; exact Nat.zero_le _⟩
theorem flat_all {n : Nat} : ∀ {ds : List PyData}, (∀ d ∈ ds, Flat n d) → canLayAll0 ds = true ∧ depthAll ds ≤ n
  | [], _ => ⟨by rw [canLayAll0], by rw [depthAll]; exact Nat.zero_le _⟩
  | d :: ds, h => by
    have h1 := h d List.mem_cons_self
    obtain ⟨h2, h3⟩ := flat_all fun x hx => h x (List.mem_cons_of_mem _ hx)
    refine ⟨by rw [canLayAll0, h1.c, h2]; rfl, ?_⟩
    rw [depthAll]
    exact Nat.max_le.mpr ⟨h1.d, h3⟩
theorem flat_list {n : Nat} {ds : List PyData} (h : ∀ d ∈ ds, Flat n d) : Flat (n + 1) (.list ds) := by
  obtain ⟨h1, h2⟩ := flat_all h
  exact ⟨by rw [canLay0]; exact h1, by rw [depth]; omega⟩
theorem flat_tup {n : Nat} {ds : List PyData} (h : ∀ d ∈ ds, Flat n d) : Flat (n + 1) (.tuple ds) := by
  obtain ⟨h1, h2⟩ := flat_all h
  exact ⟨by rw [canLay0]; exact h1, by rw [depth]; omega⟩
theorem flat_map {α : Type} {n : Nat} {f : α → PyData} {l : List α} (h : ∀ x ∈ l, Flat n (f x)) : ∀ d ∈ l.map f, Flat n d := fun d hd => by
  obtain ⟨x, hx, rfl⟩ := List.mem_map.mp hd
  exact h x hx
theorem flat_ints (zs : List Int) : Flat 1 (dInts zs) := flat_list (flat_map fun x _ => flat_int x)
theorem flat_log (l : Log) : Flat 2 (dLog l) := flat_list (flat_map fun e _ => flat_tup (flat_map fun x _ => flat_int x))
theorem flat_seen (t : Tf.Tab) : Flat 2 (dSeen t) := flat_list (flat_map fun i _ => flat_tup (flat_map fun (x : Nat) _ => flat_int (x : Int)))
theorem eqv_log_nil (l : Log) : eqv (dLog l) (.list []) = decide (l = []) := by
  cases l with
  | nil => show eqv (.list []) (.list []) = _; rw [eqv, eqvAll]; rfl
  | cons e l => show eqv (.list (dEn e :: l.map dEn)) (.list []) = _; rw [eqv, eqvAll]; rfl
theorem eqv_list_none (ds : List PyData) : eqv (.list ds) .none = false := by rw [eqv]
theorem mem_cut {x : V} {xs : List V} {lo hi : Option Int} (h : x ∈ cutV xs lo hi) : x ∈ xs := by
  unfold cutV at h
  exact List.mem_of_mem_drop (List.mem_of_mem_take h)
end Tw
end
section
set_option maxHeartbeats 8000000
namespace Tw
open PySem PySem.Spec PyProof.Rows L2
theorem tseq_if {c : TT} {t v : TS} {D : Ends} {σ : L2.St} {H : Hp} (R1 R2 : Hp → Prop) (ht : ∀ H', R1 H' → t { D with nx := v D } σ H') (hu : ∀ H', R2 H' → v D σ H') (hc : (∀ H', R1 H' → t { D with nx := v D } σ H') → (∀ H', R2 H' → v D σ H') → c σ H fun b H1 => if b = true then t { D with nx := v D } σ H1 else v D σ H1) : tSeq (tIfS c t tNext) v D σ H := hc ht hu
section
variable {P : Program} {w : World} {K : PySem.W.Frag} {mg : Str → Option Value} {base : Heap}
/-! ### _law_tier -/
abbrev sTier : Stmt := topS 35
abbrev nTier : List Str := ["_law_bag_here", "_law_width", "_law_log_here", "_law_measure", "_law_way", "_law_first", "_law_stop", "_law_whole", "_law_entry"]
abbrev psTier : List Str := ["_law_bag_here", "_law_width", "_law_log_here"]
theorem scTier : FnScope nTier psTier (defScope sTier) := ⟨rfl, rfl, rfl, by decide +kernel, rfl, by decide +kernel, by decide +kernel⟩
def spTier (K : PySem.W.Frag) : Sp := fun vs H Q _ => ∃ (G : Hp) (b bx : Addr) (width : Nat) (vl : V) (l : Log), BG K b bx G H ∧ vs = [.ref b, .int width, vl] ∧ Dp K G vl (dLog l) ∧ LogOk width l ∧ 0 < width ∧ width ≤ 10 ∧ l.length ≤ 60 ∧
  ∀ v (q : Nat × Int) G' H', Grow (Mb b) G H G' H' → BG K b bx G' H' → Dp K G' v (dTier q) → q.1 < width → 0 ≤ q.2 → Q v H'
theorem ok_tier (D : Def K mg "_law_tier" sTier psTier) (C__law_take : Cal P w K mg base 1 "_law_take" psBM (spTake K)) (z_len : mg "len" = none) (z_sum : mg "sum" = none) (z_min : mg "min" = none) (z_max : mg "max" = none) : Cal P w K mg base 2 "_law_tier" psTier (spTier K) := by
  refine D.ok scTier (fun vs H Q E h => ?_) (fun f cdv A outer s H vs Q E hr h => ?_)
  · obtain ⟨G, b, bx, wi, vl, l, _, rfl, _⟩ := h
    rfl
  · obtain ⟨G, b, bx, wi, vl, l, B, rfl, hdl, hlo, hw0, hw, hl, q⟩ := h
    refine ⟨_, (pss_cons (ps_asg (pe_tup (pa_cons (pe_cal C__law_take (hr.mono (by decide)) (by rfl) (pa_cons (pv 0) (pa_cons (pv 1) pa_nil))) (pa_cons (pe_cal C__law_take (hr.mono (by decide)) (by rfl) (pa_cons (pv 0) (pa_cons pe_int pa_nil))) pa_nil))) (pg_tup rfl (pgs_cons (pg_name (i := 3) scTier.nd rfl (.inr rfl)) (pgs_cons (pg_name (i := 4) scTier.nd rfl (.inl rfl)) pgs_nil))))
  (pss_cons (ps_if (PW.pt (pw_or (pt_cmpR op_lt (pv 4) pe_int (nomark _)) (pw_or1 (pt_cmpR (op_eqD hr.units) (pv 2) (pe_lst pa_nil) (nomark _)))))
  (pss_one (ps_ret (pe_tup (pa_cons (pv 3) (pa_cons (pe_cal C__law_take (hr.mono (by decide)) (by rfl) (pa_cons (pv 0) (pa_cons (pe_ix (r := rIxL K) ix_list (pe_lst (pa_cons pe_int (pa_cons pe_int pa_nil))) (pe_op op_modN (pv 4) pe_int) (fun _ _ => rfl)) pa_nil))) pa_nil)))))
  pss_nil)
  (pss_cons (ps_if (pt_cmpR op_eq (pv 4) pe_int (nomark _))
  (pss_one (ps_ret (pe_tup (pa_cons (pv 3) (pa_cons (pe_ix (r := rIxL K) ix_list (pe_lst (pa_cons (pe_op op_pow pe_int pe_int) (pa_cons (pe_cal C__law_take (hr.mono (by decide)) (by rfl) (pa_cons (pv 0) (pa_cons (pe_op op_add (pe_op op_pow pe_int pe_int) pe_int) pa_nil))) pa_nil))) (pe_cal C__law_take (hr.mono (by decide)) (by rfl) (pa_cons (pv 0) (pa_cons pe_int pa_nil))) (fun _ _ => rfl)) pa_nil)))))
  pss_nil)
  (pss_cons (ps_set (i := 5) scTier.nd rfl (.inl rfl) (pe_cal C__law_take (hr.mono (by decide)) (by rfl) (pa_cons (pv 0) (pa_cons (pe_callB (r := rLn K) call_len_seq (by rfl) z_len PySem.boot_len (pa_cons (pv 2) pa_nil)) pa_nil))))
  (pss_cons (ps_set (i := 6) scTier.nd rfl (.inl rfl) (pe_op op_add (pe_op op_add (pv 5) pe_int) (pe_cal C__law_take (hr.mono (by decide)) (by rfl) (pa_cons (pv 0) (pa_cons (pe_callB (call_min2 rfl) (by rfl) z_min (by decide +kernel) (pa_cons pe_int (pa_cons (pe_op op_sub (pe_callB (r := rLn K) call_len_seq (by rfl) z_len PySem.boot_len (pa_cons (pv 2) pa_nil)) (pv 5)) pa_nil))) pa_nil)))))
  (pss_cons (ps_set (i := 7) scTier.nd rfl (.inl rfl) (pe_callB (r := rSum K) (cr_sum rfl) (by rfl) z_sum (by decide +kernel) (pa_cons (pe_lc (own := [("_law_entry", 8)]) (g := (gName 8)) (tt := tYes) rfl scTier.nd (pi_list (pe_slice (r := rSlL K) sl_list (pv 2) (po_some (pv 5)) (po_some (pv 6)))) (blkOk_by (N := nTier) (sc := defScope sTier) (by decide +kernel)) (fun _ _ _ _ _ => (pg_name (i := 8) scTier.nd rfl (.inl rfl))) (fun _ _ _ _ _ => pts_nil) (fun _ _ _ _ _ => (pe_ix (r := rIxT K) ix_tup (pv 8) (pv 3) (fun _ _ => rfl)))) pa_nil)))
  (pss_one (ps_ret (pe_tup (pa_cons (pv 3) (pa_cons (pe_callB (call_min2 rfl) (by rfl) z_min (by decide +kernel) (pa_cons (pe_op op_pow pe_int pe_int) (pa_cons (pe_callB (call_max2 rfl) (by rfl) z_max (by decide +kernel) (pa_cons pe_int (pa_cons (pe_op op_sub (pv 7) (pe_cal C__law_take (hr.mono (by decide)) (by rfl) (pa_cons (pv 0) (pa_cons pe_int pa_nil)))) pa_nil))) pa_nil))) pa_nil))))))))))), ?_⟩
    obtain ⟨al, lxs, rfl, hLl, hAl⟩ := dp_list hdl
    have hxl : lxs.length = l.length := by rw [dpa_len hAl, List.length_map]
    -- measure, way
    refine ⟨_, rfl, _, rfl, G, b, bx, (wi : Int), B, rfl, by omega, by omega, fun m H1 g1 B1 m0 m1 => ?_⟩
    refine ⟨_, rfl, G, b, bx, 6, B1, rfl, by decide, by decide, fun way H2 g2 B2 w0 w1 => ?_⟩
    obtain ⟨m, rfl⟩ : ∃ n : Nat, m = n := ⟨m.toNat, by omega⟩
    have g12 := g1.trans g2
    refine ⟨sz2, fun p np => ⟨p, _, rfl, SqT.of upd_same, rfl, _, _, rfl, _, _, rfl, rfl, ?_⟩⟩
    have g3 := g12.loc (o := .tup [.int m, .int way]) np
    have B3 : BG K b bx G (upd H2 p (.tup [.int m, .int way])) := B2.loc np
    generalize upd H2 p (.tup [.int m, .int way]) = H3 at g3 B3
    clear g12 g1 g2 B1 B2 np
    have fin : ∀ (z : Int) (G' H' : Hp), Grow (Mb b) G H G' H' → BG K b bx G' H' → 0 ≤ z → ∀ pt, H' pt = none → Q (.ref pt) (upd H' pt (.tup [.int m, .int z])) := fun z G' H' g B hz pt npt =>
      q (.ref pt) (m, z) _ _ (g.lay npt) (B.step (grow_new B.sub npt) (B.at_.up npt)) (dp_tpl upd_same (.cons (.int _) (.cons (.int _) .nil))) (by omega) hz
    dsimp only
    refine tseq_if (fun H' => Grow (Mb b) G H G H' ∧ BG K b bx G H') (fun H' => Grow (Mb b) G H G H' ∧ BG K b bx G H' ∧ l ≠ []) (fun H4 h4 => ?_) (fun H4 h4 => ?_) (fun kA kB => ?_)
    · obtain ⟨g4, B4⟩ := h4
      refine ⟨_, rfl, _, rfl, sz2, fun p np => ?_⟩
      have hr := fmod_r (a := way) (m := 2) (by decide)
      refine ⟨_, rfl, _, _, rfl, rfl, (show (2 : Int) ≠ 0 by decide), ?_⟩
      have hix : ∃ (k v : Int), V.int (way.fmod 2) = .int k ∧ atI [V.int 3, .int 12] k = some (.int v) ∧ 0 < v ∧ v < 100 := by
        obtain h | h : way.fmod 2 = 0 ∨ way.fmod 2 = 1 := by omega
        · exact ⟨0, 3, by rw [h], rfl, by decide, by decide⟩
        · exact ⟨1, 12, by rw [h], rfl, by decide, by decide⟩
      obtain ⟨k, v, ek, ea, v0, v1⟩ := hix
      refine ⟨p, _, k, _, rfl, ek, SqL.of upd_same, ea, G, b, bx, v, B4.loc np, rfl, v0, by omega, fun z H5 g5 B5 z0 z1 => ?_⟩
      exact ⟨sz2, fin z G H5 ((g4.loc np).trans g5) B5 z0⟩
    · obtain ⟨g4, B4, hne⟩ := h4
      have hl0 : 0 < l.length := List.length_pos_iff.mpr hne
      -- way == 5
      refine ⟨_, rfl, rfl, _, rfl, ?_⟩
      rw [dint]
      by_cases h5 : way = 5
      · rw [decide_eq_true h5]
        refine iteT ?_
        refine ⟨_, rfl, _, _, rfl, rfl, ⟨by decide, by decide, by decide⟩, _, rfl, _, _, rfl, rfl, ⟨by decide, by decide, by decide⟩, _, _, rfl, rfl, G, b, bx, 1000000000000000000 + 1, B4, rfl, by decide, by decide, fun z H5 g5 B5 z0 z1 => ?_⟩
        refine ⟨sz2, fun p np => ?_⟩
        have g6 := (g4.trans g5).loc (o := .lst [.int 1000000000000000000, .int z]) np
        refine ⟨_, rfl, G, b, bx, 2, B5.loc np, rfl, by decide, by decide, fun v2 H6 g7 B7 l2 u2 => ?_⟩
        have ep := g7.keep p _ (fun z => B5.at_.nn (by rw [← show p = b from z]; exact np)) upd_same
        obtain rfl | rfl : v2 = 0 ∨ v2 = 1 := by omega
        · exact ⟨p, _, 0, .int 1000000000000000000, rfl, rfl, SqL.of ep, rfl, sz2, fin _ G _ (g6.trans g7) B7 (by decide)⟩
        · exact ⟨p, _, 1, .int z, rfl, rfl, SqL.of ep, rfl, sz2, fin _ G _ (g6.trans g7) B7 z0⟩
      rw [decide_eq_false h5]
      refine iteF ?_
      -- first, stop
      refine ⟨_, rfl, _, rfl, al, lxs, rfl, .inl (g4.sub.seq hLl), G, b, bx, (lxs.length : Int), B4, rfl, by omega, by omega, fun fi H5 g5 B5 f0 f1 => ?_⟩
      refine ⟨_, rfl, _, _, rfl, rfl, _, rfl, _, rfl, al, lxs, rfl, .inl (B5.sub.seq hLl), _, rfl, _, _, rfl, rfl, _, _, rfl, G, b, bx, _, B5, rfl, by split <;> omega, by split <;> omega, fun ad H6 g6 B6 a0 a1 => ?_⟩
      refine ⟨_, _, rfl, rfl, ?_⟩
      have g46 := (g4.trans g5).trans g6
      -- whole
      refine ⟨_, rfl, _, rfl, fi, rfl, _, rfl, fi + 1 + ad, rfl, al, lxs, rfl, B6.sub.seq hLl, fun c nc => ?_⟩
      have g7 : Grow (Mb b) G H6 (upd G c (.lst (cutV lxs (some fi) (some (fi + 1 + ad))))) (upd H6 c (.lst (cutV lxs (some fi) (some (fi + 1 + ad))))) := grow_new B6.sub nc
      have B7 := B6.step g7 (B6.at_.up nc)
      have hc : SqL K (upd G c (.lst (cutV lxs (some fi) (some (fi + 1 + ad))))) c (cutV lxs (some fi) (some (fi + 1 + ad))) := SqL.of upd_same
      generalize upd G c (.lst (cutV lxs (some fi) (some (fi + 1 + ad)))) = G7 at g7 B7 hc
      generalize upd H6 c (.lst (cutV lxs (some fi) (some (fi + 1 + ad)))) = H7 at g7 B7
      refine ⟨c, rfl, ⟨_, B7.sub.seq hc⟩, fun Dl hDl => ?_⟩
      refine lc_mk (K := K) (M := M0) (Q := fun x H1 => tNil _ H1 fun xs H2 => rSum K (x :: xs) H2 _) (walk_list (K := K) (a := c) (xs := cutV lxs (some fi) (some (fi + 1 + ad)))) (fun _ d => ∃ z : Int, d = .int z ∧ True) (fun _ => True) B7.sub hDl (fun z => z) (by have := cutV_length lxs (some fi) (some (fi + 1 + ad)); omega) trivial (fun _ _ _ => trivial)
        (fun G1 H1 g _ => g.sub.seq (g.gg.seq hc)) (fun i x G8 H8 H8' hi g8 _ y E hE => ?_) (fun G8 H8 ds g8 hd8 hl8 hR8 _ => ?_) gm_name
      · obtain ⟨rfl, hx⟩ := y
        have hx2 := mem_cut (List.mem_of_getElem? hx)
        obtain ⟨j, hj⟩ := List.mem_iff_getElem?.mp hx2
        obtain ⟨d0, hd0, hv⟩ := dpa_getV hAl hj
        obtain ⟨en, hen, rfl⟩ := get_map hd0
        obtain ⟨be, ys, rfl, hTe, hBe⟩ := dp_tup hv
        have hys := of_dpa_ints hBe
        subst hys
        have hmw : m < en.length := by
          rw [(hlo en (List.mem_of_getElem? hen)).1]
          omega
        refine ⟨rfl, _, rfl, _, rfl, be, _, m, _, rfl, rfl, Same.tup g8.sub (Same.tup g8.gg (Same.tup g7.gg hTe)), atI_nat (getD_get hmw), ?_⟩
        exact hE _ _ _ _ (Grow.refl g8.sub) (.int _) ⟨_, rfl, trivial⟩ trivial
      · obtain ⟨zs, rfl, _⟩ := pick (f := PyData.int) (P := fun _ : Int => True) ds fun j d h => hR8 j d h
        obtain ⟨a8, xs8, e8, hL8, hA8⟩ := dp_list hd8
        cases e8
        have ex8 := of_dpa_ints hA8
        subst ex8
        refine ⟨Dl, zs, rfl, g8.sub.seq hL8, ?_⟩
        have B8 := B7.grow g8
        refine ⟨_, rfl, _, _, rfl, rfl, ⟨by decide, by decide, by decide⟩, _, rfl, _, rfl, G8, b, bx, 2, B8, rfl, by decide, by decide, fun v H9 g9 B9 l9 u9 => ?_⟩
        refine ⟨_, _, rfl, rfl, _, _, rfl, _, _, rfl, sz2, fin _ G8 _ (((g46.trans g7).trans g8.weak).trans g9) B9 ?_⟩
        show (0 : Int) ≤ if (if zs.sum - v > 0 then zs.sum - v else 0) < (10 : Int) ^ (18 : Int).toNat then (if zs.sum - v > 0 then zs.sum - v else 0) else (10 : Int) ^ (18 : Int).toNat
        have hp : (0 : Int) ≤ (10 : Int) ^ (18 : Int).toNat := by decide
        split <;> (try split) <;> omega
    · refine ⟨_, rfl, _, _, rfl, rfl, _, rfl, ?_⟩
      by_cases h2 : way < 2
      · rw [decide_eq_true h2]
        exact iteT (iteT (kA _ ⟨g3, B3⟩))
      · rw [decide_eq_false h2]
        refine iteF ⟨_, rfl, Nat.zero_le _, fun p np => ⟨dLog l, .list [], dp_mono (B3.loc np).sub hdl, dp_lst upd_same .nil, (flat_log l).shaped (by decide), (flat_list (n := 0) (fun _ h => by cases h)).shaped (by decide), _, rfl, ?_⟩⟩
        rw [eqv_log_nil]
        by_cases hn : l = []
        · rw [decide_eq_true hn]
          exact iteT (kA _ ⟨g3.loc np, B3.loc np⟩)
        · rw [decide_eq_false hn]
          exact iteF (kB _ ⟨g3.loc np, B3.loc np, hn⟩)
end
end Tw
end
section
set_option maxHeartbeats 8000000
namespace Tw
open PySem PySem.Spec PyProof.Rows L2
def TiersOk (width : Nat) (ts : Tiers) : Prop := ∀ q ∈ ts, q.1 < width ∧ 0 ≤ q.2
section
variable {P : Program} {w : World} {K : PySem.W.Frag} {mg : Str → Option Value} {base : Heap}
/-! ### _law_tiers -/
abbrev sTiersL : Stmt := topS 36
abbrev nTiersL : List Str := ["_law_bag_here", "_law_width", "_law_log_here", "_law_most", "_law_k"]
abbrev psTiersL : List Str := ["_law_bag_here", "_law_width", "_law_log_here", "_law_most"]
theorem scTiersL : FnScope nTiersL psTiersL (defScope sTiersL) := ⟨rfl, rfl, rfl, by decide +kernel, rfl, by decide +kernel, by decide +kernel⟩
def spTiersL (K : PySem.W.Frag) : Sp := fun vs H Q _ => ∃ (G : Hp) (b bx : Addr) (width most : Nat) (vl : V) (l : Log), BG K b bx G H ∧ vs = [.ref b, .int width, vl, .int most] ∧ Dp K G vl (dLog l) ∧ LogOk width l ∧ 0 < width ∧ width ≤ 10 ∧ l.length ≤ 60 ∧ 0 < most ∧ most ≤ 8 ∧
  ∀ v ts G' H', Grow (Mb b) G H G' H' → BG K b bx G' H' → Dp K G' v (dTiers ts) → TiersOk width ts → ts.length ≤ most → Q v H'
theorem ok_tiersL (D : Def K mg "_law_tiers" sTiersL psTiersL) (C__law_take : Cal P w K mg base 1 "_law_take" psBM (spTake K)) (C__law_tier : Cal P w K mg base 2 "_law_tier" psTier (spTier K)) (z_range : mg "range" = none) : Cal P w K mg base 3 "_law_tiers" psTiersL (spTiersL K) := by
  refine D.ok scTiersL (fun vs H Q E h => ?_) (fun f cdv A outer s H vs Q E hr h => ?_)
  · obtain ⟨G, b, bx, wi, mo, vl, l, _, rfl, _⟩ := h
    rfl
  · obtain ⟨G, b, bx, wi, mo, vl, l, B, rfl, hdl, hlo, hw0, hw, hl, hm0, hm, q⟩ := h
    refine ⟨_, (pss_one (ps_ret (pe_lc (own := [("_law_k", 4)]) (g := (gName 4)) (tt := tYes) rfl scTiersL.nd (pi_range1 (by rfl) z_range (pa_cons (pe_op op_add pe_int (pe_cal C__law_take (hr.mono (by decide)) (by rfl) (pa_cons (pv 0) (pa_cons (pv 3) pa_nil)))) pa_nil)) (blkOk_by (N := nTiersL) (sc := defScope sTiersL) (by decide +kernel)) (fun _ _ _ _ _ => (pg_name (i := 4) scTiersL.nd rfl (.inl rfl))) (fun _ _ _ _ _ => pts_nil) (fun _ _ _ _ _ => (pe_cal C__law_tier (hr.mono (by decide)) (by rfl) (pa_cons (pv 0) (pa_cons (pv 1) (pa_cons (pv 2) pa_nil)))))))), ?_⟩
    refine ⟨_, rfl, _, rfl, G, b, bx, (mo : Int), B, rfl, by omega, by omega, fun v H1 g1 B1 v0 v1 => ?_⟩
    refine ⟨_, _, rfl, rfl, 1 + v, rfl, by omega, by omega, fun Dl hDl => ?_⟩
    obtain ⟨n, hn⟩ : ∃ n : Nat, (1 + v).toNat = n := ⟨_, rfl⟩
    rw [hn]
    have hDb : Dl ≠ b := fun z => B1.at_.nn (by rw [← z]; exact hDl)
    refine lc_mk (K := K) (M := Mb b) (Q := Q) (walk_range (lo := 0) (n := n)) (fun _ d => ∃ q : Nat × Int, d = dTier q ∧ (q.1 < wi ∧ 0 ≤ q.2)) (BagAt b bx) B1.sub hDl hDb (by omega) B1.at_ (fun H1 o j => j.upn hDb.symm) (fun _ _ _ _ => trivial) (fun i x G4 H4 H4' hi g4 j4 y E hE => ?_) (fun G4 H4 ds g4 hd4 hl4 hR4 j4 => ?_) gm_name
    · obtain ⟨rfl, rfl⟩ := y
      have B4 := B1.step g4 j4
      exact ⟨rfl, _, rfl, _, rfl, _, rfl, G4, b, bx, wi, vl, l, B4, rfl, dp_mono g4.gg hdl, hlo, hw0, hw, hl, fun v q G5 H5 g5 B5 hd5 q1 q2 => hE _ _ _ _ g5 hd5 ⟨q, rfl, q1, q2⟩ B5.at_⟩
    · obtain ⟨ts, rfl, hts⟩ := pick (f := dTier) (P := fun q : Nat × Int => q.1 < wi ∧ 0 ≤ q.2) ds fun j d h => hR4 j d h
      rw [List.length_map] at hl4
      exact q _ ts G4 H4 (g1.trans g4) (B1.step g4 j4) hd4 hts (by omega)
/-! ### _law_scene -/
abbrev sScene : Stmt := topS 41
abbrev nScene : List Str := ["_law_bag_here", "_law_most", "_law_width", "_law_log_here", "_law_measure"]
abbrev psScene : List Str := ["_law_bag_here", "_law_most"]
theorem scScene : FnScope nScene psScene (defScope sScene) := ⟨rfl, rfl, rfl, by decide +kernel, rfl, by decide +kernel, by decide +kernel⟩
/-- what a scene is -/
structure SceneOk (width : Nat) (l : Log) (ts : Tiers) : Prop where
  w0 : 0 < width
  w1 : width ≤ 10
  l0 : l ≠ []
  l1 : l.length ≤ 60
  lo : LogOk width l
  to : TiersOk width ts
  t1 : ts.length ≤ 8
def dScene (width : Nat) (l : Log) (ts : Tiers) : PyData := .tuple [.int width, dLog l, dTiers ts]
def spScene (K : PySem.W.Frag) : Sp := fun vs H Q _ => ∃ (G : Hp) (b bx : Addr) (most : Nat), BG K b bx G H ∧ vs = [.ref b, .int most] ∧ 0 < most ∧ most ≤ 60 ∧
  ∀ v width l ts G' H', Grow (Mb b) G H G' H' → BG K b bx G' H' → Dp K G' v (dScene width l ts) → SceneOk width l ts → Q v H'
theorem ok_scene (D : Def K mg "_law_scene" sScene psScene) (C__law_take : Cal P w K mg base 1 "_law_take" psBM (spTake K)) (C__law_log : Cal P w K mg base 3 "_law_log" psLog (spLog K)) (C__law_tiers : Cal P w K mg base 3 "_law_tiers" psTiersL (spTiersL K)) (z_range : mg "range" = none) (z_tuple : mg "tuple" = none) :
    Cal P w K mg base 4 "_law_scene" psScene (spScene K) := by
  refine D.ok scScene (fun vs H Q E h => ?_) (fun f cdv A outer s H vs Q E hr h => ?_)
  · obtain ⟨G, b, bx, mo, _, rfl, _⟩ := h
    rfl
  · obtain ⟨G, b, bx, mo, B, rfl, hm0, hm, q⟩ := h
    refine ⟨_, (pss_cons (ps_set (i := 2) scScene.nd rfl (.inl rfl) (pe_op op_add pe_int (pe_cal C__law_take (hr.mono (by decide)) (by rfl) (pa_cons (pv 0) (pa_cons (pe_ix (r := rIxL K) ix_list (pe_lst (pa_cons pe_int (pa_cons pe_int pa_nil))) (pe_cal C__law_take (hr.mono (by decide)) (by rfl) (pa_cons (pv 0) (pa_cons pe_int pa_nil))) (fun _ _ => rfl)) pa_nil)))))
  (pss_cons (ps_set (i := 3) scScene.nd rfl (.inl rfl) (pe_cal C__law_log (hr.mono (by decide)) (by rfl) (pa_cons (pv 0) (pa_cons (pv 2) (pa_cons (pv 1) pa_nil)))))
  (pss_cons (ps_if (pt_cmpR (op_eqD hr.units) (pv 3) (pe_lst pa_nil) (nomark _))
  (pss_one (ps_set (i := 3) scScene.nd rfl (.inl rfl) (pe_lst (pa_cons (pe_callTy (r := rTpl K) call_tuple_of (by rfl) z_tuple (by decide +kernel) (pa_cons (pe_lc (own := [("_law_measure", 4)]) (g := (gName 4)) (tt := tYes) rfl scScene.nd (pi_range1 (by rfl) z_range (pa_cons (pv 2) pa_nil)) (blkOk_by (N := nScene) (sc := defScope sScene) (by decide +kernel)) (fun _ _ _ _ _ => (pg_name (i := 4) scScene.nd rfl (.inl rfl))) (fun _ _ _ _ _ => pts_nil) (fun _ _ _ _ _ => (pe_cal C__law_take (hr.mono (by decide)) (by rfl) (pa_cons (pv 0) (pa_cons pe_int pa_nil))))) pa_nil)) pa_nil))))
  pss_nil)
  (pss_one (ps_ret (pe_tup (pa_cons (pv 2) (pa_cons (pv 3) (pa_cons (pe_cal C__law_tiers (hr.mono (by decide)) (by rfl) (pa_cons (pv 0) (pa_cons (pv 2) (pa_cons (pv 3) (pa_cons pe_int pa_nil))))) pa_nil))))))))), ?_⟩
    -- width
    refine ⟨_, rfl, sz2, fun p np => ?_⟩
    have g1 := (grow_loc (M := Mb b) (o := .lst [.int 2, .int 4]) B.sub np)
    refine ⟨_, rfl, G, b, bx, 2, B.loc np, rfl, by decide, by decide, fun v H1 g2 B2 v0 v1 => ?_⟩
    have ep := g2.keep p _ (fun z => B.at_.nn (by rw [← show p = b from z]; exact np)) upd_same
    have g12 := g1.trans g2
    have hix : ∃ (k : Int), atI [V.int 2, .int 4] v = some (.int k) ∧ 0 < k ∧ k ≤ 4 := by
      obtain rfl | rfl : v = 0 ∨ v = 1 := by omega
      · exact ⟨2, rfl, by decide, by decide⟩
      · exact ⟨4, rfl, by decide, by decide⟩
    obtain ⟨k, ea, k0, k1⟩ := hix
    refine ⟨p, _, v, _, rfl, rfl, SqL.of ep, ea, G, b, bx, k, B2, rfl, k0, by omega, fun v3 H3 g3 B3 v30 v31 => ?_⟩
    obtain ⟨wi, hwi⟩ : ∃ n : Nat, 1 + v3 = n := ⟨(1 + v3).toNat, by omega⟩
    refine ⟨_, _, rfl, rfl, ?_⟩
    dsimp only
    rw [hwi]
    have g13 := g12.trans g3
    clear g1 g2 g3 g12 ep B2
    -- log
    refine ⟨_, rfl, _, rfl, _, rfl, G, b, bx, wi, mo, B3, rfl, by omega, hm, fun vl l G4 H4 g4 B4 hdl hlo hll => ?_⟩
    dsimp only
    have g14 := g13.trans g4
    refine tseq_tail (fun σ' H' => ∃ (vl : V) (l : Log) (G' : Hp), σ' = [some (.ref b), some (.int mo), some (.int wi), some vl, none] ∧ Grow (Mb b) G H G' H' ∧ BG K b bx G' H' ∧ Dp K G' vl (dLog l) ∧ LogOk wi l ∧ l ≠ [] ∧ l.length ≤ 60) (fun σ' H' h => ?_) (fun kt => ?_)
    · obtain ⟨vl, l, G5, rfl, g5, B5, hdl, hlo, hne, hl⟩ := h
      refine ⟨_, rfl, _, rfl, _, rfl, _, rfl, _, rfl, G5, b, bx, wi, 3, vl, l, B5, rfl, hdl, hlo, by omega, by omega, hl, by decide, by decide, fun vt ts G6 H6 g6 B6 hdt hts htl => ?_⟩
      refine ⟨sz3, fun pt npt => ?_⟩
      have s7 := same_up (o := .tup [.int wi, vl, vt]) (same_none B6.sub npt)
      refine q (.ref pt) wi l ts _ _ ((g5.trans g6).lay npt) (B6.step (grow_new B6.sub npt) (B6.at_.up npt)) (dp_tpl upd_same (.cons (.int _) (.cons (dp_mono (g6.gg.trans s7) hdl) (.cons (dp_mono s7 hdt) .nil)))) ⟨by omega, by omega, hne, hl, hlo, hts, by omega⟩
    · refine ⟨_, rfl, Nat.zero_le _, fun p2 np2 => ⟨dLog l, .list [], dp_mono (B4.loc np2).sub hdl, dp_lst upd_same .nil, (flat_log l).shaped (by decide), (flat_list (n := 0) (fun _ h => by cases h)).shaped (by decide), _, rfl, ?_⟩⟩
      rw [eqv_log_nil]
      have B5 := B4.loc (o := .lst []) np2
      have g5 := g14.loc (o := .lst []) np2
      generalize upd H4 p2 (.lst []) = H5 at B5 g5
      by_cases hn : l = []
      · rw [decide_eq_true hn]
        refine iteT ?_
        refine ⟨_, rfl, (wi : Int), rfl, by omega, by omega, fun Dl hDl => ?_⟩
        have en : ((wi : Int)).toNat = wi := by omega
        rw [en]
        have hDb : Dl ≠ b := fun z => B5.at_.nn (by rw [← z]; exact hDl)
        refine lc_mk (K := K) (M := Mb b) (Q := fun x H1 => tNil _ H1 fun xs H2 => rTpl K (x :: xs) H2 _) (walk_range (lo := 0) (n := wi)) (fun _ d => ∃ v : Int, d = .int v ∧ (0 ≤ v ∧ v ≤ 1000000000000000000)) (BagAt b bx) B5.sub hDl hDb (by omega) B5.at_ (fun H1 o j => j.upn hDb.symm) (fun _ _ _ _ => trivial) (fun i x G6 H6 H6' hi g6 j6 y E hE => ?_) (fun G6 H6 ds g6 hd6 hl6 hR6 j6 => ?_) gm_name
        · obtain ⟨rfl, rfl⟩ := y
          have B6 := B5.step g6 j6
          exact ⟨rfl, _, rfl, G6, b, bx, 4, B6, rfl, by decide, by decide, fun v H7 g7 B7 l7 u7 => hE _ _ _ _ g7 (.int v) ⟨v, rfl, l7, by omega⟩ B7.at_⟩
        · obtain ⟨a6, xs6, e6, hL6, hA6⟩ := dp_list hd6
          cases e6
          obtain ⟨zs, rfl, hzs⟩ := pick (f := PyData.int) (P := fun v : Int => 0 ≤ v ∧ v ≤ 1000000000000000000) ds fun j d h => hR6 j d h
          have B6 := B5.step g6 j6
          refine ⟨Dl, xs6, rfl, .inl ⟨B6.sub.seq hL6, fun pt npt => ?_⟩⟩
          have g7 : Grow (Mb b) G6 H6 (upd G6 pt (.tup xs6)) (upd H6 pt (.tup xs6)) := grow_new B6.sub npt
          have B7 := B6.step g7 (B6.at_.up npt)
          have hd7 : Dp K (upd G6 pt (.tup xs6)) (.ref pt) (dEn zs) := dp_tpl upd_same (dpa_mono (same_up (same_none B6.sub npt)) hA6)
          generalize upd G6 pt (.tup xs6) = G7 at g7 B7 hd7
          generalize upd H6 pt (.tup xs6) = H7 at g7 B7
          refine ⟨sz1, fun pl npl => ?_⟩
          have g8 : Grow (Mb b) G7 H7 (upd G7 pl (.lst [.ref pt])) (upd H7 pl (.lst [.ref pt])) := grow_new B7.sub npl
          refine kt _ _ ⟨.ref pl, [zs], _, rfl, ((g5.trans g6).trans g7).trans g8, B7.step g8 (B7.at_.up npl), dp_lst (ds := [dEn zs]) upd_same (dpa_one (dp_mono (same_up (same_none B7.sub npl)) hd7)), fun e he => ?_, by simp, by simp⟩
          rw [List.mem_singleton] at he
          subst he
          rw [List.length_map] at hl6
          exact ⟨hl6, hzs⟩
      · rw [decide_eq_false hn]
        refine iteF ?_
        exact kt _ _ ⟨vl, l, G4, rfl, g5, B5, hdl, hlo, hn, by omega⟩
/-! ### _law_long_scene -/
abbrev sLong : Stmt := topS 45
abbrev nLong : List Str := ["_law_bag_here", "_law_log_here", "_law_number", "_law_k"]
abbrev psLong : List Str := ["_law_bag_here"]
theorem scLong : FnScope nLong psLong (defScope sLong) := ⟨rfl, rfl, rfl, by decide +kernel, rfl, by decide +kernel, by decide +kernel⟩
def spLong (K : PySem.W.Frag) : Sp := fun vs H Q _ => ∃ (G : Hp) (b bx : Addr), BG K b bx G H ∧ vs = [.ref b] ∧
  ∀ v width l ts G' H', Grow (Mb b) G H G' H' → BG K b bx G' H' → Dp K G' v (dScene width l ts) → SceneOk width l ts → Q v H'
theorem ok_long (D : Def K mg "_law_long_scene" sLong psLong) (C__law_take : Cal P w K mg base 1 "_law_take" psBM (spTake K)) (z_range : mg "range" = none) : Cal P w K mg base 2 "_law_long_scene" psLong (spLong K) := by
  refine D.ok scLong (fun vs H Q E h => ?_) (fun f cdv A outer s H vs Q E hr h => ?_)
  · obtain ⟨G, b, bx, _, rfl, _⟩ := h
    rfl
  · obtain ⟨G, b, bx, B, rfl, q⟩ := h
    refine ⟨_, (pss_cons (ps_setLc (i := 1) (own := [("_law_number", 2)]) (g := (gName 2)) (tt := tYes) rfl scLong.nd rfl rfl (sw_true rfl rfl rfl (by decide +kernel)) (pi_range1 (by rfl) z_range (pa_cons pe_int pa_nil)) (blkOk_by (N := nLong) (sc := defScope sLong) (by decide +kernel)) (fun _ _ _ _ _ => (pg_name (i := 2) scLong.nd rfl (.inl rfl))) (fun _ _ _ _ _ => pts_nil) (fun _ _ _ _ _ => (pe_tup (pa_cons (pe_cal C__law_take (hr.mono (by decide)) (by rfl) (pa_cons (pv 0) (pa_cons pe_int pa_nil))) pa_nil))))
  (pss_one (ps_ret (pe_tup (pa_cons pe_int (pa_cons (pv 1) (pa_cons (pe_lc (own := [("_law_k", 3)]) (g := (gName 3)) (tt := tYes) rfl scLong.nd (pi_range1 (by rfl) z_range (pa_cons pe_int pa_nil)) (blkOk_by (N := nLong) (sc := defScope sLong) (by decide +kernel)) (fun _ _ _ _ _ => (pg_name (i := 3) scLong.nd rfl (.inl rfl))) (fun _ _ _ _ _ => pts_nil) (fun _ _ _ _ _ => (pe_tup (pa_cons pe_int (pa_cons (pe_cal C__law_take (hr.mono (by decide)) (by rfl) (pa_cons (pv 0) (pa_cons pe_int pa_nil))) pa_nil))))) pa_nil))))))), ?_⟩
    refine ⟨60, rfl, by decide, by decide, fun Dl hDl => ?_⟩
    have hDb : Dl ≠ b := fun z => B.at_.nn (by rw [← z]; exact hDl)
    refine lc_mk (K := K) (M := Mb b) (Q := fun x H1 => gName 1 x _ H1 _) (walk_range (lo := 0) (n := 60)) (fun _ d => ∃ e : List Int, d = dEn e ∧ (e.length = 1 ∧ ∀ z ∈ e, 0 ≤ z ∧ z ≤ 1000000000000000000)) (BagAt b bx) B.sub hDl hDb (by omega) B.at_ (fun H1 o j => j.upn hDb.symm) (fun _ _ _ _ => trivial) (fun i x G1 H1 H1' hi g1 j1 y E hE => ?_) (fun G1 H1 ds g1 hd1 hl1 hR1 j1 => ?_) gm_name
    · obtain ⟨rfl, rfl⟩ := y
      have B1 := B.step g1 j1
      refine ⟨rfl, _, rfl, G1, b, bx, 4, B1, rfl, by decide, by decide, fun v H2 g2 B2 l2 u2 => ⟨sz1, fun pt npt => ?_⟩⟩
      refine hE _ (dEn [v]) _ _ (g2.lay npt) (dp_tpl upd_same (.cons (.int _) .nil)) ⟨[v], rfl, rfl, fun z hz => ?_⟩ (B2.at_.up npt)
      rw [List.mem_singleton] at hz
      omega
    · obtain ⟨l, rfl, hls⟩ := pick (f := dEn) (P := fun e : List Int => e.length = 1 ∧ ∀ z ∈ e, 0 ≤ z ∧ z ≤ 1000000000000000000) ds fun j d h => hR1 j d h
      rw [List.length_map] at hl1
      have B1 := B.step g1 j1
      refine ⟨_, rfl, 8, rfl, by decide, by decide, fun D2 hD2 => ?_⟩
      have hDb2 : D2 ≠ b := fun z => B1.at_.nn (by rw [← z]; exact hD2)
      refine lc_mk (K := K) (M := Mb b) (Q := fun x H1 => tNil _ H1 fun xs H2 => (V.int 1 :: .ref Dl :: x :: xs).length ≤ sizeLine ∧ ∀ p, H2 p = none → Q (.ref p) (upd H2 p (.tup (V.int 1 :: .ref Dl :: x :: xs)))) (walk_range (lo := 0) (n := 8)) (fun _ d => ∃ q : Nat × Int, d = dTier q ∧ (q.1 < 1 ∧ 0 ≤ q.2)) (BagAt b bx) B1.sub hD2 hDb2 (by omega) B1.at_ (fun H1 o j => j.upn hDb2.symm) (fun _ _ _ _ => trivial) (fun i x G4 H4 H4' hi g4 j4 y E hE => ?_) (fun G4 H4 ds g4 hd4 hl4 hR4 j4 => ?_) gm_name
      · obtain ⟨rfl, rfl⟩ := y
        have B4 := B1.step g4 j4
        refine ⟨rfl, _, rfl, G4, b, bx, 12, B4, rfl, by decide, by decide, fun v H2 g2 B2 l2 u2 => ⟨sz2, fun pt npt => ?_⟩⟩
        exact hE _ (dTier (0, v)) _ _ (g2.lay npt) (dp_tpl upd_same (.cons (.int _) (.cons (.int _) .nil))) ⟨(0, v), rfl, Nat.zero_lt_one, l2⟩ (B2.at_.up npt)
      · obtain ⟨ts, rfl, hts⟩ := pick (f := dTier) (P := fun q : Nat × Int => q.1 < 1 ∧ 0 ≤ q.2) ds fun j d h => hR4 j d h
        rw [List.length_map] at hl4
        have B4 := B1.step g4 j4
        refine ⟨sz3, fun pt npt => ?_⟩
        have s7 := same_up (o := .tup [.int 1, .ref Dl, .ref D2]) (same_none B4.sub npt)
        refine q (.ref pt) 1 l ts _ _ ((g1.trans g4).lay npt) (B4.step (grow_new B4.sub npt) (B4.at_.up npt)) (dp_tpl upd_same (.cons (.int _) (.cons (dp_mono (g4.gg.trans s7) hd1) (.cons (dp_mono s7 hd4) .nil)))) ⟨by decide, by decide, ?_, by omega, hls, hts, by omega⟩
        intro z
        rw [z] at hl1
        simp at hl1
end
end Tw
end
section
set_option maxHeartbeats 8000000
namespace Tw
open PySem PySem.Spec PyProof.Rows L2
open Tf (psum psum_zero psum_succ Sat)
section
variable {P : Program} {w : World} {K : PySem.W.Frag} {mg : Str → Option Value} {base : Heap}
/-! ### _law_bounds -/
abbrev sBounds : Stmt := topS 42
abbrev nBounds : List Str := ["_law_bag_here", "_law_log_here", "_law_measure", "_law_sizes_here", "_law_entry", "_law_bottom", "_law_more"]
abbrev psBounds : List Str := ["_law_bag_here", "_law_log_here", "_law_measure"]
theorem scBounds : FnScope nBounds psBounds (defScope sBounds) := ⟨rfl, rfl, rfl, by decide +kernel, rfl, by decide +kernel, by decide +kernel⟩
/-- low and high bound a column -/
structure BndOk (c : List Int) (low : Int) (high : Option Int) : Prop where
  l0 : 0 ≤ low
  lo : ∀ z ∈ c, low ≤ z
  hi : ∀ h, high = some h → ∀ z ∈ c, z ≤ h
def spBounds (K : PySem.W.Frag) : Sp := fun vs H Q _ => ∃ (G : Hp) (b bx : Addr) (width m : Nat) (vl : V) (l : Log), BG K b bx G H ∧ vs = [.ref b, vl, .int m] ∧ Dp K G vl (dLog l) ∧ LogOk width l ∧ m < width ∧ l ≠ [] ∧ l.length ≤ 60 ∧
  ∀ v low high G' H', Grow (Mb b) G H G' H' → BG K b bx G' H' → Dp K G' v (.tuple [.int low, dOI high]) → BndOk (col l m) low high → Q v H'
theorem ok_bounds (D : Def K mg "_law_bounds" sBounds psBounds) (C__law_take : Cal P w K mg base 1 "_law_take" psBM (spTake K)) (z_min : mg "min" = none) (z_max : mg "max" = none) : Cal P w K mg base 2 "_law_bounds" psBounds (spBounds K) := by
  refine D.ok scBounds (fun vs H Q E h => ?_) (fun f cdv A outer s H vs Q E hr h => ?_)
  · obtain ⟨G, b, bx, wi, m, vl, l, _, rfl, _⟩ := h
    rfl
  · obtain ⟨G, b, bx, wi, m, vl, l, B, rfl, hdl, hlo, hmw, hne, hl, q⟩ := h
    refine ⟨_, (pss_cons (ps_setLc (i := 3) (own := [("_law_entry", 4)]) (g := (gName 4)) (tt := tYes) rfl scBounds.nd rfl rfl (sw_true rfl rfl rfl (by decide +kernel)) (pi_list (pv 1)) (blkOk_by (N := nBounds) (sc := defScope sBounds) (by decide +kernel)) (fun _ _ _ _ _ => (pg_name (i := 4) scBounds.nd rfl (.inl rfl))) (fun _ _ _ _ _ => pts_nil) (fun _ _ _ _ _ => (pe_ix (r := rIxT K) ix_tup (pv 4) (pv 2) (fun _ _ => rfl))))
  (pss_cons (ps_set (i := 5) scBounds.nd rfl (.inl rfl) (pe_ix (r := rIxL K) ix_list (pe_lst (pa_cons pe_int (pa_cons pe_int (pa_cons (pe_callB (r := rMin K) (cr_min rfl) (by rfl) z_min (by decide +kernel) (pa_cons (pv 3) pa_nil)) (pa_cons (pe_cal C__law_take (hr.mono (by decide)) (by rfl) (pa_cons (pv 0) (pa_cons (pe_op op_add (pe_callB (r := rMin K) (cr_min rfl) (by rfl) z_min (by decide +kernel) (pa_cons (pv 3) pa_nil)) pe_int) pa_nil))) pa_nil))))) (pe_cal C__law_take (hr.mono (by decide)) (by rfl) (pa_cons (pv 0) (pa_cons pe_int pa_nil))) (fun _ _ => rfl)))
  (pss_cons (ps_set (i := 6) scBounds.nd rfl (.inl rfl) (pe_callB (call_min2 rfl) (by rfl) z_min (by decide +kernel) (pa_cons (pe_op op_pow pe_int pe_int) (pa_cons (pe_op op_add (pe_callB (r := rMax K) (cr_max rfl) (by rfl) z_max (by decide +kernel) (pa_cons (pv 3) pa_nil)) (pe_cal C__law_take (hr.mono (by decide)) (by rfl) (pa_cons (pv 0) (pa_cons pe_int pa_nil)))) pa_nil))))
  (pss_one (ps_ret (pe_tup (pa_cons (pv 5) (pa_cons (pe_ix (r := rIxL K) ix_list (pe_lst (pa_cons pe_non (pa_cons pe_non (pa_cons (pe_callB (r := rMax K) (cr_max rfl) (by rfl) z_max (by decide +kernel) (pa_cons (pv 3) pa_nil)) (pa_cons (pv 6) pa_nil))))) (pe_cal C__law_take (hr.mono (by decide)) (by rfl) (pa_cons (pv 0) (pa_cons pe_int pa_nil))) (fun _ _ => rfl)) pa_nil)))))))), ?_⟩
    obtain ⟨al, lxs, rfl, hLl, hAl⟩ := dp_list hdl
    have hxl : lxs.length = l.length := by rw [dpa_len hAl, List.length_map]
    have hc0 : 0 < (col l m).length := by rw [col_len]; exact List.length_pos_iff.mpr hne
    have hcz : ∀ z ∈ col l m, 0 ≤ z ∧ z ≤ 1000000000000000000 := fun z hz => by
      obtain ⟨e, he, rfl⟩ := List.mem_map.mp hz
      obtain ⟨h1, h2⟩ := hlo e he
      have h3 : m < e.length := by omega
      rw [List.getD_eq_getElem?_getD, List.getElem?_eq_getElem h3]
      exact h2 _ (List.getElem_mem _)
    -- sizes
    refine ⟨_, rfl, al, rfl, ⟨_, B.sub.seq hLl⟩, fun Dl hDl => ?_⟩
    refine lc_pure (K := K) (Q := fun x H1 => gName 3 x _ H1 _) (walk_list (K := K) (a := al) (xs := lxs)) ((col l m).map PyData.int) B.sub hDl (by rw [List.length_map, col_len, hxl]) (by omega) (fun G1 H1 g => g.sub.seq (g.gg.seq hLl)) (fun i x G1 H1 H1' d hi g1 y E hE => ?_) (fun G1 H1 g1 hd1 => ?_) gm_name
    · obtain ⟨rfl, hx⟩ := y
      obtain ⟨d0, hd0, hv⟩ := dpa_getV hAl hx
      obtain ⟨en, hen, rfl⟩ := get_map hd0
      obtain ⟨z, hz, rfl⟩ := get_map hi
      rw [col_get hen] at hz
      cases hz
      obtain ⟨be, ys, rfl, hTe, hBe⟩ := dp_tup hv
      have hys := of_dpa_ints hBe
      subst hys
      have hm2 : m < en.length := by rw [(hlo en (List.mem_of_getElem? hen)).1]; exact hmw
      exact ⟨rfl, _, rfl, _, rfl, be, _, m, _, rfl, rfl, Same.tup g1.sub (Same.tup g1.gg hTe), atI_nat (getD_get hm2), hE _ _ _ (Grow.refl g1.sub) (.int _)⟩
    · obtain ⟨ac, cxs, ec, hLc, hAc⟩ := dp_list hd1
      cases ec
      have ecx := of_dpa_ints hAc
      subst ecx
      have B1 := B.grow g1
      have G01 : Grow (Mb b) G H G1 H1 := g1.weak
      -- bottom
      refine ⟨_, rfl, Dl, _, rfl, B1.sub.seq hLc, hc0, fun mn hmn hmn2 => ?_⟩
      obtain ⟨n0, n1⟩ := hcz mn hmn
      refine ⟨_, rfl, _, rfl, Dl, _, rfl, B1.sub.seq hLc, hc0, fun mn2 hmn3 hmn4 => ?_⟩
      obtain rfl : mn2 = mn := by have := hmn2 mn2 hmn3; have := hmn4 mn hmn; omega
      refine ⟨_, _, rfl, rfl, G1, b, bx, mn2 + 1, B1, rfl, by omega, by omega, fun v H2 g2 B2 v0 v1 => ?_⟩
      refine ⟨sz4, fun p np => ?_⟩
      have g3 := (G01.trans g2).loc (o := .lst [.int 0, .int 0, .int mn2, .int v]) np
      refine ⟨_, rfl, G1, b, bx, 4, B2.loc np, rfl, by decide, by decide, fun v2 H3 g4 B3 v20 v21 => ?_⟩
      have ep := g4.keep p _ (fun z => B2.at_.nn (by rw [← show p = b from z]; exact np)) upd_same
      have hix : ∃ low : Int, atI [V.int 0, .int 0, .int mn2, .int v] v2 = some (.int low) ∧ 0 ≤ low ∧ ∀ z ∈ col l m, low ≤ z := by
        have hl0 : ∀ z ∈ col l m, (0 : Int) ≤ z := fun z hz => (hcz z hz).1
        obtain rfl | rfl | rfl | rfl : v2 = 0 ∨ v2 = 1 ∨ v2 = 2 ∨ v2 = 3 := by omega
        · exact ⟨0, rfl, by decide, hl0⟩
        · exact ⟨0, rfl, by decide, hl0⟩
        · exact ⟨mn2, rfl, n0, hmn2⟩
        · exact ⟨v, rfl, v0, fun z hz => by have := hmn2 z hz; omega⟩
      obtain ⟨low, ea, low0, low1⟩ := hix
      refine ⟨p, _, v2, _, rfl, rfl, SqL.of ep, ea, ?_⟩
      have g5 := g3.trans g4
      clear g3 g4 g2 ep np ea v21 v20 B2
      -- more
      refine ⟨_, _, rfl, rfl, ⟨by decide, by decide, by decide⟩, _, rfl, Dl, _, rfl, B3.sub.seq hLc, hc0, fun mx hmx hmx2 => ?_⟩
      obtain ⟨x0, x1⟩ := hcz mx hmx
      refine ⟨_, rfl, G1, b, bx, 3, B3, rfl, by decide, by decide, fun v3 H4 g6 B4 v30 v31 => ?_⟩
      refine ⟨_, _, rfl, rfl, _, _, rfl, ?_⟩
      -- the pair
      refine ⟨_, rfl, _, rfl, Dl, _, rfl, B4.sub.seq hLc, hc0, fun mx2 hmx3 hmx4 => ?_⟩
      obtain rfl : mx2 = mx := by have := hmx2 mx2 hmx3; have := hmx4 mx hmx; omega
      obtain ⟨mo, hmo⟩ : ∃ mo : Int, mo = if mx2 + v3 < (10 : Int) ^ (18 : Int).toNat then mx2 + v3 else (10 : Int) ^ (18 : Int).toNat := ⟨_, rfl⟩
      have hmo1 : mx2 ≤ mo := by
        rw [hmo]
        have e : (10 : Int) ^ (18 : Int).toNat = 1000000000000000000 := by decide
        rw [e]
        split <;> omega
      refine ⟨_, rfl, sz4, fun p np => ?_⟩
      have g7 := (g5.trans g6).loc (o := .lst [.non, .non, .int mx2, .int mo]) np
      rw [← hmo]
      refine ⟨_, rfl, G1, b, bx, 4, B4.loc np, rfl, by decide, by decide, fun v5 H5 g8 B5 v50 v51 => ?_⟩
      have ep := g8.keep p _ (fun z => B4.at_.nn (by rw [← show p = b from z]; exact np)) upd_same
      have hix : ∃ high : Option Int, atI [V.non, .non, .int mx2, .int mo] v5 = some (vOI high) ∧ ∀ h, high = some h → ∀ z ∈ col l m, z ≤ h := by
        obtain rfl | rfl | rfl | rfl : v5 = 0 ∨ v5 = 1 ∨ v5 = 2 ∨ v5 = 3 := by omega
        · exact ⟨none, rfl, fun _ h => by cases h⟩
        · exact ⟨none, rfl, fun _ h => by cases h⟩
        · exact ⟨some mx2, rfl, fun h e z hz => by cases e; exact hmx2 z hz⟩
        · exact ⟨some mo, rfl, fun h e z hz => by cases e; exact Int.le_trans (hmx2 z hz) hmo1⟩
      obtain ⟨high, ea, hh⟩ := hix
      refine ⟨p, _, v5, _, rfl, rfl, SqL.of ep, ea, ?_⟩
      refine ⟨sz2, fun pt npt => ?_⟩
      have hoi : Dp K (upd G1 pt (.tup [.int low, vOI high])) (vOI high) (dOI high) := by
        cases high with
        | none => exact .non
        | some h => exact .int h
      exact q _ low high _ _ ((g7.trans g8).lay npt) (B5.step (grow_new B5.sub npt) (B5.at_.up npt)) (dp_tpl upd_same (.cons (.int _) (.cons hoi .nil))) ⟨low0, low1, hh⟩
end
end Tw
end
section
set_option maxHeartbeats 8000000
namespace Tw
open PySem PySem.Spec PyProof.Rows L2
open Tf (psum psum_zero psum_succ Sat)
theorem word_t2 : decide ((.str (wordOf true) : V) = .str "least") = false := by decide +kernel
theorem word_f2 : decide ((.str (wordOf false) : V) = .str "least") = true := by decide +kernel
section
variable {P : Program} {w : World} {K : PySem.W.Frag} {mg : Str → Option Value} {base : Heap}
/-! ### _law_sums -/
abbrev sSumsL : Stmt := topS 46
abbrev nSumsL : List Str := ["_law_sizes_here", "_law_found", "_law_size_here"]
abbrev psSumsL : List Str := ["_law_sizes_here"]
theorem scSumsL : FnScope nSumsL psSumsL (defScope sSumsL) := ⟨rfl, rfl, rfl, by decide +kernel, rfl, by decide +kernel, by decide +kernel⟩
def spSumsL (K : PySem.W.Frag) : Sp := fun vs H Q _ => ∃ (G : Hp) (v : V) (zs : List Int), Same G H ∧ vs = [v] ∧ Dp K G v (dInts zs) ∧ zs.length ≤ 100 ∧ Gv K G H (dInts (pres zs zs.length)) Q
theorem ok_sumsL (D : Def K mg "_law_sums" sSumsL psSumsL) : Cal P w K mg base 1 "_law_sums" psSumsL (spSumsL K) := by
  refine D.ok scSumsL (fun vs H Q E h => ?_) (fun f cdv A outer s H vs Q E hr h => ?_)
  · obtain ⟨G, v, zs, _, rfl, _⟩ := h
    rfl
  · obtain ⟨G, v, zs, sG, rfl, hd, hl, q⟩ := h
    refine ⟨_, (pss_cons (ps_set (i := 1) scSumsL.nd rfl (.inl rfl) (pe_lst (pa_cons pe_int pa_nil)))
  (pss_cons (ps_for PassesOwn.never rfl (pi_list (pv 0)) (pg_name (i := 2) scSumsL.nd rfl (.inl rfl))
  (pss_one (ps_expr (pe_bm PySem.F.plainAttrs_list PySem.F.slot_list_append PySem.F.type_list_append mt_append (pv 1) (pa_cons (pe_op op_add (pe_ix (r := rIxL K) ix_list (pv 1) (pe_un un_neg pe_int) (fun _ _ => rfl)) (pv 2)) pa_nil)))))
  (pss_one (ps_ret (pv 1))))), ?_⟩
    obtain ⟨a, xs, rfl, hL, hA⟩ := dp_list hd
    have ex := of_dpa_ints hA
    subst ex
    refine ⟨sz1, fun p np => ?_⟩
    have gp : G p = none := same_none sG np
    refine ⟨_, rfl, a, rfl, ⟨_, (sG.trans (same_up np)).seq hL⟩, for_list (K := K) (a := a) (xs := zs.map V.int) (fun i σ H' => ∃ y2, σ = [some (.ref a), some (.ref p), y2] ∧ Grow M0 G H G H' ∧ H' p = some (.lst ((pres zs i).map V.int)))
      ⟨none, rfl, grow_loc sG np, upd_same⟩ (fun i σ H' _ hP => ?_) (fun i x σ H' hi hP => ?_) (fun σ H' hP => ?_)⟩
    · obtain ⟨y2, rfl, g, e⟩ := hP
      exact g.sub.seq hL
    · obtain ⟨y2, rfl, g, e⟩ := hP
      obtain ⟨z, hz, rfl⟩ := get_map hi
      refine ⟨.ref p, rfl, .inl ⟨rfl, _, SqL.of e⟩, .ref p, rfl, 1, rfl, p, _, -1, _, rfl, rfl, SqL.of e, pres_at_last _ _, _, rfl, _, _, rfl, rfl, p, _, _, rfl, rfl, e, ?_, ?_⟩
      · rw [List.length_map, pres_len]
        exact szl (by have := (List.getElem?_eq_some_iff.mp hz).1; omega)
      · refine ⟨_, rfl, g.mut np gp, ?_⟩
        rw [upd_same, pres_succ, psum_succ hz, List.map_append]
        rfl
    · obtain ⟨y2, rfl, g, e⟩ := hP
      rw [List.length_map] at e
      refine ⟨_, rfl, q _ _ _ (g.abs np gp e) (dp_lst upd_same (dpa_ints _))⟩
/-! ### _law_holds -/
abbrev sHolds : Stmt := topS 43
abbrev nHolds : List Str := ["_law_sizes_here", "_law_rows", "_law_sums_here", "_law_size_here", "_law_word", "_law_first", "_law_stop", "_law_value", "_law_whole"]
abbrev psHolds : List Str := ["_law_sizes_here", "_law_rows"]
theorem scHolds : FnScope nHolds psHolds (defScope sHolds) := ⟨rfl, rfl, rfl, by decide +kernel, rfl, by decide +kernel, by decide +kernel⟩
def spHolds (K : PySem.W.Frag) : Sp := fun vs H Q _ => ∃ (G : Hp) (v vr : V) (zs : List Int) (fs : List Tf.Fa), Same G H ∧ vs = [v, vr] ∧ Dp K G v (dInts zs) ∧ Dp K G vr (.list (fs.map dFa)) ∧ zs.length ≤ 100 ∧ (∀ f ∈ fs, f.a ≤ zs.length ∧ f.b ≤ zs.length) ∧ (∀ f ∈ fs, Sat (psum zs) f) ∧
  Gv K G H (.bool true) Q
theorem ok_holds (D : Def K mg "_law_holds" sHolds psHolds) : Cal P w K mg base 1 "_law_holds" psHolds (spHolds K) := by
  refine D.ok scHolds (fun vs H Q E h => ?_) (fun f cdv A outer s H vs Q E hr h => ?_)
  · obtain ⟨G, v, vr, zs, fs, _, rfl, _⟩ := h
    rfl
  · obtain ⟨G, v, vr, zs, fs, sG, rfl, hd, hdr, hl, inn, sat, q⟩ := h
    refine ⟨_, (pss_cons (ps_set (i := 2) scHolds.nd rfl (.inl rfl) (pe_lst (pa_cons pe_int pa_nil)))
  (pss_cons (ps_for PassesOwn.never rfl (pi_list (pv 0)) (pg_name (i := 3) scHolds.nd rfl (.inl rfl))
  (pss_one (ps_expr (pe_bm PySem.F.plainAttrs_list PySem.F.slot_list_append PySem.F.type_list_append mt_append (pv 2) (pa_cons (pe_op op_add (pe_ix (r := rIxL K) ix_list (pv 2) (pe_un un_neg pe_int) (fun _ _ => rfl)) (pv 3)) pa_nil)))))
  (pss_cons (ps_for PassesOwn.never rfl (pi_list (pv 1)) (pg_tup rfl (pgs_cons (pg_name (i := 4) scHolds.nd rfl (.inl rfl)) (pgs_cons (pg_tup rfl (pgs_cons (pg_name (i := 5) scHolds.nd rfl (.inl rfl)) (pgs_cons (pg_name (i := 6) scHolds.nd rfl (.inl rfl)) pgs_nil))) (pgs_cons (pg_name (i := 7) scHolds.nd rfl (.inl rfl)) pgs_nil))))
  (pss_cons (ps_set (i := 8) scHolds.nd rfl (.inl rfl) (pe_op op_sub (pe_ix (r := rIxL K) ix_list (pv 2) (pv 6) (fun _ _ => rfl)) (pe_ix (r := rIxL K) ix_list (pv 2) (pv 5) (fun _ _ => rfl))))
  (pss_one (ps_if (PW.pt (pw_or (PW.pt (pw_and (pt_cmpR op_eq (pv 4) pe_str (nomark _)) (pw_and1 (pt_cmpR op_gt (pv 8) (pv 7) (nomark _))))) (pw_or1 (PW.pt (pw_and (pt_cmpR op_eq (pv 4) pe_str (nomark _)) (pw_and1 (pt_cmpR op_lt (pv 8) (pv 7) (nomark _))))))))
  (pss_one (ps_ret pe_bl))
  pss_nil))))
  (pss_one (ps_ret pe_bl))))), ?_⟩
    obtain ⟨a, xs, rfl, hL, hA⟩ := dp_list hd
    have ex := of_dpa_ints hA
    subst ex
    obtain ⟨ar, rxs, rfl, hLr, hAr⟩ := dp_list hdr
    refine ⟨sz1, fun p np => ?_⟩
    have gp : G p = none := same_none sG np
    refine ⟨_, rfl, a, rfl, ⟨_, (sG.trans (same_up np)).seq hL⟩, for_list (K := K) (a := a) (xs := zs.map V.int) (fun i σ H' => ∃ y3, σ = [some (.ref a), some (.ref ar), some (.ref p), y3, none, none, none, none, none] ∧ Grow M0 G H G H' ∧ H' p = some (.lst ((pres zs i).map V.int)))
      ⟨none, rfl, grow_loc sG np, upd_same⟩ (fun i σ H' _ hP => ?_) (fun i x σ H' hi hP => ?_) (fun σ H' hP => ?_)⟩
    · obtain ⟨y2, rfl, g, e⟩ := hP
      exact g.sub.seq hL
    · obtain ⟨y2, rfl, g, e⟩ := hP
      obtain ⟨z, hz, rfl⟩ := get_map hi
      refine ⟨.ref p, rfl, .inl ⟨rfl, _, SqL.of e⟩, .ref p, rfl, 1, rfl, p, _, -1, _, rfl, rfl, SqL.of e, pres_at_last _ _, _, rfl, _, _, rfl, rfl, p, _, _, rfl, rfl, e, ?_, ?_⟩
      · rw [List.length_map, pres_len]
        exact szl (by have := (List.getElem?_eq_some_iff.mp hz).1; omega)
      · refine ⟨_, rfl, g.mut np gp, ?_⟩
        rw [upd_same, pres_succ, psum_succ hz, List.map_append]
        rfl
    · obtain ⟨y3, rfl, g, e⟩ := hP
      rw [List.length_map] at e
      refine ⟨_, rfl, ar, rfl, ⟨_, g.sub.seq hLr⟩, for_list (K := K) (a := ar) (xs := rxs) (fun i σ H2 => ∃ y4 y5 y6 y7 y8, σ = [some (.ref a), some (.ref ar), some (.ref p), y3, y4, y5, y6, y7, y8] ∧ H' = H2)
        ⟨none, none, none, none, none, rfl, rfl⟩ (fun i σ H2 _ hP => ?_) (fun i x σ H2 hi hP => ?_) (fun σ H2 hP => ?_)⟩
      · obtain ⟨y4, y5, y6, y7, y8, rfl, rfl⟩ := hP
        exact g.sub.seq hLr
      · obtain ⟨y4, y5, y6, y7, y8, rfl, rfl⟩ := hP
        obtain ⟨d0, hd0, hv⟩ := dpa_getV hAr hi
        obtain ⟨fa, hfa, rfl⟩ := get_map hd0
        have hmem : fa ∈ fs := List.mem_of_getElem? hfa
        obtain ⟨ia, ib⟩ := inn fa hmem
        have hs := sat fa hmem
        obtain ⟨a1, b1, rfl, hT1, hT2⟩ := dp_fa hv
        refine ⟨a1, _, rfl, Same.tup g.sub hT1, rfl, _, _, rfl, _, _, rfl, ⟨b1, _, rfl, Same.tup g.sub hT2, rfl, _, _, rfl, _, _, rfl, rfl, _, _, rfl, rfl, ?_⟩⟩
        have gs : ((pres zs zs.length).map V.int)[fa.b]? = some (.int (psum zs fa.b)) := by rw [List.getElem?_map, pres_get ib]; rfl
        have gf : ((pres zs zs.length).map V.int)[fa.a]? = some (.int (psum zs fa.a)) := by rw [List.getElem?_map, pres_get ia]; rfl
        refine ⟨_, rfl, _, rfl, p, _, (fa.b : Nat), _, rfl, rfl, SqL.of e, atI_nat gs, _, rfl, _, rfl, p, _, (fa.a : Nat), _, rfl, rfl, SqL.of e, atI_nat gf, _, _, rfl, rfl, ?_⟩
        cases hm : fa.mst with
        | true =>
          have hs2 : psum zs fa.b - psum zs fa.a ≤ fa.v := by
            unfold Sat at hs
            rw [if_pos hm] at hs
            exact hs
          refine ⟨_, rfl, rfl, _, rfl, ?_⟩
          rw [word_t]
          refine iteT ⟨_, rfl, _, rfl, _, _, rfl, rfl, _, rfl, ?_⟩
          rw [decide_eq_false (show ¬ fa.v < psum zs fa.b - psum zs fa.a by omega)]
          refine iteF ⟨_, rfl, rfl, _, rfl, ?_⟩
          rw [word_t2]
          exact iteF (iteF ⟨_, _, _, _, _, rfl, rfl⟩)
        | false =>
          have hs2 : fa.v ≤ psum zs fa.b - psum zs fa.a := by
            unfold Sat at hs
            rw [if_neg (by rw [hm]; exact Bool.false_ne_true)] at hs
            exact hs
          refine ⟨_, rfl, rfl, _, rfl, ?_⟩
          rw [word_f]
          refine iteF ⟨_, rfl, rfl, _, rfl, ?_⟩
          rw [word_f2]
          refine iteT ⟨_, rfl, _, rfl, _, _, rfl, rfl, _, rfl, ?_⟩
          rw [decide_eq_false (show ¬ psum zs fa.b - psum zs fa.a < fa.v by omega)]
          exact iteF ⟨_, _, _, _, _, rfl, rfl⟩
      · obtain ⟨y4, y5, y6, y7, y8, rfl, rfl⟩ := hP
        exact q _ _ _ g (.bl true)
/-! ### _law_sizes -/
abbrev sSizesL : Stmt := topS 44
abbrev nSizesL : List Str := ["_law_thing", "_law_many", "_law_size_here"]
abbrev psSizesL : List Str := ["_law_thing", "_law_many"]
theorem scSizesL : FnScope nSizesL psSizesL (defScope sSizesL) := ⟨rfl, rfl, rfl, by decide +kernel, rfl, by decide +kernel, by decide +kernel⟩
def spSizesL (K : PySem.W.Frag) : Sp := fun vs H Q _ => ∃ (G : Hp) (v : V) (zs : List Int), Same G H ∧ vs = [v, .int zs.length] ∧ Dp K G v (dInts zs) ∧ zs.length ≤ 100 ∧ (∀ z ∈ zs, 0 ≤ z) ∧ Gv K G H (.bool true) Q
theorem ok_sizesL (D : Def K mg "_law_sizes" sSizesL psSizesL) (z_isinstance : mg "isinstance" = none) (z_list : mg "list" = none) (z_len : mg "len" = none) (z_all : mg "all" = none) (z_int : mg "int" = none) (z_bool : mg "bool" = none) : Cal P w K mg base 1 "_law_sizes" psSizesL (spSizesL K) := by
  refine D.ok scSizesL (fun vs H Q E h => ?_) (fun f cdv A outer s H vs Q E hr h => ?_)
  · obtain ⟨G, v, zs, _, rfl, _⟩ := h
    rfl
  · obtain ⟨G, v, zs, sG, rfl, hd, hl, h0, q⟩ := h
    refine ⟨_, (pss_cons (ps_if (PW.pt (pw_or (pt_not (pt_val (pe_callB (r := rIsi K) call_isi (by rfl) z_isinstance (by decide +kernel) (pa_cons (pv 0) (pa_cons (pe_bltn (v := .ty "list") (u := .type "list") (by rfl) z_list (by decide +kernel) rfl) pa_nil))))) (pw_or1 (pt_cmpR op_ne (pe_callB (r := rLn K) call_len_seq (by rfl) z_len PySem.boot_len (pa_cons (pv 0) pa_nil)) (pv 1) (nomark _)))))
  (pss_one (ps_ret pe_bl))
  pss_nil)
  (pss_one (ps_ret (pe_callB (r := rAll K) (cr_all rfl) (by rfl) z_all (by decide +kernel) (pa_cons (pe_lc (own := [("_law_size_here", 2)]) (g := (gName 2)) (tt := tYes) rfl scSizesL.nd (pi_list (pv 0)) (blkOk_by (N := nSizesL) (sc := defScope sSizesL) (by decide +kernel)) (fun _ _ _ _ _ => (pg_name (i := 2) scSizesL.nd rfl (.inl rfl))) (fun _ _ _ _ _ => pts_nil) (fun _ _ _ _ _ => (pe_and (pe_callB (r := rIsi K) call_isi (by rfl) z_isinstance (by decide +kernel) (pa_cons (pv 2) (pa_cons (pe_bltn (v := .ty "int") (u := .type "int") (by rfl) z_int (by decide +kernel) rfl) pa_nil))) (pe_and (pe_not (pe_callB (r := rIsi K) call_isi (by rfl) z_isinstance (by decide +kernel) (pa_cons (pv 2) (pa_cons (pe_bltn (v := .ty "bool") (u := .type "bool") (by rfl) z_bool (by decide +kernel) rfl) pa_nil)))) (pe_one (pe_cmpR op_ge (pv 2) pe_int (nomark _))))))) pa_nil))))), ?_⟩
    obtain ⟨a, xs, rfl, hL, hA⟩ := dp_list hd
    have ex := of_dpa_ints hA
    subst ex
    refine ⟨_, rfl, _, _, _, _, true, rfl, .ty "list", tyx_lst (sG.seq hL), kit_ty (by decide +kernel), true, rfl, iteF ?_⟩
    refine ⟨_, rfl, a, _, rfl, .inl (sG.seq hL), _, rfl, rfl, _, rfl, ?_⟩
    rw [List.length_map, decide_eq_true rfl]
    refine iteF ?_
    refine ⟨_, rfl, a, rfl, ⟨_, sG.seq hL⟩, fun Dl hDl => lc_loc (K := K) (Q := fun x H1 => tNil _ H1 fun xs H2 => rAll K (x :: xs) H2 Q) (walk_list (K := K) (a := a) (xs := zs.map V.int)) (zs.map fun _ => PyData.bool true) sG hDl (by simp) (by rw [List.length_map]; omega) (fun G1 H1 g => g.sub.seq (g.gg.seq hL)) (fun i x G1 H1 H1' d hi g1 y E hE => ?_) (fun G' H' acc g' gn e hacc => ?_) gm_name⟩
    · obtain ⟨rfl, hxi⟩ := y
      obtain ⟨z, hz, rfl⟩ := get_map hxi
      obtain ⟨z', hz', rfl⟩ := get_map hi
      have hz0 := h0 z (List.mem_of_getElem? hz)
      refine ⟨rfl, ?_⟩
      refine ⟨_, rfl, _, _, _, _, true, rfl, .ty "int", .base (.int z), kit_ty (by decide +kernel), true, rfl, iteT ?_⟩
      refine ⟨_, rfl, _, _, _, _, false, rfl, .ty "bool", .base (.int z), kit_ty (by decide +kernel), false, rfl, true, rfl, iteT ?_⟩
      refine ⟨_, rfl, _, _, rfl, rfl, ?_⟩
      show E (V.bl (decide ((0 : Int) ≤ z))) H1'
      rw [decide_eq_true hz0]
      exact hE _ _ _ (Grow.refl g1.sub) (.bl true)
    · have e2 : acc = (zs.map fun _ => true).map V.bl := by
        have aux : ∀ (ns : List Int) (acc : List V), DpAll K G' acc (ns.map fun _ => PyData.bool true) → acc = (ns.map fun _ => true).map V.bl := by
          intro ns
          induction ns with
          | nil => intro acc h; cases h; rfl
          | cons n ns ih =>
            intro acc h
            cases h with
            | cons h1 h2 =>
              rw [dp_bl h1, ih _ h2]
              rfl
        exact aux zs acc hacc
      refine ⟨Dl, zs.map fun _ => true, rfl, by rw [← e2]; exact SqL.of e, ?_⟩
      have e3 : (zs.map fun _ => true).all id = true := by simp
      rw [e3]
      exact q _ _ _ g' (.bl true)
end
end Tw
end
section
set_option maxHeartbeats 8000000
namespace Tw
open PySem PySem.Spec PyProof.Rows L2
open Tf (psum psum_zero psum_succ Sat Agr Ok lts difs spr)
def mn2 (a b : Int) : Int := if b < a then b else a
def lowr (zs ys : List Int) : List Int := (List.range zs.length).map fun i => mn2 (psum zs (i + 1)) (psum ys (i + 1)) - mn2 (psum zs i) (psum ys i)
theorem lowr_len (zs ys : List Int) : (lowr zs ys).length = zs.length := by unfold lowr; rw [List.length_map, List.length_range]
theorem pres_getV {zs : List Int} {i : Nat} {x : V} (h : ((pres zs zs.length).map V.int)[i]? = some x) : i ≤ zs.length ∧ x = .int (psum zs i) := by
  obtain ⟨z, hz, rfl⟩ := get_map h
  have hl : i ≤ zs.length := by
    have := (List.getElem?_eq_some_iff.mp hz).1
    rw [pres_len] at this
    omega
  rw [pres_get hl] at hz
  cases hz
  exact ⟨hl, rfl⟩
section
variable {P : Program} {w : World} {K : PySem.W.Frag} {mg : Str → Option Value} {base : Heap}
/-! ### _law_below -/
abbrev sBelow : Stmt := topS 47
abbrev nBelow : List Str := ["_law_one", "_law_other", "_law_first", "_law_second"]
abbrev psOO : List Str := ["_law_one", "_law_other"]
theorem scBelow : FnScope nBelow psOO (defScope sBelow) := ⟨rfl, rfl, rfl, by decide +kernel, rfl, by decide +kernel, by decide +kernel⟩
def spBelow (K : PySem.W.Frag) : Sp := fun vs H Q _ => ∃ (G : Hp) (v v' : V) (zs ys : List Int), Same G H ∧ vs = [v, v'] ∧ Dp K G v (dInts zs) ∧ Dp K G v' (dInts ys) ∧ zs.length ≤ 100 ∧ ys.length = zs.length ∧ (∀ i, i ≤ zs.length → psum zs i ≤ psum ys i) ∧ Gv K G H (.bool true) Q
theorem ok_below (D : Def K mg "_law_below" sBelow psOO) (C__law_sums : Cal P w K mg base 1 "_law_sums" psSumsL (spSumsL K)) (z_all : mg "all" = none) (z_zip : mg "zip" = none) : Cal P w K mg base 2 "_law_below" psOO (spBelow K) := by
  refine D.ok scBelow (fun vs H Q E h => ?_) (fun f cdv A outer s H vs Q E hr h => ?_)
  · obtain ⟨G, v, v', zs, ys, _, rfl, _⟩ := h
    rfl
  · obtain ⟨G, v, v', zs, ys, sG, rfl, hd, hd', hl, hly, hb, q⟩ := h
    refine ⟨_, (pss_one (ps_ret (pe_callB (r := rAll K) (cr_all rfl) (by rfl) z_all (by decide +kernel) (pa_cons (pe_lc (own := [("_law_first", 2), ("_law_second", 3)]) (g := (gTup K 2 (gCons (gName 2) (gCons (gName 3) gNil)))) (tt := tYes) rfl scBelow.nd (pi_zip (by rfl) z_zip (pa_cons (pe_cal C__law_sums (hr.mono (by decide)) (by rfl) (pa_cons (pv 0) pa_nil)) (pa_cons (pe_cal C__law_sums (hr.mono (by decide)) (by rfl) (pa_cons (pv 1) pa_nil)) pa_nil))) (blkOk_by (N := nBelow) (sc := defScope sBelow) (by decide +kernel)) (fun _ _ _ _ _ => (pg_tup rfl (pgs_cons (pg_name (i := 2) scBelow.nd rfl (.inl rfl)) (pgs_cons (pg_name (i := 3) scBelow.nd rfl (.inl rfl)) pgs_nil)))) (fun _ _ _ _ _ => pts_nil) (fun _ _ _ _ _ => (pe_cmpR op_le (pv 2) (pv 3) (nomark _)))) pa_nil)))), ?_⟩
    refine ⟨_, rfl, G, v, zs, sG, rfl, hd, hl, fun u1 G1 H1 g1 h1 => ?_⟩
    refine ⟨_, rfl, G1, v', ys, g1.sub, rfl, dp_mono g1.gg hd', by omega, fun u2 G2 H2 g2 h2 => ?_⟩
    obtain ⟨a1, xs1, rfl, hL1, hA1⟩ := dp_list h1
    obtain ⟨a2, xs2, rfl, hL2, hA2⟩ := dp_list h2
    have e1 := of_dpa_ints hA1
    have e2 := of_dpa_ints hA2
    subst e1 e2
    have s1 := g2.gg.seq hL1
    refine ⟨a1, a2, _, _, rfl, g2.sub.seq s1, g2.sub.seq hL2, fun Dl hDl => ?_⟩
    refine lc_loc (K := K) (Q := fun x H1 => tNil _ H1 fun xs H2 => rAll K (x :: xs) H2 Q) (walk_zip (n := zs.length + 1) (xs := (pres zs zs.length).map V.int) (ys := (pres ys ys.length).map V.int) (by rw [List.length_map, List.length_map, pres_len, pres_len]; omega)) ((List.range (zs.length + 1)).map fun _ => PyData.bool true) g2.sub hDl (by simp) (by omega)
      (fun G3 H3 g => ⟨g.sub.seq (g.gg.seq s1), g.sub.seq (g.gg.seq hL2)⟩) (fun i x G3 H3 H3' d hi g3 y E hE => ?_) (fun G' H' acc g' gn e hacc => ?_) (gm_tup (gms_cons gm_name (gms_cons gm_name gms_nil)))
    · obtain ⟨T, x1, x2, rfl, nT, rfl, f1, f2⟩ := y
      obtain ⟨hi1, rfl⟩ := pres_getV f1
      obtain ⟨hi2, rfl⟩ := pres_getV f2
      obtain ⟨_, rfl⟩ := range_get hi
      refine ⟨T, _, rfl, SqT.of upd_same, rfl, _, _, rfl, _, _, rfl, rfl, rfl, ?_⟩
      refine ⟨_, rfl, _, rfl, _, _, rfl, rfl, ?_⟩
      show E (V.bl (decide (psum zs i ≤ psum ys i))) _
      rw [decide_eq_true (hb i hi1)]
      exact hE _ _ _ (grow_new g3.sub nT) (.bl true)
    · have e2 : acc = ((List.range (zs.length + 1)).map fun _ => true).map V.bl := by
        have aux : ∀ (ns : List Nat) (acc : List V), DpAll K G' acc (ns.map fun _ => PyData.bool true) → acc = (ns.map fun _ => true).map V.bl := by
          intro ns
          induction ns with
          | nil => intro acc h; cases h; rfl
          | cons n ns ih =>
            intro acc h
            cases h with
            | cons h1 h2 =>
              rw [dp_bl h1, ih _ h2]
              rfl
        exact aux _ acc hacc
      refine ⟨Dl, (List.range (zs.length + 1)).map fun _ => true, rfl, by rw [← e2]; exact SqL.of e, ?_⟩
      have e3 : ((List.range (zs.length + 1)).map fun _ => true).all id = true := by simp
      rw [e3]
      exact q _ _ _ ((g1.trans g2).trans g') (.bl true)
/-! ### _law_lower -/
abbrev sLower : Stmt := topS 48
abbrev nLower : List Str := ["_law_one", "_law_other", "_law_sums_here", "_law_first", "_law_second", "_law_at"]
theorem scLower : FnScope nLower psOO (defScope sLower) := ⟨rfl, rfl, rfl, by decide +kernel, rfl, by decide +kernel, by decide +kernel⟩
def spLower (K : PySem.W.Frag) : Sp := fun vs H Q _ => ∃ (G : Hp) (v v' : V) (zs ys : List Int), Same G H ∧ vs = [v, v'] ∧ Dp K G v (dInts zs) ∧ Dp K G v' (dInts ys) ∧ zs.length ≤ 100 ∧ ys.length = zs.length ∧ Gv K G H (dInts (lowr zs ys)) Q
theorem ok_lower (D : Def K mg "_law_lower" sLower psOO) (C__law_sums : Cal P w K mg base 1 "_law_sums" psSumsL (spSumsL K)) (z_min : mg "min" = none) (z_zip : mg "zip" = none) (z_len : mg "len" = none) (z_range : mg "range" = none) : Cal P w K mg base 2 "_law_lower" psOO (spLower K) := by
  refine D.ok scLower (fun vs H Q E h => ?_) (fun f cdv A outer s H vs Q E hr h => ?_)
  · obtain ⟨G, v, v', zs, ys, _, rfl, _⟩ := h
    rfl
  · obtain ⟨G, v, v', zs, ys, sG, rfl, hd, hd', hl, hly, q⟩ := h
    refine ⟨_, (pss_cons (ps_set (i := 2) scLower.nd rfl (.inr rfl) (pe_lc (own := [("_law_first", 3), ("_law_second", 4)]) (g := (gTup K 2 (gCons (gName 3) (gCons (gName 4) gNil)))) (tt := tYes) rfl scLower.nd (pi_zip (by rfl) z_zip (pa_cons (pe_cal C__law_sums (hr.mono (by decide)) (by rfl) (pa_cons (pv 0) pa_nil)) (pa_cons (pe_cal C__law_sums (hr.mono (by decide)) (by rfl) (pa_cons (pv 1) pa_nil)) pa_nil))) (blkOk_by (N := nLower) (sc := defScope sLower) (by decide +kernel)) (fun _ _ _ _ _ => (pg_tup rfl (pgs_cons (pg_name (i := 3) scLower.nd rfl (.inl rfl)) (pgs_cons (pg_name (i := 4) scLower.nd rfl (.inl rfl)) pgs_nil)))) (fun _ _ _ _ _ => pts_nil) (fun _ _ _ _ _ => (pe_callB (call_min2 rfl) (by rfl) z_min (by decide +kernel) (pa_cons (pv 3) (pa_cons (pv 4) pa_nil))))))
  (pss_one (ps_ret (pe_lc (own := [("_law_at", 5)]) (g := (gName 5)) (tt := tYes) rfl scLower.nd (pi_range1 (by rfl) z_range (pa_cons (pe_callB (r := rLn K) call_len_seq (by rfl) z_len PySem.boot_len (pa_cons (pv 0) pa_nil)) pa_nil)) (blkOk_by (N := nLower) (sc := defScope sLower) (by decide +kernel)) (fun _ _ _ _ _ => (pg_name (i := 5) scLower.nd rfl (.inl rfl))) (fun _ _ _ _ _ => pts_nil) (fun _ _ _ _ _ => (pe_op op_sub (pe_ix (r := rIxL K) ix_list (pv 2) (pe_op op_add (pv 5) pe_int) (fun _ _ => rfl)) (pe_ix (r := rIxL K) ix_list (pv 2) (pv 5) (fun _ _ => rfl)))))))), ?_⟩
    refine ⟨_, rfl, G, v, zs, sG, rfl, hd, hl, fun u1 G1 H1 g1 h1 => ?_⟩
    refine ⟨_, rfl, G1, v', ys, g1.sub, rfl, dp_mono g1.gg hd', by omega, fun u2 G2 H2 g2 h2 => ?_⟩
    obtain ⟨a1, xs1, rfl, hL1, hA1⟩ := dp_list h1
    obtain ⟨a2, xs2, rfl, hL2, hA2⟩ := dp_list h2
    have e1 := of_dpa_ints hA1
    have e2 := of_dpa_ints hA2
    subst e1 e2
    have s1 := g2.gg.seq hL1
    refine ⟨a1, a2, _, _, rfl, g2.sub.seq s1, g2.sub.seq hL2, fun Dl hDl => ?_⟩
    refine lc_pure (K := K) (Q := fun x H1 => gName 2 x _ H1 _) (walk_zip (n := zs.length + 1) (xs := (pres zs zs.length).map V.int) (ys := (pres ys ys.length).map V.int) (by rw [List.length_map, List.length_map, pres_len, pres_len]; omega)) (((List.range (zs.length + 1)).map fun i => mn2 (psum zs i) (psum ys i)).map PyData.int) g2.sub hDl (by simp) (by omega)
      (fun G3 H3 g => ⟨g.sub.seq (g.gg.seq s1), g.sub.seq (g.gg.seq hL2)⟩) (fun i x G3 H3 H3' d hi g3 y E hE => ?_) (fun G3 H3 g3 hd3 => ?_) (gm_tup (gms_cons gm_name (gms_cons gm_name gms_nil)))
    · obtain ⟨T, x1, x2, rfl, nT, rfl, f1, f2⟩ := y
      obtain ⟨hi1, rfl⟩ := pres_getV f1
      obtain ⟨hi2, rfl⟩ := pres_getV f2
      obtain ⟨z, hz, rfl⟩ := get_map hi
      obtain ⟨_, rfl⟩ := range_get hz
      refine ⟨T, _, rfl, SqT.of upd_same, rfl, _, _, rfl, _, _, rfl, rfl, rfl, ?_⟩
      exact ⟨_, rfl, _, rfl, _, _, rfl, hE _ _ _ (grow_new g3.sub nT) (.int _)⟩
    · obtain ⟨a3, xs3, e3, hL3, hA3⟩ := dp_list hd3
      cases e3
      have e3 := of_dpa_ints hA3
      subst e3
      obtain ⟨av, avs, rfl, hLv, hAv⟩ := dp_list hd
      have e4 := of_dpa_ints hAv
      subst e4
      have g03 := (g1.trans g2).trans g3
      refine ⟨_, rfl, av, _, rfl, .inl (g03.sub.seq (g03.gg.seq hLv)), _, rfl, by rw [List.length_map]; omega, by rw [List.length_map]; omega, fun D2 hD2 => ?_⟩
      have en : (((zs.map V.int).length : Int)).toNat = zs.length := by rw [List.length_map]; omega
      rw [en]
      refine lc_pure (K := K) (Q := Q) (walk_range (lo := 0) (n := zs.length)) ((lowr zs ys).map PyData.int) g3.sub hD2 (by rw [List.length_map, lowr_len]) (by omega) (fun G3 H3 g => trivial) (fun i x G4 H4 H4' d hi g4 y E hE => ?_) (fun G4 H4 g4 hd4 => ?_) gm_name
      · obtain ⟨rfl, rfl⟩ := y
        obtain ⟨z, hz, rfl⟩ := get_map hi
        unfold lowr at hz
        obtain ⟨hil, rfl⟩ := range_get hz
        have gt : ∀ j, j ≤ zs.length → (((List.range (zs.length + 1)).map fun i => mn2 (psum zs i) (psum ys i)).map V.int)[j]? = some (.int (mn2 (psum zs j) (psum ys j))) := fun j hj => by
          rw [List.getElem?_map, range_at (by omega)]; rfl
        have hL4 : SqL K H4' Dl _ := g4.sub.seq (g4.gg.seq hL3)
        have e0 : (0 : Int) + (i : Int) = (i : Int) := by omega
        have e01 : (i : Int) + 1 = ((i + 1 : Nat) : Int) := by omega
        show gName 5 (V.int (0 + (i : Int))) _ _ _
        rw [e0]
        refine ⟨rfl, _, rfl, _, rfl, _, _, rfl, rfl, Dl, _, ((i + 1 : Nat) : Int), _, rfl, rfl, hL4, atI_nat (gt (i + 1) (by omega)), _, rfl, _, rfl, Dl, _, (i : Nat), _, rfl, rfl, hL4, atI_nat (gt i (by omega)), _, _, rfl, rfl, ?_⟩
        exact hE _ _ _ (Grow.refl g4.sub) (.int _)
      · exact q _ _ _ (g03.trans g4) hd4
end
end Tw
end
section
set_option maxHeartbeats 8000000
namespace Tw
open PySem PySem.Spec PyProof.Rows L2
open Tf (psum psum_zero psum_succ Sat Agr Ok lts difs spr)
theorem cut_nat {c : List Int} {a b : Nat} (h : a ≤ b) (hb : b ≤ c.length) : cutV (c.map V.int) (some (a : Int)) (some (b : Int)) = ((c.drop a).take (b - a)).map V.int := by
  unfold cutV
  rw [HT.sIx_nat, HT.sIx_nat, List.length_map, Nat.min_eq_left (by omega : a ≤ c.length), Nat.min_eq_left hb, List.map_take, List.map_drop]
theorem tseq_lst {ta : TE} {tr : TA} {i : Nat} {u : TS} {D : Ends} {σ : L2.St} {H : Hp} (R : V → Hp → Prop) (h2 : ∀ x H', R x H' → tr σ H' fun xs H2 => (x :: xs).length ≤ sizeLine ∧ ∀ p, H2 p = none → u D (σ.set i (some (.ref p))) (upd H2 p (.lst (x :: xs))))
    (h1 : (∀ x H', R x H' → tr σ H' fun xs H2 => (x :: xs).length ≤ sizeLine ∧ ∀ p, H2 p = none → u D (σ.set i (some (.ref p))) (upd H2 p (.lst (x :: xs)))) → ta σ H fun x H1 => tr σ H1 fun xs H2 => (x :: xs).length ≤ sizeLine ∧ ∀ p, H2 p = none → u D (σ.set i (some (.ref p))) (upd H2 p (.lst (x :: xs)))) :
    tSeq (tAsg (tLst (tCons ta tr)) (gName i)) u D σ H := h1 h2
section
variable {P : Program} {w : World} {K : PySem.W.Frag} {mg : Str → Option Value} {base : Heap}
/-! ### _law_others -/
abbrev sOthers : Stmt := topS 49
abbrev nOthers : List Str := ["_law_bag_here", "_law_tiers_here", "_law_seen_here", "_law_measure", "_law_known", "_law_sizes_here", "_law_bottom", "_law_top", "_law_first", "_law_stretch", "_law_high_one", "_law_low_one", "_law_found", "_law_whole"]
abbrev psOthers : List Str := ["_law_bag_here", "_law_tiers_here", "_law_seen_here", "_law_measure", "_law_known", "_law_sizes_here"]
theorem scOthers : FnScope nOthers psOthers (defScope sOthers) := ⟨rfl, rfl, rfl, by decide +kernel, rfl, by decide +kernel, by decide +kernel⟩
def spOthers (K : PySem.W.Frag) : Sp := fun vs H Q _ => ∃ (G : Hp) (b bx : Addr) (vt v vk vz : V) (ts : Tiers) (t : Tf.Tab) (m : Nat) (low : Int) (high : Option Int) (c : List Int), BG K b bx G H ∧ vs = [.ref b, vt, v, .int m, vk, vz] ∧ Dp K G vt (dTiers ts) ∧ Dp K G v (dSeen t) ∧
  Dp K G vk (.tuple [.int low, dOI high]) ∧ Dp K G vz (dInts c) ∧ Tf.Valid ts.length t ∧ ts.length ≤ 10 ∧ t.length ≤ 100 ∧ Ok (Tf.factsM ts t m low high) (t.length + 1) ∧ Agr (Tf.factsM ts t m low high) (t.length + 1) c ∧
  ∀ p x1 x2 x3 z1 z2 z3 G' H', Grow (Mb b) G H G' H' → BG K b bx G' H' → H p = none → G' p = none → H' p = some (.lst [x1, x2, x3]) → Dp K G' x1 (dInts z1) → Dp K G' x2 (dInts z2) → Dp K G' x3 (dInts z3) →
    Agr (Tf.factsM ts t m low high) (t.length + 1) z1 → Agr (Tf.factsM ts t m low high) (t.length + 1) z2 → Agr (Tf.factsM ts t m low high) (t.length + 1) z3 → Q (.ref p) H'
theorem dp_oi {H : Hp} {v : V} {o : Option Int} (h : Dp K H v (dOI o)) : v = vOI o := by
  cases o with
  | none => exact dp_non h
  | some x => exact dp_int h
theorem ok_others (D : Def K mg "_law_others" sOthers psOthers) (C__law_take : Cal P w K mg base 1 "_law_take" psBM (spTake K)) (C_greatest : CalK P w K mg base 6 "greatest" psTSS 4 (spGreat K)) (C_least : CalK P w K mg base 6 "least" psTSS 4 (spLeastT K)) (C_sizes_with : CalK P w K mg base 5 "sizes_with" psTSV 5 (spWith K))
    (z_len : mg "len" = none) (z_sum : mg "sum" = none) : Cal P w K mg base 7 "_law_others" psOthers (spOthers K) := by
  refine D.ok scOthers (fun vs H Q E h => ?_) (fun f cdv A outer s H vs Q E hr h => ?_)
  · obtain ⟨G, b, bx, vt, v, vk, vz, ts, t, m, low, high, c, _, rfl, _⟩ := h
    rfl
  · obtain ⟨G, b, bx, vt, v, vk, vz, ts, t, m, low, high, c, B, rfl, hdt, hds, hdk, hdz, hv, hk, hn, ok, ag, q⟩ := h
    refine ⟨_, (pss_cons (ps_asg (pv 4) (pg_tup rfl (pgs_cons (pg_name (i := 6) scOthers.nd rfl (.inl rfl)) (pgs_cons (pg_name (i := 7) scOthers.nd rfl (.inl rfl)) pgs_nil))))
  (pss_cons (ps_set (i := 8) scOthers.nd rfl (.inl rfl) (pe_cal C__law_take (hr.mono (by decide)) (by rfl) (pa_cons (pv 0) (pa_cons (pe_op op_add (pe_callB (r := rLn K) call_len_seq (by rfl) z_len PySem.boot_len (pa_cons (pv 2) pa_nil)) pe_int) pa_nil))))
  (pss_cons (ps_set (i := 9) scOthers.nd rfl (.inl rfl) (pe_tup (pa_cons (pv 8) (pa_cons (pe_op op_add (pv 8) (pe_cal C__law_take (hr.mono (by decide)) (by rfl) (pa_cons (pv 0) (pa_cons (pe_op op_add (pe_op op_sub (pe_callB (r := rLn K) call_len_seq (by rfl) z_len PySem.boot_len (pa_cons (pv 2) pa_nil)) (pv 8)) pe_int) pa_nil)))) pa_nil))))
  (pss_cons (ps_set (i := 10) scOthers.nd rfl (.inl rfl) (pe_calK C_greatest (hr.mono (by decide)) (by rfl) (pa_cons (pv 1) (pa_cons (pv 2) (pa_cons (pv 3) (pa_cons (pv 9) pa_nil)))) (pk_cons (pv 6) (pk_cons (pv 7) pk_nil))))
  (pss_cons (ps_set (i := 11) scOthers.nd rfl (.inl rfl) (pe_calK C_least (hr.mono (by decide)) (by rfl) (pa_cons (pv 1) (pa_cons (pv 2) (pa_cons (pv 3) (pa_cons (pv 9) pa_nil)))) (pk_cons (pv 6) (pk_cons (pv 7) pk_nil))))
  (pss_cons (ps_set (i := 12) scOthers.nd rfl (.inl rfl) (pe_lst (pa_cons (pe_ifExp (pt_cmpR op_eq (pe_ix (r := rIxT K) ix_tup (pv 10) pe_int (fun _ _ => rfl)) pe_str (nomark _)) (pe_ix (r := rIxT K) ix_tup (pv 10) pe_int (fun _ _ => rfl)) (pe_ix (r := rIxT K) ix_tup (pv 10) pe_int (fun _ _ => rfl))) (pa_cons (pe_ix (r := rIxT K) ix_tup (pv 11) pe_int (fun _ _ => rfl)) pa_nil))))
  (pss_cons (ps_set (i := 13) scOthers.nd rfl (.inl rfl) (pe_callB (r := rSum K) (cr_sum rfl) (by rfl) z_sum (by decide +kernel) (pa_cons (pe_slice (r := rSlL K) sl_list (pv 5) (po_some (pe_ix (r := rIxT K) ix_tup (pv 9) pe_int (fun _ _ => rfl))) (po_some (pe_ix (r := rIxT K) ix_tup (pv 9) pe_int (fun _ _ => rfl)))) pa_nil)))
  (pss_one (ps_ret (pe_op op_cat (pv 12) (pe_lst (pa_cons (pe_calK C_sizes_with (hr.mono (by decide)) (by rfl) (pa_cons (pv 1) (pa_cons (pv 2) (pa_cons (pv 3) (pa_cons (pv 9) (pa_cons (pv 13) pa_nil))))) (pk_cons (pv 6) (pk_cons (pv 7) pk_nil))) pa_nil)))))))))))), ?_⟩
    -- bottom, top
    obtain ⟨ak, k1, k2, rfl, hTk, hk1, hk2⟩ := dp_tup2 hdk
    have e1 := dp_int hk1
    have e2 := dp_oi hk2
    subst e1 e2
    refine ⟨_, rfl, ak, _, rfl, Same.tup B.sub hTk, rfl, _, _, rfl, _, _, rfl, rfl, ?_⟩
    obtain ⟨as, sxs, rfl, hLs, hAs⟩ := dp_list hds
    have hxs : sxs.length = t.length := by rw [dpa_len hAs, List.length_map, List.length_range]
    -- first
    refine ⟨_, rfl, _, rfl, as, sxs, rfl, .inl (B.sub.seq hLs), _, _, rfl, rfl, G, b, bx, (sxs.length : Int) + 1, B, rfl, by omega, by omega, fun v1 H1 g1 B1 v10 v11 => ?_⟩
    obtain ⟨fi, rfl⟩ : ∃ n : Nat, v1 = n := ⟨v1.toNat, by omega⟩
    -- stretch
    refine ⟨_, rfl, _, rfl, _, rfl, _, rfl, as, sxs, rfl, .inl (B1.sub.seq hLs), _, rfl, _, _, rfl, rfl, _, _, rfl, rfl, G, b, bx, (sxs.length : Int) - fi + 1, B1, rfl, by omega, by omega, fun v2 H2 g2 B2 v20 v21 => ?_⟩
    obtain ⟨st, hst⟩ : ∃ n : Nat, (fi : Int) + v2 = n := ⟨((fi : Int) + v2).toNat, by omega⟩
    refine ⟨_, _, rfl, rfl, sz2, fun pt npt => ?_⟩
    dsimp only
    rw [hst]
    have g3 := (g1.trans g2).lay (o := .tup [.int fi, .int st]) npt
    have B3 : BG K b bx (upd G pt (.tup [.int fi, .int st])) (upd H2 pt (.tup [.int fi, .int st])) := B2.step (grow_new B2.sub npt) (B2.at_.up npt)
    have hT3 : SqT K (upd G pt (.tup [.int fi, .int st])) pt [.int fi, .int st] := SqT.of upd_same
    have hd3 : Dp K (upd G pt (.tup [.int fi, .int st])) (.ref pt) (.tuple [.int fi, .int st]) := .tup hT3 (.cons (.int _) (.cons (.int _) .nil))
    generalize upd G pt (.tup [.int fi, .int st]) = G3 at g3 B3 hd3 hT3
    generalize upd H2 pt (.tup [.int fi, .int st]) = H3 at g3 B3
    clear g1 g2 B1 B2 npt
    have hfs : fi ≤ st := by omega
    have hsn : st ≤ t.length := by omega
    -- high_one
    refine ⟨_, rfl, _, rfl, _, rfl, _, rfl, _, rfl, _, rfl, rfl, rfl, G3, vt, _, _, ts, t, m, fi, st, low, high, B3.sub, rfl, dp_mono g3.gg hdt, dp_mono g3.gg hds, hd3, hv, hk, hn, ok, by omega, hsn, fun u4 d4 G4 H4 g4 hd4 hg4 => ?_⟩
    have B4 := B3.grow g4
    have g34 := g3.trans g4.weak
    -- low_one
    refine ⟨_, rfl, _, rfl, _, rfl, _, rfl, _, rfl, _, rfl, rfl, rfl, G4, vt, _, _, ts, t, m, fi, st, low, high, B4.sub, rfl, dp_mono g34.gg hdt, dp_mono g34.gg hds, dp_mono g4.gg hd3, hv, hk, hn, ok, hfs, hsn, fun u5 x5 d5 G5 H5 g5 hd5 => ?_⟩
    have B5 := B4.grow g5
    have g35 := g34.trans g5.weak
    have agL := Tf.agr_spr (o := st) ok (by omega)
    have agG := Tf.agr_spr (o := fi) ok (by omega)
    have hokw := Tf.ok_app ok ag hfs (show st < t.length + 1 by omega)
    have agW := (Tf.agr_lts hokw).sub
    generalize hfsE : Tf.factsM ts t m low high = fs at ok ag q hg4 agL agG hd5 hokw agW
    -- found
    obtain ⟨l5, lxs5, rfl, hTl, hAl⟩ := dp_tup hd5
    cases hAl with
    | cons w1 hAl =>
    cases hAl with
    | cons w2 hAl =>
    cases hAl with
    | cons w3 hAl =>
    cases hAl with
    | cons w4 hAl =>
    cases hAl
    rename_i y1 y2 y3 y4
    dsimp only
    refine tseq_lst (fun x H' => H' = H5 ∧ Dp K G5 x (dInts (difs (spr fs (t.length + 1) fi)))) (fun x H' h => ?_) (fun kt => ?_)
    · obtain ⟨rfl, hx⟩ := h
      refine ⟨_, rfl, l5, _, 2, _, rfl, rfl, Same.tup B5.sub hTl, rfl, sz2, fun pf npf => ?_⟩
      have hpf : H pf = none := g35.back npf
      have gpf : G5 pf = none := same_none B5.sub npf
      have g6 := g35.loc (o := .lst [x, y3]) npf
      have B6 := B5.loc (o := .lst [x, y3]) npf
      have ep6 : (upd H' pf (.lst [x, y3])) pf = some (.lst [x, y3]) := upd_same
      generalize upd H' pf (.lst [x, y3]) = H6 at g6 B6 ep6
      -- whole
      obtain ⟨az, zxs, rfl, hLz, hAz⟩ := dp_list hdz
      have ezx := of_dpa_ints hAz
      subst ezx
      have hcl : c.length = t.length := by have := ag.len; omega
      have hT6 : SqT K H6 pt [.int fi, .int st] := Same.tup B6.sub (Same.tup g5.gg (Same.tup g4.gg hT3))
      refine ⟨_, rfl, _, rfl, pt, _, 0, _, rfl, rfl, hT6, rfl, (fi : Int), rfl, _, rfl, pt, _, 1, _, rfl, rfl, hT6, rfl, (st : Int), rfl, az, _, rfl, B6.sub.seq (g6.gg.seq hLz), fun pc npc => ?_⟩
      rw [cut_nat hfs (by omega)]
      have hne : pf ≠ pc := ne_of_none ep6 npc
      have B7 := B6.loc (o := .lst (((c.drop fi).take (st - fi)).map V.int)) npc
      have g7 := g6.loc (o := .lst (((c.drop fi).take (st - fi)).map V.int)) npc
      have ep7 : (upd H6 pc (.lst (((c.drop fi).take (st - fi)).map V.int))) pf = some (.lst [x, y3]) := by rw [upd_ne hne]; exact ep6
      have hc7 : SqL K (upd H6 pc (.lst (((c.drop fi).take (st - fi)).map V.int))) pc (((c.drop fi).take (st - fi)).map V.int) := SqL.of upd_same
      generalize upd H6 pc (.lst (((c.drop fi).take (st - fi)).map V.int)) = H7 at B7 g7 ep7 hc7
      refine ⟨pc, _, rfl, hc7, ?_⟩
      rw [Tf.sum_cut hfs]
      -- sizes_with
      refine ⟨_, rfl, _, rfl, _, rfl, _, rfl, _, rfl, _, rfl, _, rfl, _, rfl, rfl, rfl, G5, vt, _, _, ts, t, m, fi, st, _, low, high, B7.sub, rfl, dp_mono g35.gg hdt, dp_mono g35.gg hds, dp_mono (g4.gg.trans g5.gg) hd3, hv, hk, hn, ?_, fun u8 G8 H8 g8 hd8 => ?_⟩
      · rw [hfsE]; exact hokw
      rw [hfsE] at hd8
      have ep8 := g8.same _ _ ep7
      have gp8 : G8 pf = none := g8.new _ gpf (nn_of ep7)
      have B8 := B7.grow g8
      have g9 := g7.trans g8.weak
      refine ⟨sz1, fun pl npl => ?_⟩
      have ep9 : (upd H8 pl (.lst [u8])) pf = some (.lst [x, y3]) := by rw [upd_ne (ne_of_none ep8 npl)]; exact ep8
      refine ⟨pf, pl, _, _, rfl, rfl, ep9, upd_same, sz3, fun pr npr => ?_⟩
      have B9 := B8.loc (o := .lst [u8]) npl
      have gA := (g9.loc (o := .lst [u8]) npl).loc (o := .lst [x, y3, u8]) npr
      exact q pr x y3 u8 _ _ _ G8 _ gA (B9.loc npr) ((g9.loc (o := .lst [u8]) npl).back npr) (same_none B9.sub npr) upd_same (dp_mono g8.gg hx) (dp_mono g8.gg w3) hd8 agG agL agW
    · rcases hg4 with rfl | ⟨xg, dw, rfl⟩
      · obtain ⟨a4, n1, n2, rfl, hT4, w5, w6⟩ := dp_tup2 hd4
        have en1 := dp_str w5
        subst en1
        have hT5 : SqT K H5 a4 [.str "unbounded", n2] := Same.tup B5.sub (Same.tup g5.gg hT4)
        refine ⟨_, rfl, a4, _, 0, _, rfl, rfl, hT5, rfl, rfl, _, rfl, ?_⟩
        rw [decide_eq_true rfl]
        exact iteT ⟨_, rfl, a4, _, 1, _, rfl, rfl, hT5, rfl, kt _ _ ⟨rfl, dp_mono g5.gg w6⟩⟩
      · obtain ⟨a4, xs4, rfl, hT4, hA4⟩ := dp_tup hd4
        cases hA4 with
        | cons w5 hA4 =>
        cases hA4 with
        | cons w6 hA4 =>
        cases hA4 with
        | cons w7 hA4 =>
        cases hA4 with
        | cons w8 hA4 =>
        cases hA4
        have en1 := dp_str w5
        subst en1
        have hT5 := Same.tup B5.sub (Same.tup g5.gg hT4)
        refine ⟨_, rfl, a4, _, 0, .str "greatest", rfl, rfl, hT5, rfl, rfl, _, rfl, ?_⟩
        rw [show decide (V.str "greatest" = V.str "unbounded") = false by decide +kernel]
        exact iteF ⟨_, rfl, a4, _, 2, _, rfl, rfl, hT5, rfl, kt _ _ ⟨rfl, dp_mono g5.gg w7⟩⟩
end
end Tw
end
section
namespace Tw
open PySem PySem.Spec PyProof.Rows L2
/-- what agreeing gives -/
def dSz (zs : List Int) : PyData := .tuple [.str "sizes", dInts zs]
theorem sizes_small {zs : List Int} (hz : ∀ z ∈ zs, z.natAbs < 2 ^ 70) : PyData.showableAll (zs.map PyData.int) = true ∧ PyData.canLayAll0 (zs.map PyData.int) = true ∧ PyData.intsShortAll 1921 (zs.map PyData.int) = true ∧ PyData.weightAll (zs.map PyData.int) ≤ 72 * zs.length := by
  induction zs with
  | nil => exact ⟨by rw [List.map_nil, PyData.showableAll], by rw [List.map_nil, PyData.canLayAll0], by rw [List.map_nil, PyData.intsShortAll], by rw [List.map_nil, PyData.weightAll]; exact Nat.zero_le _⟩
  | cons z zs ih =>
    obtain ⟨h1, h2, h3, h4⟩ := ih fun x hx => hz x (List.mem_cons_of_mem _ hx)
    have hb := hz z List.mem_cons_self
    have hlg : z.natAbs.log2 < 70 := PySem.Flt.log2_lt_of (by decide) hb
    refine ⟨?_, ?_, ?_, ?_⟩
    · rw [List.map_cons, PyData.showableAll, h1, PyData.showable, decide_eq_true (show z.natAbs.log2 < 1920 by omega)]
      rfl
    · rw [List.map_cons, PyData.canLayAll0, h2, PyData.canLay0]
      rfl
    · have h5 : (PyData.shown (.int z)).length ≤ 1921 := by
        rw [PyData.shown]
        exact int_text_len_1921 (show z.natAbs.log2 < 1920 by omega)
      rw [List.map_cons, PyData.intsShortAll, h3, PyData.intsShort, decide_eq_true h5]
      rfl
    · rw [List.map_cons, PyData.weightAll, PyData.weight, List.length_cons]
      split <;> omega
theorem dSz_flat (zs : List Int) : Flat 2 (dSz zs) := flat_tup fun d hd => by
  rcases List.mem_cons.mp hd with h | h
  · subst h
    exact ⟨by decide +kernel, by rw [PyData.depth]; exact Nat.zero_le _⟩
  · rw [List.mem_singleton] at h
    subst h
    exact flat_ints zs
theorem dSz_show {zs : List Int} (hl : zs.length ≤ 60) (hz : ∀ z ∈ zs, z.natAbs < 2 ^ 70) : (dSz zs).showable = true ∧ (dSz zs).hasDict = false ∧ (dSz zs).shown.length ≤ sizeLine := by
  obtain ⟨h1, h2, h3, h4⟩ := sizes_small hz
  have hc := (dSz_flat zs).c
  refine ⟨?_, PyData.hasDict_of_canLay _ hc, ?_⟩
  · unfold dSz dInts
    rw [PyData.showable, PyData.showableAll, PyData.showableAll, PyData.showableAll, PyData.showable, PyData.showable, h1]
    rfl
  · have hs : (dSz zs).intsShort 1921 = true := by
      unfold dSz dInts
      rw [PyData.intsShort, PyData.intsShortAll, PyData.intsShortAll, PyData.intsShortAll, PyData.intsShort, PyData.intsShort, h3]
      rfl
    have hw : (dSz zs).weight ≤ 72 * zs.length + 7 := by
      unfold dSz dInts
      rw [PyData.weight, PyData.weightAll, PyData.weightAll, PyData.weightAll, PyData.weight, PyData.weight]
      have e : (("sizes" : Str)).cps.size = 5 := by decide +kernel
      omega
    have h5 := PyData.shown_le 1921 (by decide) (dSz zs) (PyData.leavesShort_of_canLay0 1921 _ hc hs)
    have e : sizeLine = 16777216 := by decide
    rw [e]
    omega
end Tw
end
section
set_option maxHeartbeats 4000000
/-! Defs that show data: their callers run under no repr. -/
namespace Tw
open PySem PySem.Spec PyProof.Rows L2
/-- a promise that is kept where no repr is under way -/
structure FnOkG (P : Program) (w : World) (K : PySem.W.Frag) (mg : Str → Option Value) (base : Heap) (k : Nat) (f : Addr) (fd : FuncData) (ps : List Str) (sp : Sp) : Prop where
  len : ∀ vs H Q E, sp vs H Q E → vs.length = ps.length
  run : ∀ (A : Around) (outer : List Env) (s : Shared) (H : Hp) (args : Args) (us : List Value) (vs : List V) (Q : VK) (E : XK), A.guards = some [] → Room k A → Env0 P w K mg base A outer s H → BindsTo s fd args (ps.zip us) → Vals vs us → sp vs H Q E →
    codeAny (model P w) A (.call (.ref f) args) (CR CX0 outer P w H s Q E) s
structure CalG (P : Program) (w : World) (K : PySem.W.Frag) (mg : Str → Option Value) (base : Heap) (k : Nat) (x : Str) (ps : List Str) (sp : Sp) : Prop where
  ex : ∃ f fd, FnOkG P w K mg base k f fd ps sp ∧ mg x = some (.ref f) ∧ PySem.W.keepIn K (.ref f) = true ∧ Binds K fd ps []
section
variable {P : Program} {w : World} {K : PySem.W.Frag} {mg : Str → Option Value} {base : Heap} {x : Str} {st : Stmt} {N ps : List Str} {k : Nat} {sp : Sp}
theorem FnOkG.body {f : Addr} {fd : FuncData} (F : L2.Fun K x x st f fd) (S : FnScope N ps (defScope st)) (len : ∀ vs H Q E, sp vs H Q E → vs.length = ps.length)
    (hbody : ∀ (cdv : Value) (A : Around) (outer : List Env) (s : Shared) (H : Hp) (vs : List V) (Q : VK) (E : XK), A.guards = some [] → Room k (A.deeper (envOfC x (defScope st) s.heap.objs.size f cdv)) → sp vs H Q E →
      ∃ t, PSs (cxOf CX0 P w K mg base N x (defScope st) f cdv A outer s H E).nox (defBody st) t ∧ t { nx := fun _ H' => Q .non H', rt := Q } (start N vs) H) : FnOkG P w K mg base (k + 1) f fd ps sp := by
  obtain ⟨oc, od, kV, doc, pm, an, cdv, ct, osl, efd, lk, hcd⟩ := F.ex
  subst efd
  constructor
  · exact len
  intro A outer s H args us vs Q E hg hr e0 hbt rv hsp
  have keep : ∀ b o, base.get? b = some o → s.heap.get? b = some o := fun b o e => (e0.bs b o e).1
  have kin : K.In s.heap := e0.mod.kin.keeps keep
  have nolim := e0.mod.nolimit.keeps keep
  have slots : ∀ y ∈ ps.zip us, (defScope st).names.lookup y.1 = some .local ∨ ((defScope st).names.lookup y.1 = some .cell ∧ ((cellsFrom (s.heap.objs.size + 1) (defScope st).names []).lookup y.1).isSome = true) := by
    rintro ⟨n, v⟩ hy
    exact (S.par n (List.of_mem_zip hy).1).imp id fun q => ⟨q, PySem.W.cellsFrom_some _ _ _ (.inl q)⟩
  refine codeAny_call_function hr.depth (kin _ _ lk) rfl S.co S.gen rfl (PySem.W.codeRec_of kin hcd) (hbt _ _ _ _ ?_)
  refine wpAny_newFunctionEnv_cells S.kind slots fun env he s1 x1 => ?_
  subst he
  refine ⟨nolim.keeps x1.toInCall.keep, codeAny_func ?_⟩
  obtain ⟨t, ht, hq⟩ := hbody cdv A outer s H vs Q E hg (hr.deeper _) hsp
  have I : Inv (cxOf CX0 P w K mg base N x (defScope st) f cdv A outer s H E) [] (start N vs) H s1 := inv_start S hr.hd e0 (len _ _ _ _ hsp) rv x1
  refine wpAny_mono (ht.nox.run [] s1 (start N vs) H _ I hq) (fun fl s' hs => ?_) fun e s' hs => hs
  match fl, hs with
  | .ret u, ⟨v, _, H', J, r, q⟩ => exact ⟨v, H', J.os, J.bare, J.base, J.hok, r, q⟩
  | .next, ⟨_, H', J, q⟩ => exact ⟨V.non, H', J.os, J.bare, J.base, J.hok, rfl, q⟩
  | .brk, ⟨_, _, _, q⟩ => exact False.elim q
  | .cont, ⟨_, _, _, q⟩ => exact False.elim q
theorem Def.okG (D : Def K mg x st ps) (S : FnScope N ps (defScope st)) (len : ∀ vs H Q E, sp vs H Q E → vs.length = ps.length)
    (hbody : ∀ (f : Addr) (cdv : Value) (A : Around) (outer : List Env) (s : Shared) (H : Hp) (vs : List V) (Q : VK) (E : XK), A.guards = some [] → Room k (A.deeper (envOfC x (defScope st) s.heap.objs.size f cdv)) → sp vs H Q E →
      ∃ t, PSs (cxOf CX0 P w K mg base N x (defScope st) f cdv A outer s H E).nox (defBody st) t ∧ t { nx := fun _ H' => Q .non H', rt := Q } (start N vs) H) : CalG P w K mg base (k + 1) x ps sp := by
  obtain ⟨f, fd, F, hm, hb⟩ := D.ex
  exact ⟨f, fd, .body F S len (fun cdv A outer s H vs Q E hg hr h => hbody f cdv A outer s H vs Q E hg hr h), hm, F.kp, hb⟩
end
section
variable {X : Cx} {k : Nat} {ps : List Str} {sp : Sp} {x : Str} {p pos : Pos} {e : Expr} {es : List Expr} {t : TA}
theorem pe_calG (hg0 : X.A.guards = some []) (C : CalG X.prog X.w X.K X.mg X.base k x ps sp) (hr : Room k X.A) (hg : Gl X x) (ha : PA X (e :: es) t) (hdb : (x == ("__debug__" : Str)) = false := by decide)
    (he : starEach (e :: es) X.env = (false, eval e X.env) :: starEach es X.env := by rfl) (hpl : (backTo pos (starEach es X.env)).any (·.1) = false := by rfl) :
    PE X (.Call (.Name x p) (e :: es) [] pos) (tCall sp [] E0 t) := by
  obtain ⟨f, fd, F, hm, hk, hb⟩ := C.ex
  constructor
  intro pins s σ H Q I h
  refine wpAny_Call_Name_kw (ld_glob I hg hm ?_ hdb)
  refine PySem.W.callWith_K (h₀ := X.base) I.ok.mod.kin hk (thn (ha.run pos pins s σ H _ I h) fun us s1 ⟨vs, H1, I1, r, q⟩ => ⟨I1.kIn, ?_⟩) he hpl
  have q : sp (vs ++ []) H1 Q E0 := q
  rw [List.append_nil] at q
  have hl : us.length = ps.length := by rw [← r.length]; exact F.len _ _ _ _ q
  have hbt : BindsTo s1 fd ⟨us, []⟩ (ps.zip us) := by
    have h2 := hb s1 us I1.kIn (by rw [List.append_nil]; exact hl)
    rw [List.append_nil] at h2
    exact h2
  refine wpAny_call (codeAny_mono (F.run X.A X.stack s1 H1 ⟨us, []⟩ us vs Q E0 hg0 hr I1.env0 hbt r q) fun r s' hq => ?_)
  match r, hq with
  | .error e, hq => exact pass0 pins σ H1 s1 e s' I1 hq
  | .ok (.ret u), hq => exact I1.after hq
  | .ok .next, hq => exact False.elim hq
  | .ok .brk, hq => exact False.elim hq
  | .ok .cont, hq => exact False.elim hq
/-- repr of data -/
def rRepr (K : PySem.W.Frag) : List V → Hp → VK → Prop := fun xs H Q => ∃ a d, xs = [.ref a] ∧ Dp K H (.ref a) d ∧ d.showable = true ∧ d.hasDict = false ∧ d.depth ≤ 60 ∧ d.shown.length ≤ sizeLine ∧ Q (.str d.shown) H
theorem call_reprD (hg : X.A.guards = some []) (hu : X.A.units + 64 < cLine) : CallR X (.builtin "repr") (rRepr X.K) := by
  intro pins s σ H xs us Q I r h
  obtain ⟨a, d, rfl, hd, h1, h2, h3, h4, q⟩ := h
  rw [Vals.ref1 r]
  obtain ⟨as, rd⟩ := Dp.reads I d (.ref a) (.ref a) hd rfl
  exact repr_of_reads' (h₀ := s.heap) rd h1 (PyData.noDict_hsm h2) hg (by omega) (fun b o e => e) (fun h' u tk hk => ⟨.str d.shown, H, I.kept hk, ⟨_, rfl⟩, q⟩) h4
end
section
variable {P : Program} {w : World} {K : PySem.W.Frag} {mg : Str → Option Value} {base : Heap}
/-! ### _law_alike -/
abbrev sAlike : Stmt := topS 32
abbrev nAlike : List Str := ["_law_found", "_law_due"]
theorem scAlike : FnScope nAlike nAlike (defScope sAlike) := ⟨rfl, rfl, rfl, by decide +kernel, rfl, by decide +kernel, by decide +kernel⟩
def spAlike (K : PySem.W.Frag) : Sp := fun vs H Q _ => ∃ (G : Hp) (a b : Addr) (zs : List Int), Same G H ∧ vs = [.ref a, .ref b] ∧ Dp K G (.ref a) (dSz zs) ∧ Dp K G (.ref b) (dSz zs) ∧ zs.length ≤ 60 ∧ (∀ z ∈ zs, z.natAbs < 2 ^ 70) ∧ Q (.bl true) H
theorem ok_alike (D : Def K mg "_law_alike" sAlike nAlike) (z_repr : mg "repr" = none) : CalG P w K mg base 1 "_law_alike" nAlike (spAlike K) := by
  refine D.okG scAlike (fun vs H Q E h => ?_) (fun f cdv A outer s H vs Q E hg hr h => ?_)
  · obtain ⟨G, a, b, zs, _, rfl, _⟩ := h
    rfl
  · obtain ⟨G, a, b, zs, sG, rfl, hd1, hd2, hl, hz, q⟩ := h
    obtain ⟨s1, s2, s3⟩ := dSz_show hl hz
    have hfl := dSz_flat zs
    have d1 := dp_mono sG hd1
    have d2 := dp_mono sG hd2
    have hdp : (dSz zs).depth ≤ 60 := Nat.le_trans hfl.d (by decide)
    refine ⟨_, pss_one (ps_ret (pe_and (pe_cmpR (op_eqD hr.units) (pv 0) (pv 1) (nomark _)) (pe_one (pe_cmpR op_eq
      (pe_callB (r := rRepr K) (call_reprD hg hr.units) (by rfl) z_repr (by decide +kernel) (pa_cons (pv 0) pa_nil)) (pe_callB (r := rRepr K) (call_reprD hg hr.units) (by rfl) z_repr (by decide +kernel) (pa_cons (pv 1) pa_nil)) (nomark _))))), ?_⟩
    refine ⟨_, rfl, _, rfl, dSz zs, dSz zs, d1, d2, hfl.shaped (by decide), hfl.shaped (by decide), ?_⟩
    rw [hfl.self]
    refine ⟨true, rfl, iteT ?_⟩
    refine ⟨_, rfl, a, dSz zs, rfl, d1, s1, s2, hdp, s3, _, rfl, b, dSz zs, rfl, d2, s1, s2, hdp, s3, rfl, ?_⟩
    rw [decide_eq_true rfl]
    exact q
end
end Tw
end
section
namespace Tw
open Tf (psum psum_zero psum_succ Sat Agr Ok lts difs)
theorem psum_lowr (zs ys : List Int) : ∀ i, i ≤ zs.length → psum (lowr zs ys) i = mn2 (psum zs i) (psum ys i)
  | 0, _ => rfl
  | i + 1, h => by
    have hg : (lowr zs ys)[i]? = some (mn2 (psum zs (i + 1)) (psum ys (i + 1)) - mn2 (psum zs i) (psum ys i)) := by
      unfold lowr
      exact range_at (by omega)
    rw [psum_succ hg, psum_lowr zs ys i (by omega)]
    omega
theorem sat_low {zs ys : List Int} {f : Tf.Fa} (h1 : Sat (psum zs) f) (h2 : Sat (psum ys) f) (ha : f.a ≤ zs.length) (hb : f.b ≤ zs.length) : Sat (psum (lowr zs ys)) f := by
  unfold Sat at h1 h2 ⊢
  rw [psum_lowr zs ys _ ha, psum_lowr zs ys _ hb]
  unfold mn2
  split
  · rename_i hm
    rw [if_pos hm] at h1 h2
    split <;> split <;> omega
  · rename_i hm
    rw [if_neg hm] at h1 h2
    split <;> split <;> omega
theorem psum_big {c : List Int} {B : Int} (h : ∀ z ∈ c, z ≤ B) : ∀ i, i ≤ c.length → psum c i ≤ i * B
  | 0, _ => by rw [psum_zero]; simp
  | i + 1, hi => by
    have hg : c[i]? = some c[i] := List.getElem?_eq_getElem (by omega)
    rw [psum_succ hg]
    have h1 := psum_big h i (by omega)
    have h2 := h c[i] (List.getElem_mem _)
    have e : ((i + 1 : Nat) : Int) * B = (i : Int) * B + B := by
      rw [Int.natCast_add, Int.add_mul]
      simp
    omega
theorem psum_nn {c : List Int} (h : ∀ z ∈ c, 0 ≤ z) : ∀ i, i ≤ c.length → 0 ≤ psum c i
  | 0, _ => Int.le_refl _
  | i + 1, hi => by
    have hg : c[i]? = some c[i] := List.getElem?_eq_getElem (by omega)
    rw [psum_succ hg]
    have h1 := psum_nn h i (by omega)
    have h2 := h c[i] (List.getElem_mem _)
    omega
/-- the least sizes are small -/
theorem least_small {fs : List Tf.Fa} {n : Nat} (k : Ok fs n) {c : List Int} (a : Agr fs n c) (h : ∀ z ∈ c, z ≤ 1000000000000000000) (hn : n ≤ 61) : ∀ z ∈ difs (lts fs n), z.natAbs < 2 ^ 70 := fun z hz => by
  have ag := Tf.agr_lts k
  obtain ⟨i, hi⟩ := List.mem_iff_getElem?.mp hz
  have hil : i < (difs (lts fs n)).length := (List.getElem?_eq_some_iff.mp hi).1
  have h0 := ag.pos z hz
  have hl := ag.len
  have hlc := a.len
  have h1 := psum_succ hi
  have h2 := psum_nn ag.pos i (by omega)
  have h3 := Tf.least_le k a (i := i + 1) (by omega)
  have h4 := psum_big h (i + 1) (by omega)
  have h5 : ((i + 1 : Nat) : Int) * 1000000000000000000 ≤ 60 * 1000000000000000000 := by omega
  have e : (2 : Nat) ^ 70 = 1180591620717411303424 := by decide
  rw [e]
  omega
/-- the column of a log of the scene keeps the facts -/
theorem col_step {l : Log} {m i : Nat} (h : i < l.length) : psum (col l m) (i + 1) - psum (col l m) i = (col l m).getD i 0 ∧ (col l m).getD i 0 ∈ col l m := by
  have hl : i < (col l m).length := by rw [col_len]; exact h
  have hg := List.getElem?_eq_getElem hl
  rw [psum_succ hg, getD_of hg]
  exact ⟨by omega, List.getElem_mem _⟩
theorem col_nn {l : Log} {width m : Nat} (h : LogOk width l) (hm : m < width) : ∀ z ∈ col l m, 0 ≤ z ∧ z ≤ 1000000000000000000 := fun z hz => by
  obtain ⟨e, he, rfl⟩ := List.mem_map.mp hz
  obtain ⟨h1, h2⟩ := h e he
  have h3 : m < e.length := by omega
  rw [List.getD_eq_getElem?_getD, List.getElem?_eq_getElem h3]
  exact h2 _ (List.getElem_mem _)
section
variable {l : Log} {ts : Tiers} {width m : Nat} {low : Int} {high : Option Int}
theorem scene_ok (S : SceneOk width l ts) (B : BndOk (col l m) low high) : Ok (Tf.factsM ts (Tf.sight (Tm l) ts l.length) m low high) (l.length + 1) :=
  Tf.ok_true (fun q hq => (S.to q hq).2) B.l0 (fun i hi => by
    obtain ⟨h1, h2⟩ := col_step (m := m) hi
    show low ≤ psum (col l m) (i + 1) - psum (col l m) i
    rw [h1]; exact B.lo _ h2) (fun h hh i hi => by
    obtain ⟨h1, h2⟩ := col_step (m := m) hi
    show psum (col l m) (i + 1) - psum (col l m) i ≤ h
    rw [h1]; exact B.hi h hh _ h2)
theorem scene_agr (S : SceneOk width l ts) (hm : m < width) (B : BndOk (col l m) low high) : Agr (Tf.factsM ts (Tf.sight (Tm l) ts l.length) m low high) (l.length + 1) (col l m) := by
  refine ⟨by rw [col_len], fun z hz => (col_nn S.lo hm z hz).1, fun f hf => ?_⟩
  refine (Tf.truth (Tm := Tm l) (fun q hq => (S.to q hq).2) (fun i hi => ?_) (fun h hh i hi => ?_) f hf).1
  · obtain ⟨h1, h2⟩ := col_step (m := m) hi
    show low ≤ psum (col l m) (i + 1) - psum (col l m) i
    rw [h1]; exact B.lo _ h2
  · obtain ⟨h1, h2⟩ := col_step (m := m) hi
    show psum (col l m) (i + 1) - psum (col l m) i ≤ h
    rw [h1]; exact B.hi h hh _ h2
theorem bnd_none (S : SceneOk width l ts) (hm : m < width) : BndOk (col l m) 0 none := ⟨Int.le_refl _, fun z hz => (col_nn S.lo hm z hz).1, fun _ h => by cases h⟩
end
end Tw
end
section
set_option maxHeartbeats 8000000
namespace Tw
open PySem PySem.Spec PyProof.Rows L2
open Tf (psum psum_zero psum_succ Sat Agr Ok lts difs spr)
theorem Grow.small {M : Addr → Prop} {G0 Gx H G' H' : Hp} (g : Grow M Gx H G' H') (s : Same G0 Gx) : Grow M G0 H G0 H' := ⟨Same.refl _, (s.trans g.gg).trans g.sub, g.keep, g.dom, fun _ h _ => h⟩
theorem same_abs {G H : Hp} {p : Addr} {o : HO} (s : Same G H) (e : H p = some o) : Same (upd G p o) H := fun a u q => by
  by_cases ha : a = p
  · subst ha; rw [upd_same] at q; cases q; exact e
  · rw [upd_ne ha] at q; exact s a u q
section
variable {P : Program} {w : World} {K : PySem.W.Frag} {mg : Str → Option Value} {base : Heap}
/-! ### _law_right -/
abbrev sRight : Stmt := topS 50
abbrev nRight : List Str := ["_law_bag_here", "_law_log_here", "_law_tiers_here", "_law_seen_here", "_law_measure", "_law_known", "_law_bottom", "_law_top", "_law_sizes_here", "_law_entry", "_law_rows", "_law_word", "_law_found", "_law_some", "_law_other", "_law_kept", "_law_again"]
abbrev psRight : List Str := ["_law_bag_here", "_law_log_here", "_law_tiers_here", "_law_seen_here", "_law_measure", "_law_known"]
theorem scRight : FnScope nRight psRight (defScope sRight) := ⟨rfl, rfl, rfl, by decide +kernel, rfl, by decide +kernel, by decide +kernel⟩
abbrev seenOf (l : Log) (ts : Tiers) : Tf.Tab := Tf.sight (Tm l) ts l.length
def spRight (K : PySem.W.Frag) : Sp := fun vs H Q _ => ∃ (G : Hp) (b bx : Addr) (vl vt v vk : V) (l : Log) (ts : Tiers) (width m : Nat) (low : Int) (high : Option Int), BG K b bx G H ∧ vs = [.ref b, vl, vt, v, .int m, vk] ∧ Dp K G vl (dLog l) ∧ Dp K G vt (dTiers ts) ∧ Dp K G v (dSeen (seenOf l ts)) ∧
  Dp K G vk (.tuple [.int low, dOI high]) ∧ SceneOk width l ts ∧ m < width ∧ BndOk (col l m) low high ∧
  ∀ u G' H', Grow (Mb b) G H G' H' → BG K b bx G' H' → Dp K G' u (dInts (difs (lts (Tf.factsM ts (seenOf l ts) m low high) (l.length + 1)))) → Q u H'
theorem ok_right (D : Def K mg "_law_right" sRight psRight) (C_facts : CalK P w K mg base 4 "facts" psTS 3 (spFacts K)) (C_agreeing : CalK P w K mg base 5 "agreeing" psTS 3 (spAgr K)) (C__law_take : Cal P w K mg base 1 "_law_take" psBM (spTake K)) (C__law_others : Cal P w K mg base 7 "_law_others" psOthers (spOthers K))
    (C__law_sizes : Cal P w K mg base 1 "_law_sizes" psSizesL (spSizesL K)) (C__law_holds : Cal P w K mg base 1 "_law_holds" psHolds (spHolds K)) (C__law_below : Cal P w K mg base 2 "_law_below" psOO (spBelow K)) (C__law_lower : Cal P w K mg base 2 "_law_lower" psOO (spLower K))
    (C__law_alike : CalG P w K mg base 1 "_law_alike" nAlike (spAlike K)) (z_list : mg "list" = none) (z_len : mg "len" = none) : CalG P w K mg base 8 "_law_right" psRight (spRight K) := by
  refine D.okG scRight (fun vs H Q E h => ?_) (fun f cdv A outer s H vs Q E hg hr h => ?_)
  · obtain ⟨G, b, bx, vl, vt, v, vk, l, ts, wi, m, low, high, _, rfl, _⟩ := h
    rfl
  · obtain ⟨G, b, bx, vl, vt, v, vk, l, ts, wi, m, low, high, B, rfl, hdl, hdt, hds, hdk, hS, hmw, hB, q⟩ := h
    refine ⟨_, (pss_cons (ps_asg (pv 5) (pg_tup rfl (pgs_cons (pg_name (i := 6) scRight.nd rfl (.inl rfl)) (pgs_cons (pg_name (i := 7) scRight.nd rfl (.inl rfl)) pgs_nil))))
  (pss_cons (ps_setLc (i := 8) (own := [("_law_entry", 9)]) (g := (gName 9)) (tt := tYes) rfl scRight.nd rfl rfl (sw_true rfl rfl rfl (by decide +kernel)) (pi_list (pv 1)) (blkOk_by (N := nRight) (sc := defScope sRight) (by decide +kernel)) (fun _ _ _ _ _ => (pg_name (i := 9) scRight.nd rfl (.inl rfl))) (fun _ _ _ _ _ => pts_nil) (fun _ _ _ _ _ => (pe_ix (r := rIxT K) ix_tup (pv 9) (pv 4) (fun _ _ => rfl))))
  (pss_cons (ps_set (i := 10) scRight.nd rfl (.inl rfl) (pe_calK C_facts (hr.mono (by decide)) (by rfl) (pa_cons (pv 2) (pa_cons (pv 3) (pa_cons (pv 4) pa_nil))) (pk_cons (pv 6) (pk_cons (pv 7) pk_nil))))
  (pss_cons (ps_asg (pe_calK C_agreeing (hr.mono (by decide)) (by rfl) (pa_cons (pe_callTy (r := rLst K) call_list_of (by rfl) z_list (by decide +kernel) (pa_cons (pv 2) pa_nil)) (pa_cons (pe_callTy (r := rLst K) call_list_of (by rfl) z_list (by decide +kernel) (pa_cons (pv 3) pa_nil)) (pa_cons (pv 4) pa_nil))) (pk_cons (pv 6) (pk_cons (pv 7) pk_nil))) (pg_tup rfl (pgs_cons (pg_name (i := 11) scRight.nd rfl (.inl rfl)) (pgs_cons (pg_name (i := 12) scRight.nd rfl (.inl rfl)) pgs_nil))))
  (pss_cons (ps_if (PW.pt (pw_or (pt_cmpR op_ne (pv 11) pe_str (nomark _)) (pw_or (pt_not (pt_val (pe_cal C__law_sizes (hr.mono (by decide)) (by rfl) (pa_cons (pv 12) (pa_cons (pe_callB (r := rLn K) call_len_seq (by rfl) z_len PySem.boot_len (pa_cons (pv 1) pa_nil)) pa_nil))))) (pw_or1 (pt_not (pt_val (pe_cal C__law_holds (hr.mono (by decide)) (by rfl) (pa_cons (pv 12) (pa_cons (pv 10) pa_nil)))))))))
  (pss_one (ps_ret pe_non))
  pss_nil)
  (pss_cons (ps_set (i := 13) scRight.nd rfl (.inl rfl) (pe_op op_cat (pe_lst (pa_cons (pv 8) pa_nil)) (pe_cal C__law_others (hr.mono (by decide)) (by rfl) (pa_cons (pv 0) (pa_cons (pv 2) (pa_cons (pv 3) (pa_cons (pv 4) (pa_cons (pv 5) (pa_cons (pv 8) pa_nil)))))))))
  (pss_cons (ps_for PassesOwn.never rfl (pi_list (pv 13)) (pg_name (i := 14) scRight.nd rfl (.inl rfl))
  (pss_one (ps_if (PW.pt (pw_or (pt_not (pt_val (pe_cal C__law_sizes (hr.mono (by decide)) (by rfl) (pa_cons (pv 14) (pa_cons (pe_callB (r := rLn K) call_len_seq (by rfl) z_len PySem.boot_len (pa_cons (pv 1) pa_nil)) pa_nil))))) (pw_or (pt_not (pt_val (pe_cal C__law_holds (hr.mono (by decide)) (by rfl) (pa_cons (pv 14) (pa_cons (pv 10) pa_nil))))) (pw_or1 (pt_not (pt_val (pe_cal C__law_below (hr.mono (by decide)) (by rfl) (pa_cons (pv 12) (pa_cons (pv 14) pa_nil)))))))))
  (pss_one (ps_ret pe_non))
  pss_nil)))
  (pss_cons (ps_for PassesOwn.never rfl (pi_list (pv 13)) (pg_name (i := 14) scRight.nd rfl (.inl rfl))
  (pss_one (ps_if (pt_not (pt_val (pe_cal C__law_holds (hr.mono (by decide)) (by rfl) (pa_cons (pe_cal C__law_lower (hr.mono (by decide)) (by rfl) (pa_cons (pe_ix (r := rIxL K) ix_list (pv 13) (pe_cal C__law_take (hr.mono (by decide)) (by rfl) (pa_cons (pv 0) (pa_cons pe_int pa_nil))) (fun _ _ => rfl)) (pa_cons (pv 14) pa_nil))) (pa_cons (pv 10) pa_nil)))))
  (pss_one (ps_ret pe_non))
  pss_nil)))
  (pss_cons (ps_set (i := 15) scRight.nd rfl (.inl rfl) (pe_callTy (r := rLst K) call_list_of (by rfl) z_list (by decide +kernel) (pa_cons (pv 12) pa_nil)))
  (pss_cons (ps_expr (pe_bm PySem.F.plainAttrs_list PySem.F.slot_list_append PySem.F.type_list_append mt_append (pv 12) (pa_cons pe_int pa_nil)))
  (pss_cons (ps_set (i := 16) scRight.nd rfl (.inl rfl) (pe_calK C_agreeing (hr.mono (by decide)) (by rfl) (pa_cons (pv 2) (pa_cons (pv 3) (pa_cons (pv 4) pa_nil))) (pk_cons (pv 6) (pk_cons (pv 7) pk_nil))))
  (pss_one (ps_ret (pe_ifExp (pt_val (pe_calG hg C__law_alike (hr.mono (by decide)) (by rfl) (pa_cons (pv 16) (pa_cons (pe_tup (pa_cons pe_str (pa_cons (pv 15) pa_nil))) pa_nil)))) (pv 15) pe_non)))))))))))))), ?_⟩
    have hk10 : ts.length ≤ 10 := by have := hS.t1; omega
    have hn100 : (seenOf l ts).length ≤ 100 := by rw [Tf.sight_len]; have := hS.l1; omega
    have htl : (seenOf l ts).length = l.length := Tf.sight_len _ _ _
    have hv : Tf.Valid ts.length (seenOf l ts) := Tf.sight_valid _ _ _
    have ok0 := scene_ok hS hB
    have ag0 := scene_agr hS hmw hB
    have hcb := col_nn hS.lo hmw
    have hl60 := hS.l1
    -- bottom, top
    obtain ⟨ak, k1, k2, rfl, hTk, hk1, hk2⟩ := dp_tup2 hdk
    have e1 := dp_int hk1
    have e2 := dp_oi hk2
    subst e1 e2
    refine ⟨_, rfl, ak, _, rfl, Same.tup B.sub hTk, rfl, _, _, rfl, _, _, rfl, rfl, ?_⟩
    -- sizes
    obtain ⟨al, lxs, rfl, hLl, hAl⟩ := dp_list hdl
    have hxl : lxs.length = l.length := by rw [dpa_len hAl, List.length_map]
    refine ⟨_, rfl, al, rfl, ⟨_, B.sub.seq hLl⟩, fun Dl hDl => ?_⟩
    refine lc_pure (K := K) (Q := fun x H1 => gName 8 x _ H1 _) (walk_list (K := K) (a := al) (xs := lxs)) ((col l m).map PyData.int) B.sub hDl (by rw [List.length_map, col_len, hxl]) (by omega) (fun G1 H1 g => g.sub.seq (g.gg.seq hLl)) (fun i x G1 H1 H1' d hi g1 y E hE => ?_) (fun G1 H1 g1 hd1 => ?_) gm_name
    · obtain ⟨rfl, hx⟩ := y
      obtain ⟨d0, hd0, hv⟩ := dpa_getV hAl hx
      obtain ⟨en, hen, rfl⟩ := get_map hd0
      obtain ⟨z, hz, rfl⟩ := get_map hi
      rw [col_get hen] at hz
      cases hz
      obtain ⟨be, ys, rfl, hTe, hBe⟩ := dp_tup hv
      have hys := of_dpa_ints hBe
      subst hys
      have hm2 : m < en.length := by rw [(hS.lo en (List.mem_of_getElem? hen)).1]; exact hmw
      exact ⟨rfl, _, rfl, _, rfl, be, _, m, _, rfl, rfl, Same.tup g1.sub (Same.tup g1.gg hTe), atI_nat (getD_get hm2), hE _ _ _ (Grow.refl g1.sub) (.int _)⟩
    have B1 := B.grow g1
    have gA1 : Grow (Mb b) G H G1 H1 := g1.weak
    clear hDl
    -- rows
    refine ⟨_, rfl, _, rfl, _, rfl, _, rfl, _, rfl, rfl, rfl, G1, vt, v, ts, seenOf l ts, m, low, high, B1.sub, rfl, dp_mono gA1.gg hdt, dp_mono gA1.gg hds, hv, hk10, hn100, fun pr rxs G2 H2 g2 hpr gpr epr har => ?_⟩
    have g2' := g2.abs hpr gpr epr
    have hdr : Dp K (upd G2 pr (.lst rxs)) (.ref pr) (.list ((Tf.factsM ts (seenOf l ts) m low high).map dFa)) := dp_lst upd_same (dpa_mono (same_up gpr) har)
    have B2 := B1.grow g2'
    have gA2 := gA1.trans g2'.weak
    have hd2 := dp_mono g2'.gg hd1
    generalize upd G2 pr (.lst rxs) = G2' at g2' hdr B2 gA2 hd2
    clear g2 hpr gpr epr har g2'
    -- list(tiers), list(seen)
    obtain ⟨at_, txs, rfl, hLt, hAt⟩ := dp_list hdt
    obtain ⟨as, sxs, rfl, hLs, hAs⟩ := dp_list hds
    refine ⟨_, rfl, at_, txs, rfl, .inl (B2.sub.seq (gA2.gg.seq hLt)), fun p1 np1 => ?_⟩
    have gn3 : Grow (Mb b) G2' H2 (upd G2' p1 (.lst txs)) (upd H2 p1 (.lst txs)) := grow_new B2.sub np1
    have B3 := B2.step gn3 (B2.at_.up np1)
    have gA3 := gA2.trans gn3
    have ht3 : Dp K (upd G2' p1 (.lst txs)) (.ref p1) (dTiers ts) := dp_lst upd_same (dpa_mono gA3.gg hAt)
    have hd3 := dp_mono gn3.gg hd2
    have hdr3 := dp_mono gn3.gg hdr
    generalize upd G2' p1 (.lst txs) = G3 at gn3 B3 gA3 ht3 hd3 hdr3
    generalize upd H2 p1 (.lst txs) = H3 at gn3 B3 gA3
    refine ⟨_, rfl, as, sxs, rfl, .inl (B3.sub.seq (gA3.gg.seq hLs)), fun p2 np2 => ?_⟩
    have gn4 : Grow (Mb b) G3 H3 (upd G3 p2 (.lst sxs)) (upd H3 p2 (.lst sxs)) := grow_new B3.sub np2
    have B4 := B3.step gn4 (B3.at_.up np2)
    have gA4 := gA3.trans gn4
    have hs4 : Dp K (upd G3 p2 (.lst sxs)) (.ref p2) (dSeen (seenOf l ts)) := dp_lst upd_same (dpa_mono gA4.gg hAs)
    have ht4 := dp_mono gn4.gg ht3
    have hd4 := dp_mono gn4.gg hd3
    have hdr4 := dp_mono gn4.gg hdr3
    generalize upd G3 p2 (.lst sxs) = G4 at gn4 B4 gA4 hs4 ht4 hd4 hdr4
    generalize upd H3 p2 (.lst sxs) = H4 at gn4 B4 gA4
    clear gn3 gn4 np1 np2 B1 B2 B3 gA1 gA2 gA3
    -- agreeing
    refine ⟨_, rfl, _, rfl, _, rfl, rfl, rfl, G4, _, _, ts, seenOf l ts, m, low, high, B4.sub, rfl, ht4, hs4, hv, hk10, hn100, by rw [htl]; exact ok0, fun pt pl G5 H5 g5 hpl hpt gpl gpt hne ept epl => ?_⟩
    rw [htl] at epl
    generalize hfsE : Tf.factsM ts (seenOf l ts) m low high = fs at epl q ok0 ag0 hdr4
    have agz := Tf.agr_lts ok0
    have hsm := least_small ok0 ag0 (fun z hz => (hcb z hz).2) (by omega)
    have hlez : ∀ ys, Agr fs (l.length + 1) ys → ∀ i, i < l.length + 1 → psum (difs (lts fs (l.length + 1))) i ≤ psum ys i := fun ys a i hi => Tf.least_le ok0 a hi
    generalize hzs : difs (lts fs (l.length + 1)) = zs at epl q agz hsm hlez
    have hzl : zs.length = l.length := by have := agz.len; omega
    have inn : ∀ f ∈ fs, f.a ≤ l.length ∧ f.b ≤ l.length := fun f hf => by have := ok0.inn f hf; omega
    have B5 := B4.grow g5
    have gA5 := gA4.trans g5.weak
    have hd5 := dp_mono g5.gg hd4
    have hdr5 := dp_mono g5.gg hdr4
    have hL5 := gA5.gg.seq hLl
    have hplH : H pl = none := gA4.back hpl
    have hplb : pl ≠ b := fun z => B4.at_.nn (by rw [← z]; exact hpl)
    clear g5 hpt gpt ht4 hs4 hd4 hdr4 hpl
    refine ⟨pt, _, rfl, SqT.of ept, rfl, _, _, rfl, _, _, rfl, rfl, ?_⟩
    -- the view with what was found
    have fnd : ∀ {H' : Hp}, Same G5 H' → H' pl = some (.lst (zs.map V.int)) → Same (upd G5 pl (.lst (zs.map V.int))) H' := fun s e => same_abs s e
    have fdp : Dp K (upd G5 pl (.lst (zs.map V.int))) (.ref pl) (dInts zs) := dp_lst upd_same (dpa_ints zs)
    have fup : Same G5 (upd G5 pl (.lst (zs.map V.int))) := same_up gpl
    refine ⟨_, rfl, rfl, _, rfl, ?_⟩
    rw [show (decide (V.str "sizes" = V.str "sizes")) = true from decide_eq_true rfl]
    refine iteF ?_
    refine ⟨_, rfl, _, rfl, al, lxs, rfl, .inl (B5.sub.seq hL5), _, _, zs, fnd B5.sub epl, by rw [hxl, hzl]; rfl, fdp, by omega, agz.pos, fun u6 G6 H6 g6 hu6 => ?_⟩
    have eu6 := dp_bl hu6
    subst eu6
    refine ⟨true, rfl, iteF ?_⟩
    have epl6 := g6.same _ _ epl
    have g6' := g6.small fup
    have B6 := B5.grow g6'
    refine ⟨_, rfl, _, rfl, _, _, _, zs, fs, fnd B6.sub epl6, rfl, fdp, dp_mono fup hdr5, by omega, by rw [hzl]; exact inn, agz.sat, fun u7 G7 H7 g7 hu7 => ?_⟩
    have eu7 := dp_bl hu7
    subst eu7
    refine ⟨true, rfl, iteF ?_⟩
    have epl7 := g7.same _ _ epl6
    have g7' := g6'.trans (g7.small fup)
    have B7 := B5.grow g7'
    have gA7 := gA5.trans g7'.weak
    clear g6 g6' g7 g7' hu6 hu7 epl6 B6 ept epl
    -- some
    refine ⟨_, rfl, sz1, fun p3 np3 => ?_⟩
    have B8 := B7.loc (o := .lst [.ref Dl]) np3
    have gA8 := gA7.loc (o := .lst [.ref Dl]) np3
    have epl8 : (upd H7 p3 (.lst [.ref Dl])) pl = some (.lst (zs.map V.int)) := by rw [upd_ne (ne_of_none epl7 np3)]; exact epl7
    have ep3 : (upd H7 p3 (.lst [.ref Dl])) p3 = some (.lst [.ref Dl]) := upd_same
    have hp3b : p3 ≠ b := fun z => B7.at_.nn (by rw [← z]; exact np3)
    generalize upd H7 p3 (.lst [.ref Dl]) = H8 at B8 gA8 epl8 ep3
    refine ⟨_, rfl, _, rfl, _, rfl, _, rfl, _, rfl, _, rfl, G5, b, bx, _, _, _, _, ts, seenOf l ts, m, low, high, col l m, B8, rfl, dp_mono gA8.gg hdt, dp_mono gA8.gg hds, dp_mono gA8.gg hdk, hd5, hv, hk10, hn100, by rw [htl, hfsE]; exact ok0, by rw [htl, hfsE]; exact ag0, fun p4 x1 x2 x3 z1 z2 z3 G9 H9 g9 B9 hp4 gp4 ep4 w1 w2 w3 a1 a2 a3 => ?_⟩
    rw [htl, hfsE] at a1 a2 a3
    have epl9 := g9.keep pl _ hplb epl8
    have ep39 := g9.keep p3 _ hp3b ep3
    refine ⟨p3, p4, _, _, rfl, rfl, ep39, ep4, sz4, fun p5 np5 => ?_⟩
    have gpl9 : G9 pl = none := g9.new _ gpl (nn_of epl8)
    have BC := B9.loc (o := .lst ([V.ref Dl] ++ [x1, x2, x3])) np5
    have gC := (gA8.trans g9).loc (o := .lst ([V.ref Dl] ++ [x1, x2, x3])) np5
    have eplC : (upd H9 p5 (.lst ([V.ref Dl] ++ [x1, x2, x3]))) pl = some (.lst (zs.map V.int)) := by rw [upd_ne (ne_of_none epl9 np5)]; exact epl9
    have ep5 : (upd H9 p5 (.lst ([V.ref Dl] ++ [x1, x2, x3]))) p5 = some (.lst ([V.ref Dl] ++ [x1, x2, x3])) := upd_same
    have hp5b : p5 ≠ b := fun z => B9.at_.nn (by rw [← z]; exact np5)
    have hdr9 := dp_mono g9.gg hdr5
    have hL9 := g9.gg.seq hL5
    have hall : DpAll K G9 ([V.ref Dl] ++ [x1, x2, x3]) ([col l m, z1, z2, z3].map dInts) := .cons (dp_mono g9.gg hd5) (.cons w1 (.cons w2 (.cons w3 .nil)))
    have hagr : ∀ y ∈ [col l m, z1, z2, z3], Agr fs (l.length + 1) y := fun y hy => by
      simp only [List.mem_cons, List.not_mem_nil, or_false] at hy
      rcases hy with h | h | h | h <;> subst h <;> assumption
    generalize hxs : [V.ref Dl] ++ [x1, x2, x3] = oxs at BC gC eplC ep5 hall ⊢
    have hxsl : oxs.length = 4 := by rw [← hxs]; rfl
    generalize [col l m, z1, z2, z3] = oys at hall hagr
    have el : ∀ y, Agr fs (l.length + 1) y → y.length = l.length := fun y h => by have := h.len; omega
    generalize upd H9 p5 (.lst oxs) = HC at BC gC eplC ep5 ⊢
    have fnd9 : ∀ {H' : Hp}, Same G9 H' → H' pl = some (.lst (zs.map V.int)) → Same (upd G9 pl (.lst (zs.map V.int))) H' := fun s e => same_abs s e
    have fdp9 : Dp K (upd G9 pl (.lst (zs.map V.int))) (.ref pl) (dInts zs) := dp_lst upd_same (dpa_ints zs)
    have fup9 : Same G9 (upd G9 pl (.lst (zs.map V.int))) := same_up gpl9
    clear B9 B8 B7 B5 gA8 gA7 gA5 gA4 g9 epl9 ep39 ep4 epl8 ep3 epl7 np5 np3 hp4 gp4 w1 w2 w3 a1 a2 a3 fnd fdp fup
    refine ⟨_, rfl, p5, rfl, ⟨_, SqL.of ep5⟩, for_list (K := K) (a := p5) (xs := oxs) (fun i σ H' => ∃ y14, σ = [some (.ref b), some (.ref al), some (.ref at_), some (.ref as), some (.int m), some (.ref ak), some (.int low), some (vOI high), some (.ref Dl), none, some (.ref pr), some (.str "sizes"), some (.ref pl), some (.ref p5), y14, none, none] ∧ Grow M0 G9 HC G9 H')
      ⟨none, rfl, Grow.refl BC.sub⟩ (fun i σ H' _ hP => ?_) (fun i x σ H' hi hP => ?_) (fun σ H' hP => ?_)⟩
    · obtain ⟨_, _, g⟩ := hP
      exact SqL.of (g.same _ _ ep5)
    · obtain ⟨y14, rfl, g⟩ := hP
      obtain ⟨d0, hd0, hx⟩ := dpa_getV hall hi
      obtain ⟨y, hy, rfl⟩ := get_map hd0
      have ay := hagr y (List.mem_of_getElem? hy)
      have yl := el y ay
      have epl1 := g.same _ _ eplC
      refine ⟨_, rfl, _, rfl, al, lxs, rfl, .inl (g.sub.seq hL9), _, _, y, g.sub, by rw [hxl, yl]; rfl, hx, by omega, ay.pos, fun u6 G6 H6 g6 hu6 => ?_⟩
      have eu6 := dp_bl hu6
      subst eu6
      refine ⟨true, rfl, iteF ?_⟩
      have h6 := g.trans (g6.small (Same.refl _))
      refine ⟨_, rfl, _, rfl, _, _, _, y, fs, h6.sub, rfl, hx, hdr9, by omega, by rw [yl]; exact inn, ay.sat, fun u7 G7 H7 g7 hu7 => ?_⟩
      have eu7 := dp_bl hu7
      subst eu7
      refine ⟨true, rfl, iteF ?_⟩
      have h7 := h6.trans (g7.small (Same.refl _))
      have epl7 := g7.same _ _ (g6.same _ _ epl1)
      refine ⟨_, rfl, _, rfl, _, _, _, zs, y, fnd9 h7.sub epl7, rfl, fdp9, dp_mono fup9 hx, by omega, by omega, fun i hi => hlez y ay i (by omega), fun u8 G8 H8 g8 hu8 => ?_⟩
      have eu8 := dp_bl hu8
      subst eu8
      refine ⟨true, rfl, iteF ?_⟩
      exact ⟨_, rfl, h7.trans (g8.small fup9)⟩
    · obtain ⟨y14, rfl, g⟩ := hP
      have ep51 := g.same _ _ ep5
      have epl1 := g.same _ _ eplC
      have B1 := BC.grow g
      have gC1 := gC.trans g.weak
      refine ⟨_, rfl, p5, rfl, ⟨_, SqL.of ep51⟩, for_list (K := K) (a := p5) (xs := oxs) (fun i σ H2 => ∃ y14, σ = [some (.ref b), some (.ref al), some (.ref at_), some (.ref as), some (.int m), some (.ref ak), some (.int low), some (vOI high), some (.ref Dl), none, some (.ref pr), some (.str "sizes"), some (.ref pl), some (.ref p5), y14, none, none] ∧ Grow (Mb b) G9 H' G9 H2 ∧ BG K b bx G9 H2)
        ⟨y14, rfl, Grow.refl B1.sub, B1⟩ (fun i σ H2 _ hP => ?_) (fun i x σ H2 hi hP => ?_) (fun σ H2 hP => ?_)⟩
      · obtain ⟨_, _, g2, _⟩ := hP
        exact SqL.of (g2.keep p5 _ hp5b ep51)
      · obtain ⟨y14', rfl, g2, B2⟩ := hP
        obtain ⟨d0, hd0, hx⟩ := dpa_getV hall hi
        obtain ⟨y, hy, rfl⟩ := get_map hd0
        have ay := hagr y (List.mem_of_getElem? hy)
        have yl := el y ay
        refine ⟨_, rfl, _, rfl, G9, b, bx, 4, B2, rfl, by decide, by decide, fun k3 H3 g3 B3 k30 k31 => ?_⟩
        obtain ⟨kn, rfl⟩ : ∃ n : Nat, k3 = n := ⟨k3.toNat, by omega⟩
        have hkn : oxs[kn]? = some (oxs[kn]'(by omega)) := List.getElem?_eq_getElem _
        generalize oxs[kn]'(by omega) = xk at hkn
        obtain ⟨d1, hd1', hxk⟩ := dpa_getV hall hkn
        obtain ⟨yk, hyk, rfl⟩ := get_map hd1'
        have ayk := hagr yk (List.mem_of_getElem? hyk)
        have ykl := el yk ayk
        have g23 := g2.trans g3
        refine ⟨p5, _, (kn : Nat), _, rfl, rfl, SqL.of (g23.keep p5 _ hp5b ep51), atI_nat hkn, _, rfl, G9, _, _, yk, y, B3.sub, rfl, hxk, hx, by omega, by omega, fun u4 G4 H4 g4 hu4 => ?_⟩
        refine ⟨_, rfl, G4, _, _, lowr yk y, fs, g4.sub, rfl, hu4, dp_mono g4.gg hdr9, by rw [lowr_len]; omega, by rw [lowr_len, ykl]; exact inn, fun f hf => sat_low (ayk.sat f hf) (ay.sat f hf) (by rw [ykl]; exact (inn f hf).1) (by rw [ykl]; exact (inn f hf).2), fun u5 G5' H5' g5 hu5 => ?_⟩
        have eu5 := dp_bl hu5
        subst eu5
        refine ⟨true, rfl, iteF ?_⟩
        have g45 := (g4.trans g5).small (Same.refl _)
        exact ⟨_, rfl, g23.trans g45.weak, B3.grow g45⟩
      · obtain ⟨y14', rfl, g2, B2⟩ := hP
        have epl2 := g2.keep pl _ hplb epl1
        have gC2 := gC1.trans g2
        -- kept
        have B3k : Same G9 H2 := B2.sub
        refine ⟨_, rfl, pl, _, rfl, .inl (SqL.of epl2), fun pk npk => ?_⟩
        have gn3 : Grow (Mb b) G9 H2 (upd G9 pk (.lst (zs.map V.int))) (upd H2 pk (.lst (zs.map V.int))) := grow_new B2.sub npk
        have B3 := B2.step gn3 (B2.at_.up npk)
        have gC3 := gC2.trans gn3
        have hk3 : Dp K (upd G9 pk (.lst (zs.map V.int))) (.ref pk) (dInts zs) := dp_lst upd_same (dpa_ints zs)
        have epl3 : (upd H2 pk (.lst (zs.map V.int))) pl = some (.lst (zs.map V.int)) := by rw [upd_ne (ne_of_none epl2 npk)]; exact epl2
        have gpl3 : (upd G9 pk (.lst (zs.map V.int))) pl = none := by rw [upd_ne (ne_of_none epl2 npk)]; exact gpl9
        generalize upd G9 pk (.lst (zs.map V.int)) = G3' at B3 gC3 hk3 gpl3
        generalize upd H2 pk (.lst (zs.map V.int)) = H3' at B3 gC3 epl3
        clear gn3 npk B3k
        -- found.append(1)
        refine ⟨.ref pl, rfl, .inl ⟨rfl, _, SqL.of epl3⟩, pl, _, _, rfl, rfl, epl3, szl (by rw [List.length_map]; omega), ?_⟩
        have gC4 := gC3.mut (o := .lst (zs.map V.int ++ [.int 1])) hplH gpl3
        have B4' : BG K b bx G3' (upd H3' pl (.lst (zs.map V.int ++ [.int 1]))) := ⟨gC4.sub, B3.out, B3.bv, B3.at_.upn hplb.symm⟩
        generalize upd H3' pl (.lst (zs.map V.int ++ [.int 1])) = H4' at gC4 B4'
        -- again
        refine ⟨_, rfl, _, rfl, _, rfl, _, rfl, _, rfl, rfl, rfl, G3', _, _, ts, seenOf l ts, m, low, high, B4'.sub, rfl, dp_mono gC4.gg hdt, dp_mono gC4.gg hds, hv, hk10, hn100, by rw [htl, hfsE]; exact ok0, fun qt ql G6 H6 g6 hql hqt gql gqt hqne eqt eql => ?_⟩
        rw [htl, hfsE, hzs] at eql
        have g7 := g6.abs hql gql eql
        have gqt7 : (upd G6 ql (.lst (zs.map V.int))) qt = none := by rw [upd_ne hqne.symm]; exact gqt
        have g8 := g7.abs hqt gqt7 eqt
        have hag : Dp K (upd (upd G6 ql (.lst (zs.map V.int))) qt (.tup [.str "sizes", .ref ql])) (.ref qt) (dSz zs) :=
          dp_tpl upd_same (.cons (.str _) (.cons (dp_lst (by rw [upd_ne hqne]; exact upd_same) (dpa_ints zs)) .nil))
        have B8' := B4'.grow g8
        have gC8 := gC4.trans g8.weak
        have hk8 := dp_mono g8.gg hk3
        generalize upd (upd G6 ql (.lst (zs.map V.int))) qt (.tup [.str "sizes", .ref ql]) = G8' at B8' gC8 hag hk8
        clear g6 g7 g8 gqt7 hql hqt gql gqt
        -- alike
        refine ⟨_, rfl, _, rfl, sz2, fun pn npn => ?_⟩
        have gn9 : Grow (Mb b) G8' H6 (upd G8' pn (.tup [.str "sizes", .ref pk])) (upd H6 pn (.tup [.str "sizes", .ref pk])) := grow_new B8'.sub npn
        have B9' := B8'.step gn9 (B8'.at_.up npn)
        refine ⟨_, qt, pn, zs, B9'.sub, rfl, dp_mono gn9.gg hag, dp_tpl upd_same (.cons (.str _) (.cons (dp_mono gn9.gg hk8) .nil)), by omega, hsm, true, rfl, iteT ⟨_, rfl, ?_⟩⟩
        exact q _ _ _ (gC8.trans gn9) B9' (dp_mono gn9.gg hk8)
end
end Tw
end
section
namespace Tw
open PySem PySem.Spec PyProof.Rows L2
open Tf (psum psum_zero psum_succ Sat Agr Ok lts difs)
/-- a column that keeps the facts of its measure -/
def ColOk (l : Log) (ts : Tiers) (j : Nat) (c : List Int) : Prop := ∃ low high, Agr (Tf.factsM ts (seenOf l ts) j low high) (l.length + 1) c
/-- the log made of columns -/
def made (cs : List (List Int)) (n : Nat) : Log := (List.range n).map fun i => cs.map fun c => c.getD i 0
theorem made_len (cs : List (List Int)) (n : Nat) : (made cs n).length = n := by unfold made; rw [List.length_map, List.length_range]
theorem made_mem {cs : List (List Int)} {n : Nat} {e : List Int} (h : e ∈ made cs n) : e.length = cs.length := by
  unfold made at h
  obtain ⟨i, _, rfl⟩ := List.mem_map.mp h
  rw [List.length_map]
theorem col_made {cs : List (List Int)} {n j : Nat} {c : List Int} (h : cs[j]? = some c) (hc : c.length = n) : col (made cs n) j = c := by
  unfold col made
  rw [List.map_map]
  apply List.ext_getElem?
  intro i
  by_cases hi : i < n
  · rw [List.getElem?_map, List.getElem?_range hi]
    show some ((cs.map fun c => c.getD i 0).getD j 0) = c[i]?
    have h1 : (cs.map fun c => c.getD i 0)[j]? = some (c.getD i 0) := by rw [List.getElem?_map, h]; rfl
    have h2 : c[i]? = some c[i] := List.getElem?_eq_getElem (by omega)
    rw [getD_of h1, h2, getD_of h2]
  · rw [List.getElem?_eq_none (by rw [List.length_map, List.length_range]; omega), List.getElem?_eq_none (by omega)]
/-- what is made of such columns is seen as the log was -/
theorem made_seen {l : Log} {ts : Tiers} {width : Nat} {cs : List (List Int)} (S : SceneOk width l ts) (hcl : cs.length = width) (hc : ∀ (j : Nat) (c : List Int), cs[j]? = some c → ColOk l ts j c) : seenOf (made cs l.length) ts = seenOf l ts := by
  have key := Tf.seen_alike (Tm := Tm l) (ts := ts) (n := l.length) (T' := Tm (made cs l.length)) (fun q hq => (S.to q hq).2) (fun q hq => ?_) (fun q hq i hi => ?_)
  · unfold seenOf Tf.sight
    rw [made_len]
    refine List.map_congr_left fun i hi => ?_
    exact key (i + 1) (by have := List.mem_range.mp hi; omega)
  · have hj : q.1 < cs.length := by rw [hcl]; exact (S.to q hq).1
    have hg := List.getElem?_eq_getElem hj
    obtain ⟨low, high, ag⟩ := hc q.1 _ hg
    refine ⟨low, high, fun f hf => ?_⟩
    show Sat (psum (col (made cs l.length) q.1)) f
    rw [col_made hg (by have := ag.len; omega)]
    exact ag.sat f hf
  · have hj : q.1 < cs.length := by rw [hcl]; exact (S.to q hq).1
    have hg := List.getElem?_eq_getElem hj
    obtain ⟨low, high, ag⟩ := hc q.1 _ hg
    show psum (col (made cs l.length) q.1) i ≤ psum (col (made cs l.length) q.1) (i + 1)
    rw [col_made hg (by have := ag.len; omega)]
    have hil : i < cs[q.1].length := by have := ag.len; omega
    have hi2 := List.getElem?_eq_getElem hil
    rw [psum_succ hi2]
    have := ag.pos _ (List.getElem_mem hil)
    omega
theorem BG.small {K : PySem.W.Frag} {b bx : Addr} {G H0 G1 H1 : Hp} (B0 : BG K b bx G H0) (B1 : BG K b bx G1 H1) (s : Same G G1) : BG K b bx G H1 := ⟨s.trans B1.sub, B0.out, B0.bv, B1.at_⟩
theorem units65 {k : Nat} {A : Around} (r : Room k A) : A.units + 65 < cLine := by have := r.un; omega
def stBody : Stmt → List Stmt
  | .For _ _ b _ _ => b
  | _ => []
end Tw
end
section
set_option maxHeartbeats 8000000
namespace Tw
open PySem PySem.Spec PyProof.Rows L2
open Tf (psum psum_zero psum_succ Sat Agr Ok lts difs)
theorem gva_abs {K : PySem.W.Frag} {G H G' H' : Hp} {pt pl : Addr} {zs : List Int} (g : Grow M0 G H G' H') (hpl : H pl = none) (hpt : H pt = none) (gpl : G' pl = none) (gpt : G' pt = none) (hne : pl ≠ pt) (ept : H' pt = some (.tup [.str "sizes", .ref pl])) (epl : H' pl = some (.lst (zs.map V.int))) :
    ∃ G2, Grow M0 G H G2 H' ∧ Dp K G2 (.ref pt) (dSz zs) := by
  have g7 := g.abs hpl gpl epl
  have gpt7 : (upd G' pl (.lst (zs.map V.int))) pt = none := by rw [upd_ne hne.symm]; exact gpt
  exact ⟨_, g7.abs hpt gpt7 ept, dp_tpl upd_same (.cons (.str _) (.cons (dp_lst (by rw [upd_ne hne]; exact upd_same) (dpa_ints zs)) .nil))⟩
section
variable {P : Program} {w : World} {K : PySem.W.Frag} {mg : Str → Option Value} {base : Heap}
/-! ### law -/
abbrev sLaw : Stmt := topS 51
abbrev nLaw : List Str := ["_law_script", "_law_bag_here", "_law_long", "_law_turn", "_law_width", "_law_log_here", "_law_tiers_here", "_law_seen_here", "_law_columns", "_law_measure", "_law_found", "_law_made", "_law_column", "_law_number"]
abbrev psLaw : List Str := ["_law_script"]
abbrev cLaw : Scope := relS (compSc (retEx ((stBody ((defBody sLaw).getD 2 (topS 0))).getD 6 (topS 0)))) (defScope sLaw)
theorem scLaw : FnScope nLaw psLaw (defScope sLaw) := ⟨rfl, rfl, rfl, by decide +kernel, rfl, by decide +kernel, by decide +kernel⟩
def spLaw (K : PySem.W.Frag) : Sp := fun vs H Q _ => ∃ (a : Addr) (ns : List Int), vs = [.ref a] ∧ SqL K H a (ns.map V.int) ∧ ns.length ≤ 63 ∧ ∀ H', Q (.bl true) H'
theorem ok_law {fa : Addr} {fd : FuncData} (F : L2.Fun K "law" "law" sLaw fa fd) (C__law_bag : Cal P w K mg base 1 "_law_bag" ["_law_script"] (spBag K)) (C__law_take : Cal P w K mg base 1 "_law_take" psBM (spTake K)) (C__law_scene : Cal P w K mg base 4 "_law_scene" psScene (spScene K)) (C__law_long_scene : Cal P w K mg base 2 "_law_long_scene" psLong (spLong K))
    (C_sighting : Cal P w K mg base 2 "sighting" ["log", "tiers"] (spSight K)) (C_agreeing : CalK P w K mg base 5 "agreeing" psTS 3 (spAgr K)) (C__law_alike : CalG P w K mg base 1 "_law_alike" nAlike (spAlike K)) (C__law_right : CalG P w K mg base 8 "_law_right" psRight (spRight K)) (C__law_bounds : Cal P w K mg base 2 "_law_bounds" psBounds (spBounds K))
    (z_range : mg "range" = none) (z_int : mg "int" = none) (z_len : mg "len" = none) (z_tuple : mg "tuple" = none) : FnOkG P w K mg base 9 fa fd psLaw (spLaw K) := by
  refine FnOkG.body F scLaw (fun vs H Q E h => ?_) (fun cdv A outer s H vs Q E hg hr h => ?_)
  · obtain ⟨a, ns, rfl, _⟩ := h
    rfl
  · obtain ⟨a, ns, rfl, hL, hnl, q⟩ := h
    refine ⟨_, (pss_cons (ps_set (i := 1) scLaw.nd rfl (.inl rfl) (pe_cal C__law_bag (hr.mono (by decide)) (by rfl) (pa_cons (pv 0) pa_nil)))
  (pss_cons (ps_set (i := 2) scLaw.nd rfl (.inl rfl) (pe_cmpR op_eq (pe_cal C__law_take (hr.mono (by decide)) (by rfl) (pa_cons (pv 1) (pa_cons pe_int pa_nil))) pe_int (nomark _)))
  (pss_cons (ps_for PassesOwn.never rfl (pi_range1 (by rfl) z_range (pa_cons (pe_ix (r := rIxL K) ix_list (pe_lst (pa_cons pe_int (pa_cons pe_int pa_nil))) (pe_callTy call_int1 (by rfl) z_int (by decide +kernel) (pa_cons (pv 2) pa_nil)) (fun _ _ => rfl)) pa_nil)) (pg_name (i := 3) scLaw.nd rfl (.inl rfl))
  (pss_cons (ps_asg (pe_cal C__law_scene (hr.mono (by decide)) (by rfl) (pa_cons (pv 1) (pa_cons pe_int pa_nil))) (pg_tup rfl (pgs_cons (pg_name (i := 4) scLaw.nd rfl (.inl rfl)) (pgs_cons (pg_name (i := 5) scLaw.nd rfl (.inl rfl)) (pgs_cons (pg_name (i := 6) scLaw.nd rfl (.inl rfl)) pgs_nil)))))
  (pss_cons (ps_if (pt_val (pv 2))
  (pss_one (ps_asg (pe_cal C__law_long_scene (hr.mono (by decide)) (by rfl) (pa_cons (pv 1) pa_nil)) (pg_tup rfl (pgs_cons (pg_name (i := 4) scLaw.nd rfl (.inl rfl)) (pgs_cons (pg_name (i := 5) scLaw.nd rfl (.inl rfl)) (pgs_cons (pg_name (i := 6) scLaw.nd rfl (.inl rfl)) pgs_nil))))))
  pss_nil)
  (pss_cons (ps_set (i := 7) scLaw.nd rfl (.inl rfl) (pe_cal C_sighting (hr.mono (by decide)) (by rfl) (pa_cons (pv 5) (pa_cons (pv 6) pa_nil))))
  (pss_cons (ps_set (i := 8) scLaw.nd rfl (.inr rfl) (pe_lst pa_nil))
  (pss_cons (ps_for PassesOwn.never rfl (pi_range1 (by rfl) z_range (pa_cons (pv 4) pa_nil)) (pg_name (i := 9) scLaw.nd rfl (.inl rfl))
  (pss_cons (ps_set (i := 10) scLaw.nd rfl (.inl rfl) (pe_cal0 C_agreeing (hr.mono (by decide)) (by rfl) (pa_cons (pv 6) (pa_cons (pv 7) (pa_cons (pv 9) pa_nil)))))
  (pss_cons (ps_if (pt_not (pt_val (pe_calG hg C__law_alike (hr.mono (by decide)) (by rfl) (pa_cons (pv 10) (pa_cons (pe_calK C_agreeing (hr.mono (by decide)) (by rfl) (pa_cons (pv 6) (pa_cons (pv 7) (pa_cons (pv 9) pa_nil))) (pk_cons pe_int (pk_cons pe_non pk_nil))) pa_nil)))))
  (pss_one (ps_ret pe_bl))
  pss_nil)
  (pss_one (ps_expr (pe_bm PySem.F.plainAttrs_list PySem.F.slot_list_append PySem.F.type_list_append mt_append (pv 8) (pa_cons (pe_calG hg C__law_right (hr.mono (by decide)) (by rfl) (pa_cons (pv 1) (pa_cons (pv 5) (pa_cons (pv 6) (pa_cons (pv 7) (pa_cons (pv 9) (pa_cons (pe_cal C__law_bounds (hr.mono (by decide)) (by rfl) (pa_cons (pv 1) (pa_cons (pv 5) (pa_cons (pv 9) pa_nil)))) pa_nil))))))) pa_nil)))))))
  (pss_cons (ps_if (pt_cmpR (op_inD (units65 hr)) pe_non (pv 8) (by rfl))
  (pss_one (ps_ret pe_bl))
  pss_nil)
  (pss_cons (ps_setLc (i := 11) (own := [("_law_number", 13)]) (g := (gName 13)) (tt := tYes) rfl scLaw.nd rfl rfl (sw_true rfl rfl rfl (by decide +kernel)) (pi_range1 (by rfl) z_range (pa_cons (pe_callB (r := rLn K) call_len_seq (by rfl) z_len PySem.boot_len (pa_cons (pv 5) pa_nil)) pa_nil)) (blkOk_by (N := nLaw) (sc := defScope sLaw) (by decide +kernel)) (fun _ _ _ _ _ => (pg_name (i := 13) scLaw.nd rfl (.inr rfl))) (fun _ _ _ _ _ => pts_nil) (fun _ _ _ _ _ => (pe_callTy (r := rTpl K) call_tuple_of (by rfl) z_tuple (by decide +kernel) (pa_cons (pe_lc (own := [("_law_column", 12)]) (g := (gName 12)) (tt := tYes) (wi := (iList K (tVar 8))) rfl scLaw.nd (pi_list (pv 8)) (blkOk_by (N := nLaw) (sc := cLaw) (by decide +kernel)) (fun _ _ _ _ _ => (pg_name (i := 12) scLaw.nd rfl (.inl rfl))) (fun _ _ _ _ _ => pts_nil) (fun _ _ _ _ _ => (pe_ix (r := rIxL K) ix_list (pv 12) (pv 13) (fun _ _ => rfl)))) pa_nil))))
  (pss_one (ps_if (pt_cmpR (op_neD hr.units) (pe_cal C_sighting (hr.mono (by decide)) (by rfl) (pa_cons (pv 11) (pa_cons (pv 6) pa_nil))) (pv 7) (nomark _))
  (pss_one (ps_ret pe_bl))
  pss_nil))))))))))
  (pss_one (ps_ret pe_bl))))), ?_⟩
    -- bag, long
    refine ⟨_, rfl, H, a, ns, Same.refl _, rfl, hL, hnl, fun b bx G0 H0 g0 B0 => ?_⟩
    refine ⟨_, rfl, G0, b, bx, 8, B0, rfl, by decide, by decide, fun v1 H1 g1 B1 v10 v11 => ?_⟩
    refine ⟨rfl, ?_⟩
    dsimp only
    generalize decide (V.int v1 = V.int 0) = long
    -- for turn in range
    refine ⟨sz2, fun p np => ?_⟩
    have B2 := B1.loc (o := .lst [.int 3, .int 1]) np
    have ep : (upd H1 p (.lst [.int 3, .int 1])) p = some (.lst [.int 3, .int 1]) := upd_same
    generalize upd H1 p (.lst [.int 3, .int 1]) = H2 at B2 ep
    have hix : ∃ (k : Int) (n : Nat), V.int (if long = true then 1 else 0) = .int k ∧ atI [V.int 3, .int 1] k = some (.int n) ∧ n < 10 := by
      cases long
      · exact ⟨0, 3, rfl, rfl, by decide⟩
      · exact ⟨1, 1, rfl, rfl, by decide⟩
    obtain ⟨k, n, ek, ea, hn10⟩ := hix
    refine ⟨_, rfl, .inr ⟨_, rfl, p, _, k, _, rfl, ek, SqL.of ep, ea, (n : Int), rfl, by omega, by omega, ?_⟩⟩
    have en : ((n : Int)).toNat = n := by omega
    rw [en]
    clear ep ek ea np
    refine for_range (lo := 0) (n := n) (fun i σ H' => ∃ (y3 y4 y5 y6 y7 y8 y9 y10 y11 : Option V), σ = [some (.ref a), some (.ref b), some (.bl long), y3, y4, y5, y6, y7, y8, y9, y10, y11, none, none] ∧ BG K b bx G0 H') ⟨none, none, none, none, none, none, none, none, none, rfl, B2⟩ ?_ ?_
    · rintro i σ H3 hi ⟨y3, y4, y5, y6, y7, y8, y9, y10, y11, rfl, B3⟩
      -- scene
      refine ⟨_, rfl, G0, b, bx, 14, B3, rfl, by decide, by decide, fun v4 wi l ts G4 H4 g4 B4 hd4 hS => ?_⟩
      obtain ⟨b4, w1, w2, w3, rfl, hT4, k1, k2, k3⟩ := dp_tup3 hd4
      have ek1 := dp_int k1
      subst ek1
      refine ⟨b4, _, rfl, Same.tup B4.sub hT4, rfl, _, _, rfl, _, _, rfl, _, _, rfl, rfl, ?_⟩
      dsimp only
      refine tseq_tail (fun σ' H' => ∃ (y3 : Option V) (wi : Nat) (w2 w3 : V) (l : Log) (ts : Tiers) (G5 : Hp), σ' = [some (.ref a), some (.ref b), some (.bl long), y3, some (.int wi), some w2, some w3, y7, y8, y9, y10, y11, none, none] ∧ Same G0 G5 ∧ BG K b bx G5 H' ∧ Dp K G5 w2 (dLog l) ∧ Dp K G5 w3 (dTiers ts) ∧ SceneOk wi l ts)
        (fun σ' H5 hR => ?_) (fun kt => ?_)
      · obtain ⟨y3, wi, w2, w3, l, ts, G5, rfl, s5, B5, hdl, hdt, hS⟩ := hR
        clear hd4 hT4 k1 k2 k3 g4 B4 B3
        have hk10 : ts.length ≤ 10 := by have := hS.t1; omega
        have htl : (seenOf l ts).length = l.length := Tf.sight_len _ _ _
        have hl60 := hS.l1
        have hn100 : (seenOf l ts).length ≤ 100 := by rw [htl]; omega
        have hv : Tf.Valid ts.length (seenOf l ts) := Tf.sight_valid _ _ _
        have hw10 := hS.w1
        -- seen
        refine ⟨_, rfl, _, rfl, G5, w2, w3, l, ts, B5.sub, rfl, hdl, hdt, fun e he q hq => by rw [(hS.lo e he).1]; exact (hS.to q hq).1, fun q hq => (hS.to q hq).2, by omega, hk10, fun v6 G6 H6 g6 hds => ?_⟩
        have B6 := B5.grow g6
        have s6 := s5.trans g6.gg
        have hdl6 := dp_mono g6.gg hdl
        have hdt6 := dp_mono g6.gg hdt
        clear g6 hdl hdt B5 s5
        -- columns
        refine ⟨Nat.zero_le _, fun pc npc => ?_⟩
        have hpcb : b ≠ pc := ne_nn B6.at_.nn npc
        have gpc6 : G6 pc = none := same_none B6.sub npc
        refine ⟨_, rfl, (wi : Int), rfl, by omega, by omega, ?_⟩
        have ew : ((wi : Int)).toNat = wi := by omega
        rw [ew]
        refine for_range (lo := 0) (n := wi) (fun j σ H' => ∃ (y9 y10 : Option V) (G' : Hp) (acc : List V) (cs : List (List Int)), σ = [some (.ref a), some (.ref b), some (.bl long), y3, some (.int wi), some w2, some w3, some v6, some (.ref pc), y9, y10, y11, none, none] ∧
          Grow (Mb b) G6 H6 G' H' ∧ BG K b bx G' H' ∧ G' pc = none ∧ H' pc = some (.lst acc) ∧ DpAll K G' acc (cs.map dInts) ∧ cs.length = j ∧ ∀ (k : Nat) (c : List Int), cs[k]? = some c → ColOk l ts k c)
          ⟨y9, y10, G6, [], [], rfl, grow_loc B6.sub npc, B6.loc npc, gpc6, upd_same, .nil, rfl, fun k c h => by simp at h⟩ ?_ ?_
        · rintro j σ H7 hj ⟨y9, y10, G7, acc, cs, rfl, g7, B7, gpc7, epc7, hacc, hcs, hcol⟩
          have e0 : (0 : Int) + (j : Int) = (j : Int) := by omega
          rw [e0]
          have bnd := bnd_none (m := j) hS hj
          have ok0 := scene_ok hS bnd
          have ag0 := scene_agr hS hj bnd
          have hcb := col_nn hS.lo hj
          have hsm := least_small ok0 ag0 (fun z hz => (hcb z hz).2) (by omega)
          have agl : Agr (Tf.factsM ts (seenOf l ts) j 0 none) (l.length + 1) (difs (lts (Tf.factsM ts (seenOf l ts) j 0 none) (l.length + 1))) := Tf.agr_lts ok0
          have hzl : (difs (lts (Tf.factsM ts (seenOf l ts) j 0 none) (l.length + 1))).length ≤ 60 := by have := agl.len; omega
          clear agl
          -- found
          refine ⟨_, rfl, _, rfl, _, rfl, G7, w3, v6, ts, seenOf l ts, j, 0, none, B7.sub, rfl, dp_mono g7.gg hdt6, dp_mono g7.gg hds, hv, hk10, hn100, by rw [htl]; exact ok0, fun pt pl G8 H8 g8 hpl hpt gpl gpt hne ept epl => ?_⟩
          rw [htl] at epl
          generalize hzs : difs (lts (Tf.factsM ts (seenOf l ts) j 0 none) (l.length + 1)) = zs at epl hsm hzl
          obtain ⟨G8', g8', hf8⟩ := gva_abs (K := K) g8 hpl hpt gpl gpt hne ept epl
          have B8 := B7.grow g8'
          have g78 := g7.trans g8'.weak
          have epc8 := g8'.same _ _ epc7
          have gpc8 := g8'.new _ gpc7 (nn_of epc7)
          have hacc8 := dpa_mono g8'.gg hacc
          clear g8 hpl hpt gpl gpt ept epl g8'
          -- alike
          refine ⟨_, rfl, _, rfl, _, rfl, _, rfl, rfl, rfl, G8', w3, v6, ts, seenOf l ts, j, 0, none, B8.sub, rfl, dp_mono g78.gg hdt6, dp_mono g78.gg hds, hv, hk10, hn100, by rw [htl]; exact ok0, fun qt ql G9 H9 g9 hql hqt gql gqt hqne eqt eql => ?_⟩
          rw [htl, hzs] at eql
          obtain ⟨G9', g9', hf9⟩ := gva_abs (K := K) g9 hql hqt gql gqt hqne eqt eql
          have B9 := B8.grow g9'
          have g79 := g78.trans g9'.weak
          have epc9 := g9'.same _ _ epc8
          have gpc9 := g9'.new _ gpc8 (nn_of epc8)
          have hacc9 := dpa_mono g9'.gg hacc8
          refine ⟨G9', pt, qt, zs, B9.sub, rfl, dp_mono g9'.gg hf8, hf9, hzl, hsm, true, rfl, iteF ?_⟩
          clear g9 hql hqt gql gqt eqt eql g9' hf8 hf9 g78 B8 epc8 gpc8 hacc8
          -- right
          have hdl9 := dp_mono g79.gg hdl6
          have hdt9 := dp_mono g79.gg hdt6
          have hds9 := dp_mono g79.gg hds
          refine ⟨.ref pc, rfl, .inl ⟨rfl, _, SqL.of epc9⟩, _, rfl, _, rfl, _, rfl, _, rfl, _, rfl, _, rfl, _, rfl, _, rfl, G9', b, bx, wi, j, w2, l, B9, rfl, hdl9, hS.lo, hj, hS.l0, hl60, fun vk low high G10 H10 g10 B10 hdk hbd => ?_⟩
          refine ⟨G10, b, bx, w2, w3, v6, vk, l, ts, wi, j, low, high, B10, rfl, dp_mono g10.gg hdl9, dp_mono g10.gg hdt9, dp_mono g10.gg hds9, hdk, hS, hj, hbd, fun u G11 H11 g11 B11 hu => ?_⟩
          have gE := g10.trans g11
          have epc11 := gE.keep pc _ (fun z => hpcb z.symm) epc9
          have gpc11 := gE.new _ gpc9 (nn_of epc9)
          have gA := g79.trans gE
          have agr : ColOk l ts j (difs (lts (Tf.factsM ts (seenOf l ts) j low high) (l.length + 1))) := ⟨low, high, Tf.agr_lts (scene_ok hS hbd)⟩
          generalize difs (lts (Tf.factsM ts (seenOf l ts) j low high) (l.length + 1)) = zc at agr hu
          refine ⟨pc, acc, u, rfl, rfl, epc11, szl (by rw [dpa_len hacc9, List.length_map]; omega), ?_⟩
          have gM := gA.mut (o := .lst (acc ++ [u])) npc gpc11
          refine ⟨_, _, G11, acc ++ [u], cs ++ [zc], rfl, gM, ⟨gM.sub, B11.out, B11.bv, B11.at_.upn hpcb⟩, gpc11, upd_same, ?_, by rw [List.length_append, hcs]; rfl, fun k c hk => ?_⟩
          · rw [List.map_append]
            exact dpa_app (dpa_mono gE.gg hacc9) (dpa_one hu)
          · by_cases hlt : k < cs.length
            · rw [List.getElem?_append_left hlt] at hk
              exact hcol k c hk
            · rw [List.getElem?_append_right (by omega)] at hk
              have hk0 : k - cs.length = 0 := by
                cases hq : k - cs.length with
                | zero => rfl
                | succ r => rw [hq] at hk; simp at hk
              rw [hk0] at hk
              simp at hk
              subst hk
              have : k = j := by omega
              rw [this]
              exact agr
        · rintro σ H7 ⟨y9, y10, G7, acc, cs, rfl, g7, B7, gpc7, epc7, hacc, hcs, hcol⟩
          have gA := g7.abs npc gpc7 epc7
          have BA : BG K b bx (upd G7 pc (.lst acc)) H7 := ⟨gA.sub, by rw [upd_ne hpcb]; exact B7.out, by
            obtain ⟨xs, hx1, hx2⟩ := B7.bv
            exact ⟨xs, (same_up gpc7).seq hx1, hx2⟩, B7.at_⟩
          have hdc : Dp K (upd G7 pc (.lst acc)) (.ref pc) (.list (cs.map dInts)) := dp_lst upd_same (dpa_mono (same_up gpc7) hacc)
          have hLc : SqL K (upd G7 pc (.lst acc)) pc acc := SqL.of upd_same
          have hAc : DpAll K (upd G7 pc (.lst acc)) acc (cs.map dInts) := dpa_mono (same_up gpc7) hacc
          generalize upd G7 pc (.lst acc) = GA at gA BA hdc hLc hAc
          clear g7 B7 gpc7 epc7 hacc
          have hdlA := dp_mono gA.gg hdl6
          have hdtA := dp_mono gA.gg hdt6
          have hdsA := dp_mono gA.gg hds
          have sA := s6.trans gA.gg
          -- None in columns
          refine ⟨_, rfl, .none, cs.map dInts, .non, dp_mono BA.sub hdc, flat_none.shaped (n := 0) (by decide), (flat_list (flat_map fun c _ => flat_ints c)).shaped (by decide), _, rfl, ?_⟩
          have hany : ((cs.map dInts).any fun z => PyData.eqv z .none) = false := by
            rw [List.any_map, List.any_eq_false]
            intro c _
            show ¬ PyData.eqv (dInts c) .none = true
            rw [show dInts c = .list (c.map PyData.int) from rfl, eqv_list_none]
            exact Bool.false_ne_true
          rw [hany]
          refine iteF ?_
          -- made
          obtain ⟨al, lxs, rfl, hLl, hAl⟩ := dp_list hdlA
          have hxl : lxs.length = l.length := by rw [dpa_len hAl, List.length_map]
          refine ⟨_, rfl, al, lxs, rfl, .inl (BA.sub.seq hLl), _, rfl, by omega, by omega, fun Dm hDm => ?_⟩
          have enl : ((lxs.length : Int)).toNat = l.length := by omega
          rw [enl]
          have hcl : ∀ (k : Nat) (c : List Int), cs[k]? = some c → c.length = l.length := fun k c hk => by
            obtain ⟨low, high, ag⟩ := hcol k c hk
            have := ag.len
            omega
          refine lc_pure (K := K) (Q := fun x H1 => gName 11 x _ H1 _) (walk_range (lo := 0) (n := l.length)) ((made cs l.length).map dEn) BA.sub hDm (by rw [List.length_map, made_len]) (by omega) (fun _ _ _ => trivial) (fun n x G8 H8 H8' d hi g8 y E hE => ?_) (fun G8 H8 g8 hd8 => ?_) gm_name
          · obtain ⟨rfl, rfl⟩ := y
            obtain ⟨e, he, rfl⟩ := get_map hi
            unfold made at he
            obtain ⟨hnl, rfl⟩ := range_get he
            have e0 : (0 : Int) + (n : Int) = (n : Int) := by omega
            show gName _ (V.int (0 + (n : Int))) _ _ _
            rw [e0]
            have hLc8 := g8.gg.seq hLc
            refine ⟨rfl, _, rfl, pc, rfl, ⟨_, g8.sub.seq hLc8⟩, fun D3 hD3 => ?_⟩
            refine lc_pure (K := K) (Q := fun x H1 => tNil _ H1 fun xs H2 => rTpl K (x :: xs) H2 E) (walk_list (K := K) (a := pc) (xs := acc)) ((cs.map fun c => c.getD n 0).map PyData.int) g8.sub hD3 (by rw [List.length_map, List.length_map, dpa_len hAc, List.length_map]) (by rw [dpa_len hAc, List.length_map]; omega) (fun G9 H9 g9 => g9.sub.seq (g9.gg.seq hLc8)) (fun k x G9 H9 H9' d hi g9 y E hE => ?_) (fun G9 H9 g9 hd9 => ?_) gm_name
            · obtain ⟨rfl, hx⟩ := y
              obtain ⟨d0, hd0, hv0⟩ := dpa_getV hAc hx
              obtain ⟨c, hc, rfl⟩ := get_map hd0
              obtain ⟨z, hz, rfl⟩ := get_map hi
              obtain ⟨c', hc', rfl⟩ := get_map hz
              rw [hc] at hc'
              cases hc'
              obtain ⟨ac, cxs, rfl, hLx, hAx⟩ := dp_list hv0
              have ecx := of_dpa_ints hAx
              subst ecx
              have hn2 : n < c.length := by rw [hcl k c hc]; exact hnl
              exact ⟨rfl, _, rfl, _, rfl, ac, _, (n : Nat), _, rfl, rfl, g9.sub.seq (g9.gg.seq (g8.gg.seq hLx)), atI_nat (getD_get hn2), hE _ _ _ (Grow.refl g9.sub) (.int _)⟩
            · obtain ⟨a9, xs9, e9, hL9, hA9⟩ := dp_list hd9
              cases e9
              refine ⟨D3, xs9, rfl, .inl ⟨g9.sub.seq hL9, fun pt npt => ?_⟩⟩
              exact hE (.ref pt) _ _ (g9.lay npt) (dp_tpl upd_same (dpa_mono (same_up (same_none g9.sub npt)) hA9))
          · have B8 := BA.grow g8
            refine ⟨_, rfl, _, rfl, G8, _, _, made cs l.length, ts, B8.sub, rfl, hd8, dp_mono g8.gg hdtA, fun e he q hq => by rw [made_mem he, hcs]; exact (hS.to q hq).1, fun q hq => (hS.to q hq).2, by rw [made_len]; omega, hk10, fun u G9 H9 g9 hu => ?_⟩
            have B9 := B8.grow g9
            have hu : Dp K G9 u (dSeen (seenOf (made cs l.length) ts)) := hu
            rw [made_seen hS hcs hcol] at hu
            have hfl := flat_seen (seenOf l ts)
            refine ⟨_, rfl, dSeen (seenOf l ts), dSeen (seenOf l ts), dp_mono B9.sub hu, dp_mono B9.sub (dp_mono (g8.gg.trans g9.gg) hdsA), hfl.shaped (by decide), hfl.shaped (by decide), _, rfl, ?_⟩
            rw [hfl.self]
            refine iteF ?_
            exact ⟨_, _, _, _, _, _, _, _, _, rfl, B2.small B9 (sA.trans (g8.gg.trans g9.gg))⟩
      · refine ⟨_, rfl, long, rfl, ?_⟩
        cases long
        · exact iteF (kt _ _ ⟨_, _, _, _, _, _, _, rfl, g4.gg, B4, k2, k3, hS⟩)
        · refine iteT ?_
          refine ⟨_, rfl, G4, b, bx, B4, rfl, fun v5 wi5 l5 ts5 G5 H5 g5 B5 hd5 hS5 => ?_⟩
          obtain ⟨b5, u1, u2, u3, rfl, hT5, m1, m2, m3⟩ := dp_tup3 hd5
          have em1 := dp_int m1
          subst em1
          refine ⟨b5, _, rfl, Same.tup B5.sub hT5, rfl, _, _, rfl, _, _, rfl, _, _, rfl, rfl, ?_⟩
          exact kt _ _ ⟨_, _, _, _, _, _, _, rfl, g4.gg.trans g5.gg, B5, m2, m3, hS5⟩
    · rintro σ H3 ⟨y3, y4, y5, y6, y7, y8, y9, y10, y11, rfl, B3⟩
      exact q _
end
end Tw
end
section
set_option maxHeartbeats 4000000
/-! The law's own call, under no repr. -/
namespace Tw
open PySem PySem.Spec PyProof.Rows L2
section
variable {P : Program} {w : World} {K : PySem.W.Frag} {mg mb : Str → Option Value} {s : Shared} {H : Hp} {a : Addr} {vs : List Value}
/-- where nothing but the script is tracked: what a callee wants -/
theorem env_script (KX : K.In s.heap) (hns : s.heap.Ns mainGlobals mg) (hb : s.heap.Ns builtinsNs mb) (hbb : ∀ x : Str, x ≠ "__name__" → mb x = bootBuiltins x) (hlim : s.heap.NoLimit) (hg : s.gens = #[])
    (ha : s.heap.get? a = some { cls := .type "list", data := .seq vs.toArray }) (hA : ∀ b, H b ≠ none → b = a) (hK : H a ≠ none → K.lookup a = none) (hok : HOk P w H s.heap) :
    K.In (hidT s.heap H) ∧ (hidT s.heap H).Ns mainGlobals mg ∧ Env0 P w K mg (hidT s.heap H) callerA [] s H := by
  have off : ∀ {b : Addr}, b ≠ a → H b = none := fun {b} hne => Classical.byContradiction fun z => hne (hA b z)
  have nsK : ∀ {b : Addr} {m : Str → Option Value}, s.heap.Ns b m → (hidT s.heap H).Ns b m := by
    rintro b m ⟨o, es, ep, e, d, r⟩
    refine ⟨o, es, ep, hidT_get e (off fun hba => ?_), d, r⟩
    subst hba
    rw [ha] at e
    cases e
    have d' : Data.seq vs.toArray _ = Data.dict es ep := d
    cases d'
  have kin : K.In (hidT s.heap H) := fun b o e => by
    refine hidT_get (KX b o e) (Classical.byContradiction fun z => ?_)
    have hba := hA b z
    subst hba
    rw [hK z] at e
    cases e
  refine ⟨kin, nsK hns, ⟨rfl, ⟨kin, nsK hns, ⟨mb, nsK hb, hbb⟩, ?_⟩, fun b o e => of_hidT e, Nat.le_of_eq (hidT_size _ _), trivial, fun b z => absurd (show b ∈ ([] : List Addr) from z) (by simp), hok, .of_eq hg⟩⟩
  obtain ⟨mc, h1, h2⟩ := hlim
  exact ⟨mc, nsK h1, h2⟩
/-- the script, known or tracked as fixed -/
theorem script_view (KX : K.In s.heap) (ha : s.heap.get? a = some { cls := .type "list", data := .seq vs.toArray }) {ns : List Int} (hi : IntsAre vs ns) (hl : ns.length ≤ sizeLine) :
    ∃ H : Hp, Only H ∧ SqL K H a (ns.map V.int) ∧ HOk P w H s.heap ∧ (∀ b, H b ≠ none → b = a) ∧ (H a ≠ none → K.lookup a = none) := by
  have rv := vals_ints hi
  cases hk : K.lookup a with
  | some o =>
    have e := KX a o hk
    rw [ha] at e
    cases e
    refine ⟨fun _ => none, fun _ => .inl rfl, .inr ⟨_, vs.toArray, _, hk, rfl, rfl, rfl, ?_, by simpa using rv⟩, fun b u z => absurd (show (none : Option HO) = some u from z) (fun q => by cases q), fun b z => absurd rfl z, fun z => absurd rfl z⟩
    rw [List.size_toArray, hi.length]
    exact hl
  | none =>
    have at1 : ∀ {b : Addr}, b ≠ a → (fun b => if b = a then some (HO.frz { cls := .type "list", data := .seq vs.toArray } (.lst (ns.map V.int))) else none) b = none := fun hne => if_neg hne
    have at2 : (fun b => if b = a then some (HO.frz { cls := .type "list", data := .seq vs.toArray } (.lst (ns.map V.int))) else none) a = some (HO.frz { cls := .type "list", data := .seq vs.toArray } (.lst (ns.map V.int))) := if_pos rfl
    refine ⟨_, fun b => ?_, .inl (.inr ⟨_, at2⟩), fun b u z => ?_, fun b z => Classical.byContradiction fun hne => z (at1 hne), fun _ => rfl⟩
    · by_cases hb : b = a
      · subst hb; exact .inr ⟨_, _, at2⟩
      · exact .inl (at1 hb)
    · by_cases hb : b = a
      · subst hb
        have z' := at2.symm.trans z
        cases z'
        exact ⟨ha, by rw [List.length_map]; exact hl, vs, _, rv, ha⟩
      · have z' := (at1 hb).symm.trans z
        cases z'
end
/-- the goal of the head, from the promise of a law's def -/
theorem walk_ofG {l : PySem.W.OpenLaw} {n k : Nat} {q : Program} {loose : List Str} {XP : (Str → Option Value) → Heap → Prop} {YP : World → Heap → Prop} {d : DefRec} {K : Params → PySem.W.Frag} {sp : PySem.W.Frag → Sp} {x : Str}
    (hn : l.most = some n) (hn2 : n ≤ sizeLine) (hdf : d.params.defaults = []) (hr : Room k callerA) (hY : ∀ (w : World) (h : Heap), YP w h → (K w.params).In h)
    (F : ∀ (w : World) (mg : Str → Option Value) (fa : Addr) (h : Heap), (K w.params).In h → h.Ns mainGlobals mg → mg d.name = some (.ref fa) →
      ∃ fd : FuncData, (∀ (s : Shared) (u : Value), BindsTo s fd ⟨[u], []⟩ [(x, u)]) ∧ ∀ base : Heap, (K w.params).In base → base.Ns mainGlobals mg → FnOkG l.prog w (K w.params) mg base k fa fd [x] (sp (K w.params)))
    (hsp : ∀ (K : PySem.W.Frag) (H : Hp) (a : Addr) (ns : List Int), ns.length ≤ n → SqL K H a (ns.map V.int) → sp K [.ref a] H (fun v _ => v = .bl true) fun _ _ _ => False) :
    PySem.W.WalkO q loose XP YP l.row.toRowW d [] (fun f vs => PySem.call f vs) := by
  refine Att.attach_call hn hdf fun w s₀ s mg mb fa o pm cd doc a vs ns G Y ho hd hcd hmg hobj hints hlen hg => ?_
  have KX := hY w _ Y
  obtain ⟨fd, hb, hF⟩ := F w mg fa _ KX G.T.g hmg
  obtain ⟨H, hO, hS, hok, hA, hK⟩ := script_view (P := l.prog) (w := w) (K := K w.params) KX hobj hints (Nat.le_trans hlen hn2)
  obtain ⟨kin, hns, e0⟩ := env_script KX G.T.g G.T.b G.T.builtins G.T.nolimit hg hobj hA hK hok
  refine codeAny_mono ((hF _ kin hns).run callerA [] s H ⟨[.ref a], []⟩ [.ref a] [.ref a] _ _ rfl hr e0 (hb s (.ref a)) (.cons rfl .nil) (hsp _ H a ns hlen hS)) fun r s' hq => ?_
  match r, hq with
  | .error e, hq => exact False.elim hq
  | .ok .next, hq => exact False.elim hq
  | .ok .brk, hq => exact False.elim hq
  | .ok .cont, hq => exact False.elim hq
  | .ok (.ret u), ⟨v, H', os, bare, un, hok', rv, hv⟩ =>
    have hv : v = .bl true := hv
    subst hv
    obtain rfl : u = Value.bool true := rv
    refine ⟨rfl, OldK.of_keep fun b o e => ?_, os, bare⟩
    by_cases hHb : H b = none
    · exact un.keep b o e hHb (fun z => absurd (show b ∈ ([] : List Addr) from z) (by simp)) (by simp)
    · rcases hO b with z | ⟨ob, xs, z⟩
      · exact absurd z hHb
      · have h1 := (hok b _ z).1
        rw [e] at h1
        cases h1
        exact (hok' b _ (un.frzs b _ _ z)).1
end Tw
end
section
set_option maxHeartbeats 4000000
/-! The defs as they stand behind the top, and the law. -/
namespace Tw
open PySem PySem.Spec PyProof.Rows L2
abbrev kwsLH : List (Str × V) := [("low", .int 0), ("high", .non)]
/-- an ordinary def -/
structure IsD (K : PySem.W.Frag) (x : Str) (st : Stmt) : Prop where
  ex : ∃ f fd, L2.Fun K x x st f fd ∧ PySem.W.nsIn K mainGlobals x = some (some (.ref f))
/-- one with low=0, high=None -/
structure IsDK (K : PySem.W.Frag) (x : Str) (st : Stmt) : Prop where
  ex : ∃ f fd, L2.FunD K x x (defArgs st) (defBody st) (defScope st) [] kwsLH f fd ∧ PySem.W.nsIn K mainGlobals x = some (some (.ref f))
section
variable {K : PySem.W.Frag} {x : Str} {st : Stmt} {f D : Addr} {oc : Value} {od an : Option Addr} {osl : Array (Option Value)} {kV doc pm cdv ct : Value} {t : Tok}
theorem isD_mk (a : PySem.W.nsIn K mainGlobals x = some (some (.ref f))) (l : K.lookup f = some ⟨oc, od, .func (PySem.W.fnOf x x (defArgs st) (defBody st) (defScope st) .none kV doc pm an cdv ct), osl⟩)
    (c : PySem.W.codeIn K cdv x = true) (k : PySem.W.keepIn K (.ref f) = true) : IsD K x st := ⟨f, _, fun_mk l c k, a⟩
theorem isDK_mk (a : PySem.W.nsIn K mainGlobals x = some (some (.ref f))) (l : K.lookup f = some ⟨oc, od, .func (PySem.W.fnOf x x (defArgs st) (defBody st) (defScope st) .none (.ref D) doc pm an cdv ct), osl⟩)
    (c : PySem.W.codeIn K cdv x = true) (k : PySem.W.keepIn K (.ref f) = true) (d1 : PySem.W.nsIn K D "low" = some (some (.int 0 t))) (d2 : PySem.W.nsIn K D "high" = some (some .none)) : IsDK K x st := by
  refine ⟨f, _, ⟨⟨oc, od, .none, .ref D, doc, pm, an, cdv, ct, osl, rfl, l, c, .inl ⟨rfl, rfl⟩, .inr ⟨D, rfl, fun q hq => ?_⟩⟩, k⟩, a⟩
  rcases List.mem_cons.mp hq with h | h
  · subst h
    exact ⟨_, d1, ⟨t, rfl⟩⟩
  · rw [List.mem_singleton] at h
    subst h
    exact ⟨_, d2, rfl⟩
variable {h : Heap} {mg : Str → Option Value} {ps : List Str}
theorem IsD.go (D : IsD K x st) (X : K.In h) (G : h.Ns mainGlobals mg)
    (hb : ∀ (kV doc pm : Value) (an : Option Addr) (cdv ct : Value) (us : List Value), us.length = ps.length → bindArgs (PySem.W.fnOf x x (defArgs st) (defBody st) (defScope st) .none kV doc pm an cdv ct) ⟨us, []⟩ = pure (ps.zip us)) : Def K mg x st ps := by
  obtain ⟨f, fd, F, a⟩ := D.ex
  exact ⟨f, fd, F, PySem.W.mg_of X G a, F.binds hb⟩
theorem IsDK.go {n : Nat} (D : IsDK K x st) (X : K.In h) (G : h.Ns mainGlobals mg) (hn : n + 2 = ps.length)
    (hk : ∀ (kV doc pm : Value) (an : Option Addr) (cdv ct : Value) (us ws : List Value), us.length = n → ws.length = 2 → bindArgs (PySem.W.fnOf x x (defArgs st) (defBody st) (defScope st) .none kV doc pm an cdv ct) ⟨us, ksLH.zip ws⟩ = pure (ps.zip (us ++ ws)))
    (hb : ∀ (D : Addr) (doc pm : Value) (an : Option Addr) (cdv ct : Value) (us ks : List Value), us.length = n → ks.length = 2 →
      KwChain D (ksLH.zip ks) (bindArgs (PySem.W.fnOf x x (defArgs st) (defBody st) (defScope st) .none (.ref D) doc pm an cdv ct) ⟨us, []⟩) (ps.zip (us ++ ks))) : DefK K mg x st ps n := by
  obtain ⟨f, fd, F, a⟩ := D.ex
  obtain ⟨ds, hv, hbd⟩ := F.binds0 (ps := ps) n (by simp) hn hb
  obtain ⟨oc, od, dV, kV, doc, pm, an, cdv, ct, osl, rfl, lk, hcd, hD, hK⟩ := F.ex
  rcases hD with ⟨_, rfl⟩ | ⟨e, _⟩
  · exact ⟨f, _, ds, ⟨⟨oc, od, kV, doc, pm, an, cdv, ct, osl, rfl, lk, hcd⟩, F.kp⟩, PySem.W.mg_of X G a, ⟨fun s us ws _ l1 l2 => .of_eq (hk kV doc pm an cdv ct us ws l1 l2), fun r1 r2 => r1.append r2⟩, hv, hbd⟩
  · exact absurd rfl e
end
end Tw
end
section
set_option maxHeartbeats 4000000
namespace Tw
open PySem PySem.Spec PyProof.Rows L2
section
variable {K : PySem.W.Frag} {h : Heap} {mg : Str → Option Value}
theorem d_isInt (D : IsD K "is_integer" sIsInt) (X : K.In h) (G : h.Ns mainGlobals mg) : Def K mg "is_integer" sIsInt ["thing"] := D.go X G fun _ _ _ _ _ _ us hl => match us, hl with | [_], _ => rfl
theorem d_ends (D : IsD K "ends" sEnds) (X : K.In h) (G : h.Ns mainGlobals mg) : Def K mg "ends" sEnds ["fact"] := D.go X G fun _ _ _ _ _ _ us hl => match us, hl with | [_], _ => rfl
theorem d_edges (D : IsD K "edges_of" sEdges) (X : K.In h) (G : h.Ns mainGlobals mg) : Def K mg "edges_of" sEdges ["rows"] := D.go X G fun _ _ _ _ _ _ us hl => match us, hl with | [_], _ => rfl
theorem d_back (D : IsD K "backward" sBack) (X : K.In h) (G : h.Ns mainGlobals mg) : Def K mg "backward" sBack ["edges"] := D.go X G fun _ _ _ _ _ _ us hl => match us, hl with | [_], _ => rfl
theorem d_run (D : IsD K "running_totals" sRun) (X : K.In h) (G : h.Ns mainGlobals mg) : Def K mg "running_totals" sRun ["log", "measure"] := D.go X G fun _ _ _ _ _ _ us hl => match us, hl with | [_, _], _ => rfl
theorem d_count (D : IsD K "is_count" sCount) (X : K.In h) (G : h.Ns mainGlobals mg) : Def K mg "is_count" sCount ["thing", "size"] := D.go X G fun _ _ _ _ _ _ us hl => match us, hl with | [_, _], _ => rfl
theorem d_sizesOf (D : IsD K "sizes_of" sSizesOf) (X : K.In h) (G : h.Ns mainGlobals mg) : Def K mg "sizes_of" sSizesOf ["totals"] := D.go X G fun _ _ _ _ _ _ us hl => match us, hl with | [_], _ => rfl
theorem d_rel (D : IsD K "relaxed" sRel) (X : K.In h) (G : h.Ns mainGlobals mg) : Def K mg "relaxed" sRel ["edges", "many", "origin"] := D.go X G fun _ _ _ _ _ _ us hl => match us, hl with | [_, _, _], _ => rfl
theorem d_walk (D : IsD K "walk_to" sWalk) (X : K.In h) (G : h.Ns mainGlobals mg) : Def K mg "walk_to" sWalk ["lasts", "origin", "place"] := D.go X G fun _ _ _ _ _ _ us hl => match us, hl with | [_, _, _], _ => rfl
theorem d_least (D : IsD K "least_totals" sLeast) (X : K.In h) (G : h.Ns mainGlobals mg) : Def K mg "least_totals" sLeast ["rows", "many"] := D.go X G fun _ _ _ _ _ _ us hl => match us, hl with | [_, _], _ => rfl
theorem d_str (D : IsD K "stretches_seen" sStr) (X : K.In h) (G : h.Ns mainGlobals mg) : Def K mg "stretches_seen" sStr ["size", "seen"] := D.go X G fun _ _ _ _ _ _ us hl => match us, hl with | [_, _], _ => rfl
theorem d_facts (D : IsDK K "facts" sFacts) (X : K.In h) (G : h.Ns mainGlobals mg) : DefK K mg "facts" sFacts psTS 3 := D.go X G rfl (fun _ _ _ _ _ _ us ws h1 h2 => match us, ws, h1, h2 with | [_, _, _], [_, _], _, _ => rfl)
  (fun _ _ _ _ _ _ us ks h1 h2 => match us, ks, h1, h2 with | [_, _, _], [_, _], _, _ => ⟨_, _, _, _, _, _, rfl, rfl, _, _, _, _, _, _, rfl, rfl, rfl⟩)
theorem d_sight (D : IsD K "sighting" sSight) (X : K.In h) (G : h.Ns mainGlobals mg) : Def K mg "sighting" sSight ["log", "tiers"] := D.go X G fun _ _ _ _ _ _ us hl => match us, hl with | [_, _], _ => rfl
theorem d_agr (D : IsDK K "agreeing" sAgr) (X : K.In h) (G : h.Ns mainGlobals mg) : DefK K mg "agreeing" sAgr psTS 3 := D.go X G rfl (fun _ _ _ _ _ _ us ws h1 h2 => match us, ws, h1, h2 with | [_, _, _], [_, _], _, _ => rfl)
  (fun _ _ _ _ _ _ us ks h1 h2 => match us, ks, h1, h2 with | [_, _, _], [_, _], _, _ => ⟨_, _, _, _, _, _, rfl, rfl, _, _, _, _, _, _, rfl, rfl, rfl⟩)
theorem d_agrF (D : IsD K "agreeing_facts" sAgrF) (X : K.In h) (G : h.Ns mainGlobals mg) : Def K mg "agreeing_facts" sAgrF psTS := D.go X G fun _ _ _ _ _ _ us hl => match us, hl with | [_, _, _, _, _], _ => rfl
theorem d_spread (D : IsD K "spread" sSpread) (X : K.In h) (G : h.Ns mainGlobals mg) : Def K mg "spread" sSpread ["rows", "base", "origin"] := D.go X G fun _ _ _ _ _ _ us hl => match us, hl with | [_, _, _], _ => rfl
theorem d_great (D : IsDK K "greatest" sGreat) (X : K.In h) (G : h.Ns mainGlobals mg) : DefK K mg "greatest" sGreat psTSS 4 := D.go X G rfl (fun _ _ _ _ _ _ us ws h1 h2 => match us, ws, h1, h2 with | [_, _, _, _], [_, _], _, _ => rfl)
  (fun _ _ _ _ _ _ us ks h1 h2 => match us, ks, h1, h2 with | [_, _, _, _], [_, _], _, _ => ⟨_, _, _, _, _, _, rfl, rfl, _, _, _, _, _, _, rfl, rfl, rfl⟩)
theorem d_leastT (D : IsDK K "least" sLeastT) (X : K.In h) (G : h.Ns mainGlobals mg) : DefK K mg "least" sLeastT psTSS 4 := D.go X G rfl (fun _ _ _ _ _ _ us ws h1 h2 => match us, ws, h1, h2 with | [_, _, _, _], [_, _], _, _ => rfl)
  (fun _ _ _ _ _ _ us ks h1 h2 => match us, ks, h1, h2 with | [_, _, _, _], [_, _], _, _ => ⟨_, _, _, _, _, _, rfl, rfl, _, _, _, _, _, _, rfl, rfl, rfl⟩)
theorem d_with (D : IsDK K "sizes_with" sWith) (X : K.In h) (G : h.Ns mainGlobals mg) : DefK K mg "sizes_with" sWith psTSV 5 := D.go X G rfl (fun _ _ _ _ _ _ us ws h1 h2 => match us, ws, h1, h2 with | [_, _, _, _, _], [_, _], _, _ => rfl)
  (fun _ _ _ _ _ _ us ks h1 h2 => match us, ks, h1, h2 with | [_, _, _, _, _], [_, _], _, _ => ⟨_, _, _, _, _, _, rfl, rfl, _, _, _, _, _, _, rfl, rfl, rfl⟩)
theorem d_bag (D : IsD K "_law_bag" sBag) (X : K.In h) (G : h.Ns mainGlobals mg) : Def K mg "_law_bag" sBag ["_law_script"] := D.go X G fun _ _ _ _ _ _ us hl => match us, hl with | [_], _ => rfl
theorem d_take (D : IsD K "_law_take" sTake) (X : K.In h) (G : h.Ns mainGlobals mg) : Def K mg "_law_take" sTake psBM := D.go X G fun _ _ _ _ _ _ us hl => match us, hl with | [_, _], _ => rfl
theorem d_size (D : IsD K "_law_size" sSize) (X : K.In h) (G : h.Ns mainGlobals mg) : Def K mg "_law_size" sSize psSize := D.go X G fun _ _ _ _ _ _ us hl => match us, hl with | [_, _], _ => rfl
theorem d_log (D : IsD K "_law_log" sLog) (X : K.In h) (G : h.Ns mainGlobals mg) : Def K mg "_law_log" sLog psLog := D.go X G fun _ _ _ _ _ _ us hl => match us, hl with | [_, _, _], _ => rfl
theorem d_tier (D : IsD K "_law_tier" sTier) (X : K.In h) (G : h.Ns mainGlobals mg) : Def K mg "_law_tier" sTier psTier := D.go X G fun _ _ _ _ _ _ us hl => match us, hl with | [_, _, _], _ => rfl
theorem d_tiersL (D : IsD K "_law_tiers" sTiersL) (X : K.In h) (G : h.Ns mainGlobals mg) : Def K mg "_law_tiers" sTiersL psTiersL := D.go X G fun _ _ _ _ _ _ us hl => match us, hl with | [_, _, _, _], _ => rfl
theorem d_scene (D : IsD K "_law_scene" sScene) (X : K.In h) (G : h.Ns mainGlobals mg) : Def K mg "_law_scene" sScene psScene := D.go X G fun _ _ _ _ _ _ us hl => match us, hl with | [_, _], _ => rfl
theorem d_long (D : IsD K "_law_long_scene" sLong) (X : K.In h) (G : h.Ns mainGlobals mg) : Def K mg "_law_long_scene" sLong psLong := D.go X G fun _ _ _ _ _ _ us hl => match us, hl with | [_], _ => rfl
theorem d_bounds (D : IsD K "_law_bounds" sBounds) (X : K.In h) (G : h.Ns mainGlobals mg) : Def K mg "_law_bounds" sBounds psBounds := D.go X G fun _ _ _ _ _ _ us hl => match us, hl with | [_, _, _], _ => rfl
theorem d_sumsL (D : IsD K "_law_sums" sSumsL) (X : K.In h) (G : h.Ns mainGlobals mg) : Def K mg "_law_sums" sSumsL psSumsL := D.go X G fun _ _ _ _ _ _ us hl => match us, hl with | [_], _ => rfl
theorem d_holds (D : IsD K "_law_holds" sHolds) (X : K.In h) (G : h.Ns mainGlobals mg) : Def K mg "_law_holds" sHolds psHolds := D.go X G fun _ _ _ _ _ _ us hl => match us, hl with | [_, _], _ => rfl
theorem d_sizesL (D : IsD K "_law_sizes" sSizesL) (X : K.In h) (G : h.Ns mainGlobals mg) : Def K mg "_law_sizes" sSizesL psSizesL := D.go X G fun _ _ _ _ _ _ us hl => match us, hl with | [_, _], _ => rfl
theorem d_below (D : IsD K "_law_below" sBelow) (X : K.In h) (G : h.Ns mainGlobals mg) : Def K mg "_law_below" sBelow psOO := D.go X G fun _ _ _ _ _ _ us hl => match us, hl with | [_, _], _ => rfl
theorem d_lower (D : IsD K "_law_lower" sLower) (X : K.In h) (G : h.Ns mainGlobals mg) : Def K mg "_law_lower" sLower psOO := D.go X G fun _ _ _ _ _ _ us hl => match us, hl with | [_, _], _ => rfl
theorem d_others (D : IsD K "_law_others" sOthers) (X : K.In h) (G : h.Ns mainGlobals mg) : Def K mg "_law_others" sOthers psOthers := D.go X G fun _ _ _ _ _ _ us hl => match us, hl with | [_, _, _, _, _, _], _ => rfl
theorem d_alike (D : IsD K "_law_alike" sAlike) (X : K.In h) (G : h.Ns mainGlobals mg) : Def K mg "_law_alike" sAlike nAlike := D.go X G fun _ _ _ _ _ _ us hl => match us, hl with | [_, _], _ => rfl
theorem d_right (D : IsD K "_law_right" sRight) (X : K.In h) (G : h.Ns mainGlobals mg) : Def K mg "_law_right" sRight psRight := D.go X G fun _ _ _ _ _ _ us hl => match us, hl with | [_, _, _, _, _, _], _ => rfl
theorem all_mk {l : PySem.W.OpenLaw} {w : World} {fa : Addr} {t : Tok} (X : K.In h) (G : h.Ns mainGlobals mg) (hfa : mg "law" = some (.ref fa))
    (i_isInt : IsD K "is_integer" sIsInt)
    (i_ends : IsD K "ends" sEnds)
    (i_edges : IsD K "edges_of" sEdges)
    (i_back : IsD K "backward" sBack)
    (i_run : IsD K "running_totals" sRun)
    (i_count : IsD K "is_count" sCount)
    (i_sizesOf : IsD K "sizes_of" sSizesOf)
    (i_rel : IsD K "relaxed" sRel)
    (i_walk : IsD K "walk_to" sWalk)
    (i_least : IsD K "least_totals" sLeast)
    (i_str : IsD K "stretches_seen" sStr)
    (i_facts : IsDK K "facts" sFacts)
    (i_sight : IsD K "sighting" sSight)
    (i_agr : IsDK K "agreeing" sAgr)
    (i_agrF : IsD K "agreeing_facts" sAgrF)
    (i_spread : IsD K "spread" sSpread)
    (i_great : IsDK K "greatest" sGreat)
    (i_leastT : IsDK K "least" sLeastT)
    (i_with : IsDK K "sizes_with" sWith)
    (i_bag : IsD K "_law_bag" sBag)
    (i_take : IsD K "_law_take" sTake)
    (i_size : IsD K "_law_size" sSize)
    (i_log : IsD K "_law_log" sLog)
    (i_tier : IsD K "_law_tier" sTier)
    (i_tiersL : IsD K "_law_tiers" sTiersL)
    (i_scene : IsD K "_law_scene" sScene)
    (i_long : IsD K "_law_long_scene" sLong)
    (i_bounds : IsD K "_law_bounds" sBounds)
    (i_sumsL : IsD K "_law_sums" sSumsL)
    (i_holds : IsD K "_law_holds" sHolds)
    (i_sizesL : IsD K "_law_sizes" sSizesL)
    (i_below : IsD K "_law_below" sBelow)
    (i_lower : IsD K "_law_lower" sLower)
    (i_others : IsD K "_law_others" sOthers)
    (i_alike : IsD K "_law_alike" sAlike)
    (i_right : IsD K "_law_right" sRight)
    (i_law : IsD K "law" sLaw)
    (n_abs : PySem.W.nsIn K mainGlobals "abs" = some none)
    (n_all : PySem.W.nsIn K mainGlobals "all" = some none)
    (n_any : PySem.W.nsIn K mainGlobals "any" = some none)
    (n_bool : PySem.W.nsIn K mainGlobals "bool" = some none)
    (n_enumerate : PySem.W.nsIn K mainGlobals "enumerate" = some none)
    (n_int : PySem.W.nsIn K mainGlobals "int" = some none)
    (n_isinstance : PySem.W.nsIn K mainGlobals "isinstance" = some none)
    (n_len : PySem.W.nsIn K mainGlobals "len" = some none)
    (n_list : PySem.W.nsIn K mainGlobals "list" = some none)
    (n_max : PySem.W.nsIn K mainGlobals "max" = some none)
    (n_min : PySem.W.nsIn K mainGlobals "min" = some none)
    (n_range : PySem.W.nsIn K mainGlobals "range" = some none)
    (n_repr : PySem.W.nsIn K mainGlobals "repr" = some none)
    (n_sum : PySem.W.nsIn K mainGlobals "sum" = some none)
    (n_tuple : PySem.W.nsIn K mainGlobals "tuple" = some none)
    (n_zip : PySem.W.nsIn K mainGlobals "zip" = some none)
    (far : PySem.W.nsIn K mainGlobals "FAR" = some (some (.int Tf.far t))) :
    ∃ fd : FuncData, (∀ (s : Shared) (u : Value), BindsTo s fd ⟨[u], []⟩ [("_law_script", u)]) ∧ ∀ base : Heap, K.In base → base.Ns mainGlobals mg → FnOkG l.prog w K mg base 9 fa fd ["_law_script"] (spLaw K) := by
  obtain ⟨f, fd, F, a⟩ := i_law.ex
  have e := hfa.symm.trans (PySem.W.mg_of X G a)
  cases e
  refine ⟨fd, fun s u => ?_, fun base _ _ => ?_⟩
  · obtain ⟨oc, od, kV, doc, pm, an, cdv, ct, osl, rfl, lk, hcd⟩ := F.ex
    exact .of_eq rfl
  have z_abs := PySem.W.mg_none_of X G n_abs
  have z_all := PySem.W.mg_none_of X G n_all
  have z_any := PySem.W.mg_none_of X G n_any
  have z_bool := PySem.W.mg_none_of X G n_bool
  have z_enumerate := PySem.W.mg_none_of X G n_enumerate
  have z_int := PySem.W.mg_none_of X G n_int
  have z_isinstance := PySem.W.mg_none_of X G n_isinstance
  have z_len := PySem.W.mg_none_of X G n_len
  have z_list := PySem.W.mg_none_of X G n_list
  have z_max := PySem.W.mg_none_of X G n_max
  have z_min := PySem.W.mg_none_of X G n_min
  have z_range := PySem.W.mg_none_of X G n_range
  have z_repr := PySem.W.mg_none_of X G n_repr
  have z_sum := PySem.W.mg_none_of X G n_sum
  have z_tuple := PySem.W.mg_none_of X G n_tuple
  have z_zip := PySem.W.mg_none_of X G n_zip
  have g_far : ∃ t, mg "FAR" = some (.int Tf.far t) := ⟨_, PySem.W.mg_of X G far⟩
  have c_is_integer := ok_isInt (P := l.prog) (w := w) (base := base) (d_isInt i_isInt X G) z_isinstance z_int z_bool
  have c_ends := ok_ends (P := l.prog) (w := w) (base := base) (d_ends i_ends X G) 
  have c_edges_of := ok_edges (P := l.prog) (w := w) (base := base) (d_edges i_edges X G) c_ends
  have c_backward := ok_back (P := l.prog) (w := w) (base := base) (d_back i_back X G) 
  have c_running_totals := ok_run (P := l.prog) (w := w) (base := base) (d_run i_run X G) 
  have c_is_count := ok_count (P := l.prog) (w := w) (base := base) (d_count i_count X G) c_is_integer z_isinstance z_tuple z_len z_all
  have c_sizes_of := ok_sizesOf (P := l.prog) (w := w) (base := base) (d_sizesOf i_sizesOf X G) z_zip
  have c_relaxed := ok_rel (P := l.prog) (w := w) (base := base) (d_rel i_rel X G) z_range
  have c_walk_to := ok_walk (P := l.prog) (w := w) (base := base) (d_walk i_walk X G) 
  have c_least_totals := ok_least (P := l.prog) (w := w) (base := base) (d_least i_least X G) c_edges_of c_backward c_relaxed
  have c_stretches_seen := ok_str (P := l.prog) (w := w) (base := base) (d_str i_str X G) c_is_count z_enumerate z_any z_zip z_list
  have c_facts := ok_facts (P := l.prog) (w := w) (base := base) (d_facts i_facts X G) c_stretches_seen z_len z_range z_enumerate
  have c_sighting := ok_sight (P := l.prog) (w := w) (base := base) (d_sight i_sight X G) c_running_totals z_len z_range z_enumerate z_tuple
  have c_agreeing := ok_agr (P := l.prog) (w := w) (base := base) (d_agr i_agr X G) c_facts c_least_totals c_sizes_of z_len
  have c_agreeing_facts := ok_agrF (P := l.prog) (w := w) (base := base) (d_agrF i_agrF X G) c_facts c_least_totals z_len
  have c_spread := ok_spread (P := l.prog) (w := w) (base := base) (d_spread i_spread X G) c_edges_of c_relaxed g_far z_len z_max z_enumerate
  have c_greatest := ok_great (P := l.prog) (w := w) (base := base) (d_great i_great X G) c_agreeing_facts c_spread c_sizes_of c_walk_to
  have c_least := ok_leastT (P := l.prog) (w := w) (base := base) (d_leastT i_leastT X G) c_agreeing_facts c_spread c_sizes_of c_walk_to
  have c_sizes_with := ok_with (P := l.prog) (w := w) (base := base) (d_with i_with X G) c_facts c_least_totals c_sizes_of z_len
  have c__law_bag := ok_bag (P := l.prog) (w := w) (base := base) (d_bag i_bag X G) z_abs
  have c__law_take := ok_take (P := l.prog) (w := w) (base := base) (d_take i_take X G) z_len
  have c__law_size := ok_size (P := l.prog) (w := w) (base := base) (d_size i_size X G) c__law_take
  have c__law_log := ok_log (P := l.prog) (w := w) (base := base) (d_log i_log X G) c__law_take c__law_size z_range z_int z_tuple
  have c__law_tier := ok_tier (P := l.prog) (w := w) (base := base) (d_tier i_tier X G) c__law_take z_len z_sum z_min z_max
  have c__law_tiers := ok_tiersL (P := l.prog) (w := w) (base := base) (d_tiersL i_tiersL X G) c__law_take c__law_tier z_range
  have c__law_scene := ok_scene (P := l.prog) (w := w) (base := base) (d_scene i_scene X G) c__law_take c__law_log c__law_tiers z_range z_tuple
  have c__law_long_scene := ok_long (P := l.prog) (w := w) (base := base) (d_long i_long X G) c__law_take z_range
  have c__law_bounds := ok_bounds (P := l.prog) (w := w) (base := base) (d_bounds i_bounds X G) c__law_take z_min z_max
  have c__law_sums := ok_sumsL (P := l.prog) (w := w) (base := base) (d_sumsL i_sumsL X G) 
  have c__law_holds := ok_holds (P := l.prog) (w := w) (base := base) (d_holds i_holds X G) 
  have c__law_sizes := ok_sizesL (P := l.prog) (w := w) (base := base) (d_sizesL i_sizesL X G) z_isinstance z_list z_len z_all z_int z_bool
  have c__law_below := ok_below (P := l.prog) (w := w) (base := base) (d_below i_below X G) c__law_sums z_all z_zip
  have c__law_lower := ok_lower (P := l.prog) (w := w) (base := base) (d_lower i_lower X G) c__law_sums z_min z_zip z_len z_range
  have c__law_others := ok_others (P := l.prog) (w := w) (base := base) (d_others i_others X G) c__law_take c_greatest c_least c_sizes_with z_len z_sum
  have c__law_alike := ok_alike (P := l.prog) (w := w) (base := base) (d_alike i_alike X G) z_repr
  have c__law_right := ok_right (P := l.prog) (w := w) (base := base) (d_right i_right X G) c_facts c_agreeing c__law_take c__law_others c__law_sizes c__law_holds c__law_below c__law_lower c__law_alike z_list z_len
  exact ok_law (P := l.prog) (w := w) (base := base) F c__law_bag c__law_take c__law_scene c__law_long_scene c_sighting c_agreeing c__law_alike c__law_right c__law_bounds z_range z_int z_len z_tuple
end
end Tw
end
section
set_option maxHeartbeats 0
open PySem PySem.W PyProof.Rows
open_top head for PySem.Challenge.rw_tierfall_k75_whole_least_totals_at_once
end
open PySem PySem.W PyProof.Rows L2 Tw
set_option maxRecDepth 100000 in
set_option maxHeartbeats 0 in
theorem PySem.Challenge.cw_tierfall_k75_whole_least_totals_at_once_holds : PySem.Challenge.rw_tierfall_k75_whole_least_totals_at_once.Holds := by
  refine head ?_
  k_fill
  refine walk_ofG (l := PySem.Challenge.rw_tierfall_k75_whole_least_totals_at_once) (n := 63) (k := 9) (x := "_law_script") (sp := spLaw) rfl (by decide) rfl ⟨rfl, by decide, by decide⟩ (fun w h Y => PySem.W.kIn_of Y) ?F (fun K H a ns hl hS => ⟨a, ns, rfl, hS, hl, fun _ => rfl⟩)
  case F =>
    intro w mg fa h KX G hmg
    refine' all_mk KX G hmg ?i_isInt ?i_ends ?i_edges ?i_back ?i_run ?i_count ?i_sizesOf ?i_rel ?i_walk ?i_least ?i_str ?i_facts ?i_sight ?i_agr ?i_agrF ?i_spread ?i_great ?i_leastT ?i_with ?i_bag ?i_take ?i_size ?i_log ?i_tier ?i_tiersL ?i_scene ?i_long ?i_bounds ?i_sumsL ?i_holds ?i_sizesL ?i_below ?i_lower ?i_others ?i_alike ?i_right ?i_law ?n_abs ?n_all ?n_any ?n_bool ?n_enumerate ?n_int ?n_isinstance ?n_len ?n_list ?n_max ?n_min ?n_range ?n_repr ?n_sum ?n_tuple ?n_zip ?far
    (case i_isInt => refine' isD_mk ?a ?l ?c ?k; (case a => k_is); (case l => k_is); (case c => k_is); (case k => k_is))
    (case i_ends => refine' isD_mk ?a ?l ?c ?k; (case a => k_is); (case l => k_is); (case c => k_is); (case k => k_is))
    (case i_edges => refine' isD_mk ?a ?l ?c ?k; (case a => k_is); (case l => k_is); (case c => k_is); (case k => k_is))
    (case i_back => refine' isD_mk ?a ?l ?c ?k; (case a => k_is); (case l => k_is); (case c => k_is); (case k => k_is))
    (case i_run => refine' isD_mk ?a ?l ?c ?k; (case a => k_is); (case l => k_is); (case c => k_is); (case k => k_is))
    (case i_count => refine' isD_mk ?a ?l ?c ?k; (case a => k_is); (case l => k_is); (case c => k_is); (case k => k_is))
    (case i_sizesOf => refine' isD_mk ?a ?l ?c ?k; (case a => k_is); (case l => k_is); (case c => k_is); (case k => k_is))
    (case i_rel => refine' isD_mk ?a ?l ?c ?k; (case a => k_is); (case l => k_is); (case c => k_is); (case k => k_is))
    (case i_walk => refine' isD_mk ?a ?l ?c ?k; (case a => k_is); (case l => k_is); (case c => k_is); (case k => k_is))
    (case i_least => refine' isD_mk ?a ?l ?c ?k; (case a => k_is); (case l => k_is); (case c => k_is); (case k => k_is))
    (case i_str => refine' isD_mk ?a ?l ?c ?k; (case a => k_is); (case l => k_is); (case c => k_is); (case k => k_is))
    (case i_facts => refine' isDK_mk ?a ?l ?c ?k ?d1 ?d2; (case a => k_is); (case l => k_is); (case c => k_is); (case k => k_is); (case d1 => k_is); (case d2 => k_is))
    (case i_sight => refine' isD_mk ?a ?l ?c ?k; (case a => k_is); (case l => k_is); (case c => k_is); (case k => k_is))
    (case i_agr => refine' isDK_mk ?a ?l ?c ?k ?d1 ?d2; (case a => k_is); (case l => k_is); (case c => k_is); (case k => k_is); (case d1 => k_is); (case d2 => k_is))
    (case i_agrF => refine' isD_mk ?a ?l ?c ?k; (case a => k_is); (case l => k_is); (case c => k_is); (case k => k_is))
    (case i_spread => refine' isD_mk ?a ?l ?c ?k; (case a => k_is); (case l => k_is); (case c => k_is); (case k => k_is))
    (case i_great => refine' isDK_mk ?a ?l ?c ?k ?d1 ?d2; (case a => k_is); (case l => k_is); (case c => k_is); (case k => k_is); (case d1 => k_is); (case d2 => k_is))
    (case i_leastT => refine' isDK_mk ?a ?l ?c ?k ?d1 ?d2; (case a => k_is); (case l => k_is); (case c => k_is); (case k => k_is); (case d1 => k_is); (case d2 => k_is))
    (case i_with => refine' isDK_mk ?a ?l ?c ?k ?d1 ?d2; (case a => k_is); (case l => k_is); (case c => k_is); (case k => k_is); (case d1 => k_is); (case d2 => k_is))
    (case i_bag => refine' isD_mk ?a ?l ?c ?k; (case a => k_is); (case l => k_is); (case c => k_is); (case k => k_is))
    (case i_take => refine' isD_mk ?a ?l ?c ?k; (case a => k_is); (case l => k_is); (case c => k_is); (case k => k_is))
    (case i_size => refine' isD_mk ?a ?l ?c ?k; (case a => k_is); (case l => k_is); (case c => k_is); (case k => k_is))
    (case i_log => refine' isD_mk ?a ?l ?c ?k; (case a => k_is); (case l => k_is); (case c => k_is); (case k => k_is))
    (case i_tier => refine' isD_mk ?a ?l ?c ?k; (case a => k_is); (case l => k_is); (case c => k_is); (case k => k_is))
    (case i_tiersL => refine' isD_mk ?a ?l ?c ?k; (case a => k_is); (case l => k_is); (case c => k_is); (case k => k_is))
    (case i_scene => refine' isD_mk ?a ?l ?c ?k; (case a => k_is); (case l => k_is); (case c => k_is); (case k => k_is))
    (case i_long => refine' isD_mk ?a ?l ?c ?k; (case a => k_is); (case l => k_is); (case c => k_is); (case k => k_is))
    (case i_bounds => refine' isD_mk ?a ?l ?c ?k; (case a => k_is); (case l => k_is); (case c => k_is); (case k => k_is))
    (case i_sumsL => refine' isD_mk ?a ?l ?c ?k; (case a => k_is); (case l => k_is); (case c => k_is); (case k => k_is))
    (case i_holds => refine' isD_mk ?a ?l ?c ?k; (case a => k_is); (case l => k_is); (case c => k_is); (case k => k_is))
    (case i_sizesL => refine' isD_mk ?a ?l ?c ?k; (case a => k_is); (case l => k_is); (case c => k_is); (case k => k_is))
    (case i_below => refine' isD_mk ?a ?l ?c ?k; (case a => k_is); (case l => k_is); (case c => k_is); (case k => k_is))
    (case i_lower => refine' isD_mk ?a ?l ?c ?k; (case a => k_is); (case l => k_is); (case c => k_is); (case k => k_is))
    (case i_others => refine' isD_mk ?a ?l ?c ?k; (case a => k_is); (case l => k_is); (case c => k_is); (case k => k_is))
    (case i_alike => refine' isD_mk ?a ?l ?c ?k; (case a => k_is); (case l => k_is); (case c => k_is); (case k => k_is))
    (case i_right => refine' isD_mk ?a ?l ?c ?k; (case a => k_is); (case l => k_is); (case c => k_is); (case k => k_is))
    (case i_law => refine' isD_mk ?a ?l ?c ?k; (case a => k_is); (case l => k_is); (case c => k_is); (case k => k_is))
    (case n_abs => k_is)
    (case n_all => k_is)
    (case n_any => k_is)
    (case n_bool => k_is)
    (case n_enumerate => k_is)
    (case n_int => k_is)
    (case n_isinstance => k_is)
    (case n_len => k_is)
    (case n_list => k_is)
    (case n_max => k_is)
    (case n_min => k_is)
    (case n_range => k_is)
    (case n_repr => k_is)
    (case n_sum => k_is)
    (case n_tuple => k_is)
    (case n_zip => k_is)
    (case far => k_is)
