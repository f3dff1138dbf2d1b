import PyProof.Rows.All
import Wide.All
import OpenK.AllK
import Wide.FinOn
import Open.SpecLaws
import KE.OsGo
import HandS.ForSpec
import HandS.ForMost
import HandS.Zip
import HandS.Walk
import HandS.RevRange
import PySem.Challenge.RW_polderpumps_s01_answers
set_option Elab.async false
set_option linter.all false
set_option maxRecDepth 100000
set_option maxHeartbeats 8000000
/-! The mathematics: plain Lean over the specification alone. -/
namespace PP
open Si97

/-! ### 1. the best from a level, without a table -/
def cand (p : Polder) (later : Nat → Option Best) (h : Hour) (w x : Nat) : Option Best :=
  if p.wrong w h x ≠ 0 then none else (later (w + h.rain - x)).map fun b => (⟨h.cost * x + b.cost, b.many, x :: b.row⟩ : Best)
def bestFrom (p : Polder) : List Hour → Nat → Option Best
  | [], _ => some ⟨0, 1, []⟩
  | h :: hs, w => ((List.range (p.pumps + 1)).map fun x => cand p (bestFrom p hs) h w x).foldl lesser none

theorem wrong_zero {p : Polder} {w : Nat} {h : Hour} {x : Nat} : p.wrong w h x = 0 ↔ x ≤ p.pumps ∧ p.low + x ≤ w + h.rain ∧ w + h.rain ≤ p.high + x := by
  unfold Polder.wrong
  split
  · omega
  · split
    · omega
    · split <;> omega

theorem table_get (p : Polder) : ∀ (hs : List Hour) (w : Nat), w < p.levels → (p.table hs).getD w none = bestFrom p hs w
  | [], w, hw => by
    show (List.replicate p.levels (some (⟨0, 1, []⟩ : Best))).getD w none = some ⟨0, 1, []⟩
    simp [List.getD, hw]
  | h :: hs, w, hw => by
    show ((List.range p.levels).map fun w => p.from_ (p.table hs) h w).getD w none = _
    have e : ((List.range p.levels).map fun w => p.from_ (p.table hs) h w).getD w none = p.from_ (p.table hs) h w := by
      simp [List.getD, hw]
    rw [e]
    show ((List.range (p.pumps + 1)).map _).foldl lesser none = ((List.range (p.pumps + 1)).map _).foldl lesser none
    refine congrArg (fun l => List.foldl lesser none l) (List.map_congr_left fun x _ => ?_)
    unfold cand
    by_cases c : p.wrong w h x ≠ 0
    · rw [if_pos c, if_pos c]
    · rw [if_neg c, if_neg c]
      have z := wrong_zero.mp (Decidable.not_not.mp c)
      rw [table_get p hs (w + h.rain - x) (by unfold Polder.levels; omega)]

theorem best_eq (p : Polder) : p.best = bestFrom p p.hours p.stands := table_get p p.hours p.stands (by unfold Polder.levels; omega)

/-! ### 2. cells -/
abbrev Tri := Nat × Nat × Nat
abbrev Cell := Option Tri
def cellB (b : Option Best) : Cell := b.map fun b => (b.cost, b.many, b.row.headD 0)
def lesserC (a b : Cell) : Cell := match a, b with
  | none, b => b
  | a, none => a
  | some x, some y => if y.1 < x.1 then some y else if x.1 = y.1 then some (x.1, x.2.1 + y.2.1, x.2.2) else some x
def foldC (l : List Tri) : Cell := (l.map some).foldl lesserC none

theorem lesserC_none (a : Cell) : lesserC a none = a := by cases a <;> rfl
theorem cell_lesser (a b : Option Best) : cellB (lesser a b) = lesserC (cellB a) (cellB b) := by
  cases a with
  | none => cases b <;> rfl
  | some x =>
    cases b with
    | none => rfl
    | some y =>
      show cellB (if y.cost < x.cost then some y else if x.cost = y.cost then some { x with many := x.many + y.many } else some x) = if y.cost < x.cost then some (y.cost, y.many, y.row.headD 0) else if x.cost = y.cost then some (x.cost, x.many + y.many, x.row.headD 0) else some (x.cost, x.many, x.row.headD 0)
      split
      · rfl
      · split <;> rfl
theorem fold_cell : ∀ (L : List (Option Best)) (acc : Option Best), ((L.filterMap cellB).map some).foldl lesserC (cellB acc) = cellB (L.foldl lesser acc)
  | [], _ => rfl
  | b :: L, acc => by
    show _ = cellB (L.foldl lesser (lesser acc b))
    rw [← fold_cell L (lesser acc b), cell_lesser]
    cases e : cellB b with
    | none => rw [List.filterMap_cons_none e, lesserC_none]
    | some t => rw [List.filterMap_cons_some e]; rfl
theorem foldC_cell (L : List (Option Best)) : foldC (L.filterMap cellB) = cellB (L.foldl lesser none) := fold_cell L none

def rowOf (p : Polder) (hs : List Hour) : List Cell := (List.range 61).map fun w => cellB (bestFrom p hs w)
def chosen (p : Polder) (hs : List Hour) (h : Hour) (w : Nat) : List Tri := (List.range (p.pumps + 1)).filterMap fun x => cellB (cand p (bestFrom p hs) h w x)
theorem row_len (p : Polder) (hs : List Hour) : (rowOf p hs).length = 61 := by simp [rowOf]
theorem row_get (p : Polder) (hs : List Hour) {w : Nat} (hw : w < 61) : (rowOf p hs)[w]? = some (cellB (bestFrom p hs w)) := by
  simp [rowOf, hw]
theorem row_nil (p : Polder) : rowOf p [] = List.replicate 61 (some (0, 1, 0)) := by rfl
theorem chosen_fold (p : Polder) (hs : List Hour) (h : Hour) (w : Nat) : foldC (chosen p hs h w) = cellB (bestFrom p (h :: hs) w) := by
  show _ = cellB (((List.range (p.pumps + 1)).map fun x => cand p (bestFrom p hs) h w x).foldl lesser none)
  rw [← foldC_cell, List.filterMap_map]
  rfl
/-- what choice hands back -/
theorem cand_in {p : Polder} {hs : List Hour} {h : Hour} {w x : Nat} (hx : x ≤ p.pumps) (c : p.low + x ≤ w + h.rain ∧ w + h.rain ≤ p.high + x) :
    cellB (cand p (bestFrom p hs) h w x) = (cellB (bestFrom p hs (w + h.rain - x))).map fun t => (h.cost * x + t.1, t.2.1, x) := by
  unfold cand
  rw [if_neg (by rw [Decidable.not_not]; exact wrong_zero.mpr ⟨hx, c⟩)]
  cases bestFrom p hs (w + h.rain - x) <;> rfl
theorem cand_out {p : Polder} {hs : List Hour} {h : Hour} {w x : Nat} (c : ¬ (p.low + x ≤ w + h.rain ∧ w + h.rain ≤ p.high + x)) :
    cellB (cand p (bestFrom p hs) h w x) = none := by
  unfold cand
  rw [if_pos (fun e => c (wrong_zero.mp e).2)]
  rfl

/-! ### 3. several choices together -/
def cheapOf (least : Nat) (l : List Tri) : List Tri := l.filter fun t => decide (t.1 = least)
theorem cheap_yes {least : Nat} {t : Tri} {l : List Tri} (h : t.1 = least) : cheapOf least (t :: l) = t :: cheapOf least l := List.filter_cons_of_pos (decide_eq_true h)
theorem cheap_no {least : Nat} {t : Tri} {l : List Tri} (h : ¬ t.1 = least) : cheapOf least (t :: l) = cheapOf least l := List.filter_cons_of_neg (by simp [h])
theorem fold_least : ∀ (l : List Tri) (a : Tri) (least : Nat), (∃ t ∈ a :: l, t.1 = least) → (∀ t ∈ a :: l, least ≤ t.1) →
    ∃ t, (cheapOf least (a :: l))[0]? = some t ∧ (l.map some).foldl lesserC (some a) = some (least, ((cheapOf least (a :: l)).map (·.2.1)).sum, t.2.2)
  | [], a, least, hm, _ => by
    obtain ⟨t, ht, e⟩ := hm
    have : t = a := by simpa using ht
    subst this
    refine ⟨t, by rw [cheap_yes e]; rfl, ?_⟩
    rw [cheap_yes e]
    show some t = some (least, ((t :: cheapOf least []).map (·.2.1)).sum, t.2.2)
    rw [← e]
    simp [cheapOf]
  | b :: l, a, least, hm, hle => by
    show ∃ t, _ ∧ (l.map some).foldl lesserC (if b.1 < a.1 then some b else if a.1 = b.1 then some (a.1, a.2.1 + b.2.1, a.2.2) else some a) = _
    have la := hle a (by simp)
    have lb := hle b (by simp)
    have ll : ∀ t ∈ l, least ≤ t.1 := fun t ht => hle t (by simp [ht])
    by_cases c1 : b.1 < a.1
    · rw [if_pos c1, cheap_no (t := a) (by omega)]
      refine fold_least l b least ?_ (fun t ht => ?_)
      · obtain ⟨t, ht, e⟩ := hm
        rcases List.mem_cons.mp ht with rfl | h
        · omega
        · exact ⟨t, h, e⟩
      · rcases List.mem_cons.mp ht with rfl | h
        · exact lb
        · exact ll t h
    · rw [if_neg c1]
      by_cases c2 : a.1 = b.1
      · rw [if_pos c2]
        obtain ⟨t, h1, h2⟩ := fold_least l (a.1, a.2.1 + b.2.1, a.2.2) least (by
          obtain ⟨t, ht, e⟩ := hm
          rcases List.mem_cons.mp ht with rfl | h
          · exact ⟨_, List.mem_cons_self, e⟩
          · rcases List.mem_cons.mp h with rfl | h
            · exact ⟨_, List.mem_cons_self, by show a.1 = least; omega⟩
            · exact ⟨t, List.mem_cons_of_mem _ h, e⟩) (fun t ht => by
          rcases List.mem_cons.mp ht with rfl | h
          · exact la
          · exact ll t h)
        by_cases c3 : a.1 = least
        · rw [cheap_yes (t := (a.1, a.2.1 + b.2.1, a.2.2)) c3] at h1 h2
          have et : t = (a.1, a.2.1 + b.2.1, a.2.2) := (Option.some.inj h1).symm
          rw [h2, cheap_yes c3, cheap_yes (t := b) (by omega)]
          refine ⟨a, rfl, ?_⟩
          rw [et]
          simp [Nat.add_assoc]
        · rw [cheap_no (t := (a.1, a.2.1 + b.2.1, a.2.2)) c3] at h1 h2
          rw [cheap_no c3, cheap_no (t := b) (by omega)]
          exact ⟨t, h1, h2⟩
      · rw [if_neg c2]
        have e : cheapOf least (a :: b :: l) = cheapOf least (a :: l) := by
          by_cases c3 : a.1 = least
          · rw [cheap_yes c3, cheap_yes c3, cheap_no (t := b) (by omega)]
          · rw [cheap_no c3, cheap_no c3, cheap_no (t := b) (by omega)]
        rw [e]
        refine fold_least l a least ?_ (fun t ht => ?_)
        · obtain ⟨t, ht, et⟩ := hm
          rcases List.mem_cons.mp ht with rfl | h
          · exact ⟨_, List.mem_cons_self, et⟩
          · rcases List.mem_cons.mp h with rfl | h
            · omega
            · exact ⟨t, List.mem_cons_of_mem _ h, et⟩
        · rcases List.mem_cons.mp ht with rfl | h
          · exact la
          · exact ll t h
theorem foldC_nil : foldC [] = none := rfl
theorem foldC_least {l : List Tri} {least : Nat} (hm : ∃ t ∈ l, t.1 = least) (hle : ∀ t ∈ l, least ≤ t.1) :
    ∃ t, (cheapOf least l)[0]? = some t ∧ foldC l = some (least, ((cheapOf least l).map (·.2.1)).sum, t.2.2) := by
  cases l with
  | nil =>
    obtain ⟨t, ht, _⟩ := hm
    cases ht
  | cons a l => exact fold_least l a least hm hle

/-! ### 4. the earliest, and whether there is one -/
theorem lesser_row (a b : Option Best) {c : Best} (h : lesser a b = some c) : (∃ d, a = some d ∧ c.row = d.row) ∨ ∃ d, b = some d ∧ c.row = d.row := by
  cases a with
  | none => exact .inr ⟨c, h, rfl⟩
  | some x =>
    cases b with
    | none => exact .inl ⟨c, h, rfl⟩
    | some y =>
      have h : (if y.cost < x.cost then some y else if x.cost = y.cost then some { x with many := x.many + y.many } else some x) = some c := h
      split at h
      · exact .inr ⟨y, rfl, by rw [Option.some.inj h]⟩
      · split at h
        · refine .inl ⟨x, rfl, ?_⟩
          rw [← Option.some.inj h]
        · exact .inl ⟨x, rfl, by rw [Option.some.inj h]⟩
theorem fold_row : ∀ (L : List (Option Best)) (acc : Option Best) {c : Best}, L.foldl lesser acc = some c → (∃ d, acc = some d ∧ c.row = d.row) ∨ ∃ d, some d ∈ L ∧ c.row = d.row
  | [], acc, c, h => .inl ⟨c, h, rfl⟩
  | b :: L, acc, c, h => by
    rcases fold_row L (lesser acc b) h with ⟨d, e, r⟩ | ⟨d, m, r⟩
    · rcases lesser_row acc b e with ⟨f, e2, r2⟩ | ⟨f, e2, r2⟩
      · exact .inl ⟨f, e2, r.trans r2⟩
      · exact .inr ⟨f, by rw [← e2]; exact List.mem_cons_self, r.trans r2⟩
    · exact .inr ⟨d, List.mem_cons_of_mem _ m, r⟩
theorem best_cons {p : Polder} {h : Hour} {hs : List Hour} {w : Nat} {b : Best} (e : bestFrom p (h :: hs) w = some b) :
    ∃ x b', x ≤ p.pumps ∧ p.low + x ≤ w + h.rain ∧ w + h.rain ≤ p.high + x ∧ bestFrom p hs (w + h.rain - x) = some b' ∧ b.row = x :: b'.row := by
  rcases fold_row _ _ e with ⟨d, z, _⟩ | ⟨d, m, r⟩
  · cases z
  · obtain ⟨x, _, e2⟩ := List.mem_map.mp m
    unfold cand at e2
    by_cases c : p.wrong w h x ≠ 0
    · rw [if_pos c] at e2
      cases e2
    · rw [if_neg c] at e2
      obtain ⟨c1, c2, c3⟩ := wrong_zero.mp (Decidable.not_not.mp c)
      obtain ⟨b', e3, e4⟩ := Option.map_eq_some_iff.mp e2
      exact ⟨x, b', c1, c2, c3, e3, by rw [r, ← e4]⟩
theorem lesser_some (a b : Option Best) : (lesser a b).isSome = (a.isSome || b.isSome) := by
  cases a with
  | none => cases b <;> rfl
  | some x =>
    cases b with
    | none => rfl
    | some y =>
      show (if y.cost < x.cost then some y else if x.cost = y.cost then some { x with many := x.many + y.many } else some x).isSome = true
      split
      · rfl
      · split <;> rfl
theorem fold_some : ∀ (L : List (Option Best)) (acc : Option Best), (L.foldl lesser acc).isSome = true ↔ acc.isSome = true ∨ ∃ c ∈ L, c.isSome = true
  | [], acc => by simp
  | b :: L, acc => by
    show (L.foldl lesser (lesser acc b)).isSome = true ↔ _
    rw [fold_some L (lesser acc b), lesser_some]
    simp [or_assoc]
theorem some_cons {p : Polder} {h : Hour} {hs : List Hour} {w : Nat} :
    (bestFrom p (h :: hs) w).isSome = true ↔ ∃ x, x ≤ p.pumps ∧ p.low + x ≤ w + h.rain ∧ w + h.rain ≤ p.high + x ∧ (bestFrom p hs (w + h.rain - x)).isSome = true := by
  show (((List.range (p.pumps + 1)).map fun x => cand p (bestFrom p hs) h w x).foldl lesser none).isSome = true ↔ _
  rw [fold_some]
  constructor
  · rintro (z | ⟨c, m, s⟩)
    · cases z
    · obtain ⟨x, _, e2⟩ := List.mem_map.mp m
      unfold cand at e2
      by_cases c : p.wrong w h x ≠ 0
      · rw [if_pos c] at e2
        rw [← e2] at s
        cases s
      · rw [if_neg c] at e2
        obtain ⟨c1, c2, c3⟩ := wrong_zero.mp (Decidable.not_not.mp c)
        rw [← e2, Option.isSome_map] at s
        exact ⟨x, c1, c2, c3, s⟩
  · rintro ⟨x, c1, c2, c3, s⟩
    refine .inr ⟨cand p (bestFrom p hs) h w x, List.mem_map.mpr ⟨x, List.mem_range.mpr (by omega), rfl⟩, ?_⟩
    unfold cand
    rw [if_neg (by rw [Decidable.not_not]; exact wrong_zero.mpr ⟨c1, c2, c3⟩), Option.isSome_map]
    exact s
def canBe (low high pumps : Nat) : List Hour → Nat → Nat → Bool
  | [], _, _ => true
  | h :: hs, l, g => if min (g + h.rain) high < max (l + h.rain - pumps) low then false else canBe low high pumps hs (max (l + h.rain - pumps) low) (min (g + h.rain) high)
theorem can_iff (p : Polder) : ∀ (hs : List Hour) (l g : Nat), l ≤ g → (canBe p.low p.high p.pumps hs l g = true ↔ ∃ w, l ≤ w ∧ w ≤ g ∧ (bestFrom p hs w).isSome = true)
  | [], l, g, hl => by
    refine ⟨fun _ => ⟨l, by omega, hl, rfl⟩, fun _ => rfl⟩
  | h :: hs, l, g, hl => by
    show (if min (g + h.rain) p.high < max (l + h.rain - p.pumps) p.low then false else canBe p.low p.high p.pumps hs (max (l + h.rain - p.pumps) p.low) (min (g + h.rain) p.high)) = true ↔ _
    by_cases c : min (g + h.rain) p.high < max (l + h.rain - p.pumps) p.low
    · rw [if_pos c]
      refine ⟨fun z => (by cases z), ?_⟩
      rintro ⟨w, h1, h2, s⟩
      obtain ⟨x, c1, c2, c3, _⟩ := some_cons.mp s
      omega
    · rw [if_neg c, can_iff p hs _ _ (by omega)]
      constructor
      · rintro ⟨v, h1, h2, s⟩
        by_cases c4 : v ≤ l + h.rain
        · refine ⟨l, by omega, hl, some_cons.mpr ⟨l + h.rain - v, by omega, by omega, by omega, ?_⟩⟩
          rw [show l + h.rain - (l + h.rain - v) = v by omega]
          exact s
        · refine ⟨v - h.rain, by omega, by omega, some_cons.mpr ⟨0, by omega, by omega, by omega, ?_⟩⟩
          rw [show v - h.rain + h.rain - 0 = v by omega]
          exact s
      · rintro ⟨w, h1, h2, s⟩
        obtain ⟨x, c1, c2, c3, s2⟩ := some_cons.mp s
        exact ⟨w + h.rain - x, by omega, by omega, s2⟩
theorem can_best (p : Polder) : canBe p.low p.high p.pumps p.hours p.stands p.stands = p.best.isSome := by
  rw [best_eq, Bool.eq_iff_iff, can_iff p p.hours p.stands p.stands (Nat.le_refl _)]
  constructor
  · rintro ⟨w, h1, h2, s⟩
    rw [show p.stands = w by omega]
    exact s
  · exact fun s => ⟨_, Nat.le_refl _, Nat.le_refl _, s⟩
theorem needs_some {p : Polder} {n : Nat} (h1 : p.low ≤ n) (h2 : n ≤ 60) (hn : canBe p.low n p.pumps p.hours p.stands p.stands = true) (hb : ∀ m, p.low ≤ m → m < n → canBe p.low m p.pumps p.hours p.stands p.stands = false) : p.needs = some n := by
  unfold Polder.needs
  rw [List.find?_range_eq_some]
  refine ⟨?_, List.mem_range.mpr (by show n < 60 + 1; omega), fun m hm => ?_⟩
  · rw [← can_best { p with high := n }, Bool.and_eq_true]
    exact ⟨decide_eq_true h1, hn⟩
  · by_cases c : p.low ≤ m
    · rw [← can_best { p with high := m }]
      show (!(decide (p.low ≤ m) && canBe p.low m p.pumps p.hours p.stands p.stands)) = true
      rw [hb m c hm, Bool.and_false]
      rfl
    · rw [decide_eq_false c]
      rfl
theorem needs_none {p : Polder} (hb : ∀ m, p.low ≤ m → m ≤ 60 → canBe p.low m p.pumps p.hours p.stands p.stands = false) : p.needs = none := by
  unfold Polder.needs
  rw [List.find?_range_eq_none]
  intro m hm
  have hm : m < 60 + 1 := hm
  by_cases c : p.low ≤ m
  · rw [← can_best { p with high := m }]
    show (!(decide (p.low ≤ m) && canBe p.low m p.pumps p.hours p.stands p.stands)) = true
    rw [hb m c (by omega), Bool.and_false]
    rfl
  · rw [decide_eq_false c]
    rfl
theorem strong_some {p : Polder} {n : Nat} (h2 : n ≤ 12) (hn : canBe p.low p.high n p.hours p.stands p.stands = true) (hb : ∀ m, m < n → canBe p.low p.high m p.hours p.stands p.stands = false) : p.strong = some n := by
  unfold Polder.strong
  rw [List.find?_range_eq_some]
  refine ⟨?_, List.mem_range.mpr (by omega), fun m hm => ?_⟩
  · rw [← can_best { p with pumps := n }]
    exact hn
  · rw [← can_best { p with pumps := m }]
    show (!(canBe p.low p.high m p.hours p.stands p.stands)) = true
    rw [hb m hm]
    rfl
theorem strong_none {p : Polder} (hb : ∀ m, m ≤ 12 → canBe p.low p.high m p.hours p.stands p.stands = false) : p.strong = none := by
  unfold Polder.strong
  rw [List.find?_range_eq_none]
  intro m hm
  rw [← can_best { p with pumps := m }]
  show (!(canBe p.low p.high m p.hours p.stands p.stands)) = true
  rw [hb m (by omega)]
  rfl

/-! ### 5. a plan looked at -/
def heightsI : Int → List Hour → List Nat → List Int
  | w, h :: hs, x :: xs => (w + h.rain - x) :: heightsI (w + h.rain - x) hs xs
  | _, _, _ => []
def wrongI (p : Polder) (height : Int) (x : Nat) : Int := if (p.pumps : Int) < x then 1 else if height < p.low then 2 else if (p.high : Int) < height then 3 else 0
def wrongsI (p : Polder) (w : Int) (hs : List Hour) (xs : List Nat) : List Int := ((heightsI w hs xs).zip xs).map fun t => wrongI p t.1 t.2
theorem heights_len : ∀ (w : Int) (hs : List Hour) (xs : List Nat), hs.length = xs.length → (heightsI w hs xs).length = xs.length
  | _, [], [], _ => rfl
  | _, [], _ :: _, h => by cases h
  | _, _ :: _, [], h => by cases h
  | w, h :: hs, x :: xs, e => by
    show (heightsI _ hs xs).length + 1 = xs.length + 1
    rw [heights_len _ hs xs (by simpa using e)]
theorem wrong_eq (p : Polder) (w : Nat) (h : Hour) (x : Nat) : ((p.wrong w h x : Nat) : Int) = wrongI p ((w : Int) + h.rain - x) x := by
  unfold Polder.wrong wrongI
  by_cases c1 : p.pumps < x
  · rw [if_pos c1, if_pos (show (p.pumps : Int) < x by omega)]; rfl
  · rw [if_neg c1, if_neg (show ¬ (p.pumps : Int) < x by omega)]
    by_cases c2 : w + h.rain < p.low + x
    · rw [if_pos c2, if_pos (show (w : Int) + h.rain - x < p.low by omega)]; rfl
    · rw [if_neg c2, if_neg (show ¬ (w : Int) + h.rain - x < p.low by omega)]
      by_cases c3 : p.high + x < w + h.rain
      · rw [if_pos c3, if_pos (show (p.high : Int) < (w : Int) + h.rain - x by omega)]; rfl
      · rw [if_neg c3, if_neg (show ¬ (p.high : Int) < (w : Int) + h.rain - x by omega)]; rfl
def GoesOk (p : Polder) (i w : Nat) (hs : List Hour) (xs : List Nat) : Except (Nat × Nat) (List Nat) → Prop
  | .error e => ∃ j, e.1 = i + j ∧ (wrongsI p w hs xs)[j]? = some (e.2 : Int) ∧ e.2 ≠ 0 ∧ ∀ k, k < j → (wrongsI p w hs xs)[k]? = some 0
  | .ok l => (∀ (k : Nat) (v : Int), (wrongsI p w hs xs)[k]? = some v → v = 0) ∧ heightsI w hs xs = Si97.ints l
theorem goes_ok (p : Polder) : ∀ (hs : List Hour) (xs : List Nat) (i w : Nat), hs.length = xs.length → GoesOk p i w hs xs (p.goes i w hs xs)
  | [], [], i, w, _ => ⟨fun k v h => by simp [wrongsI, heightsI] at h, rfl⟩
  | [], _ :: _, _, _, h => by cases h
  | _ :: _, [], _, _, h => by cases h
  | h :: hs, x :: xs, i, w, e => by
    have ih := goes_ok p hs xs (i + 1) (w + h.rain - x) (by simpa using e)
    have ew : wrongsI p w (h :: hs) (x :: xs) = wrongI p ((w : Int) + h.rain - x) x :: wrongsI p ((w : Int) + h.rain - x) hs xs := rfl
    show GoesOk p i w (h :: hs) (x :: xs) (if p.wrong w h x ≠ 0 then .error (i, p.wrong w h x) else match p.goes (i + 1) (w + h.rain - x) hs xs with
      | .error e => .error e
      | .ok l => .ok ((w + h.rain - x) :: l))
    by_cases c : p.wrong w h x ≠ 0
    · rw [if_pos c]
      refine ⟨0, rfl, ?_, c, fun k hk => by omega⟩
      rw [ew, ← wrong_eq]
      exact List.getElem?_cons_zero
    · rw [if_neg c]
      have c := Decidable.not_not.mp c
      obtain ⟨c1, c2, c3⟩ := wrong_zero.mp c
      have e0 : wrongI p ((w : Int) + h.rain - x) x = 0 := by
        rw [← wrong_eq, c]
        rfl
      have ei : (w : Int) + h.rain - x = ((w + h.rain - x : Nat) : Int) := by omega
      cases g : p.goes (i + 1) (w + h.rain - x) hs xs with
      | error q =>
        rw [g] at ih
        obtain ⟨j, h1, h2, h3, h4⟩ := ih
        refine ⟨j + 1, by omega, ?_, h3, fun k hk => ?_⟩
        · rw [ew, List.getElem?_cons_succ, ei]
          exact h2
        · rw [ew]
          cases k with
          | zero => rw [List.getElem?_cons_zero, e0]
          | succ k =>
            rw [List.getElem?_cons_succ, ei]
            exact h4 k (by omega)
      | ok l =>
        rw [g] at ih
        obtain ⟨h1, h2⟩ := ih
        refine ⟨fun k v hv => ?_, ?_⟩
        · rw [ew] at hv
          cases k with
          | zero =>
            rw [List.getElem?_cons_zero] at hv
            rw [← Option.some.inj hv, e0]
          | succ k =>
            rw [List.getElem?_cons_succ, ei] at hv
            exact h1 k v hv
        · show ((w : Int) + h.rain - x) :: heightsI ((w : Int) + h.rain - x) hs xs = ((w + h.rain - x : Nat) : Int) :: Si97.ints l
          rw [ei, h2]

/-! ### 6. the calls -/
abbrev PCall := Int × List Int
def flat1 (c : PCall) : List Int := c.1 :: (c.2.length : Int) :: (c.2 ++ [0])
def flat (ps : List PCall) : List Int := ps.flatMap flat1
theorem flat_cons (c : PCall) (ps : List PCall) : flat (c :: ps) = flat1 c ++ flat ps := by simp [flat]
theorem rows_nil : ∀ {k : Nat} {t u : List Int}, PyFlat.rows k t = some ([], u) → k = 0 ∧ t = u
  | 0, t, u, h => by
    have h : some (([] : List (List Int)), t) = some ([], u) := h
    exact ⟨rfl, (Prod.mk.inj (Option.some.inj h)).2⟩
  | k + 1, t, u, h => by
    unfold PyFlat.rows at h
    split at h
    · cases h
    · split at h
      · cases h
      · cases h
theorem row_some {r ns s : List Int} (h : PyFlat.row r = some (ns, s)) : r = (ns.length : Int) :: (ns ++ s) := by
  cases r with
  | nil => cases h
  | cons n r =>
    unfold PyFlat.row at h
    dsimp only at h
    split at h
    · rename_i c
      obtain ⟨e1, e2⟩ := Prod.mk.inj (Option.some.inj h)
      subst e1 e2
      rw [List.take_append_drop, List.length_take]
      refine congrArg (· :: r) ?_
      omega
    · cases h
theorem call_flat {l u : List Int} {c : List (List Int)} (h : PyWide.call l = some (c, u)) (hc : c.length = 1) : ∃ q : PCall, c = [q.1 :: q.2] ∧ l = flat1 q ++ u := by
  cases l with
  | nil => cases h
  | cons p r =>
    unfold PyWide.call at h
    dsimp only at h
    split at h
    · cases h
    · cases h
    · rename_i ns k t hr
      split at h
      · rename_i hk
        split at h
        · cases h
        · rename_i xs v hx
          obtain ⟨e1, e2⟩ := Prod.mk.inj (Option.some.inj h)
          subst e1 e2
          have hxs : xs = [] := List.length_eq_zero_iff.mp (by simpa using hc)
          subst hxs
          obtain ⟨k0, e⟩ := rows_nil hx
          have ek : k = 0 := by omega
          subst ek e
          refine ⟨(p, ns), rfl, ?_⟩
          show p :: r = p :: (ns.length : Int) :: (ns ++ [0] ++ t)
          rw [row_some hr, List.append_assoc]
          rfl
      · cases h
theorem calls_flat : ∀ (f : Nat) (l : List Int) (cs : List (List (List Int))), PyWide.calls f l = some cs → (∀ c ∈ cs, c.length = 1) → ∃ ps : List PCall, cs = ps.map (fun q => [q.1 :: q.2]) ∧ l = flat ps
  | f, [], cs, h, _ => by
    have h' : some ([] : List (List (List Int))) = some cs := by cases f <;> exact h
    refine ⟨[], ?_, rfl⟩
    rw [← Option.some.inj h']
    rfl
  | 0, _ :: _, _, h, _ => by cases h
  | f + 1, p :: r, cs, h, hc => by
    unfold PyWide.calls at h
    split at h
    · cases h
    · rename_i c t hcall
      split at h
      · cases h
      · rename_i cs' hcs
        have e := Option.some.inj h
        subst e
        obtain ⟨q, e1, e2⟩ := call_flat hcall (hc c List.mem_cons_self)
        obtain ⟨ps, e3, e4⟩ := calls_flat f t cs' hcs fun d hd => hc d (List.mem_cons_of_mem _ hd)
        refine ⟨q :: ps, ?_, ?_⟩
        · rw [e1, e3]
          rfl
        · rw [e2, e4, flat_cons]

/-! ### 7. one call -/
def encOf : Call → PCall
  | .begins s l h c => (0, [(s : Int), (l : Int), (h : Int), (c : Int)])
  | .hour h => (1, [(h.rain : Int), (h.cost : Int)])
  | .check l => (2, Si97.ints l)
  | .best => (3, [])
  | .needs => (4, [])
  | .strong => (5, [])
theorem callOf_enc {z : Int} {ns : List Int} {q : Call} (h0 : ∀ y ∈ z :: ns, 0 ≤ y) (h : Si97Neutral.callOf (z :: ns) = some q) : (z, ns) = encOf q ∧ (∀ l, q = .check l → l.length ≤ 10) := by
  have back : ∀ l : List Int, (∀ y ∈ l, 0 ≤ y) → l = Si97.ints (l.map Int.toNat) := by
    intro l hl
    unfold Si97.ints
    rw [List.map_map]
    conv => lhs; rw [← List.map_id l]
    refine List.map_congr_left fun y hy => ?_
    have := hl y hy
    show y = ((y.toNat : Nat) : Int)
    omega
  have hb := back _ h0
  unfold Si97Neutral.callOf at h
  generalize hm : (z :: ns).map Int.toNat = m at h hb
  split at h
  all_goals first
    | (split at h
       · have e := Option.some.inj h
         subst e
         rename_i r c
         have hb : z :: ns = (2 : Int) :: Si97.ints r := hb
         obtain ⟨e1, e2⟩ := List.cons.inj hb
         subst e1 e2
         refine ⟨rfl, fun l el => ?_⟩
         cases el
         exact c
       · cases h)
    | (have e := Option.some.inj h
       subst e
       obtain ⟨e1, e2⟩ := List.cons.inj hb
       subst e1 e2
       exact ⟨rfl, fun l el => by cases el⟩)
    | cases h
def Wf (p : Polder) : Prop := p.stands ≤ 60 ∧ p.low ≤ p.high ∧ p.high ≤ 60 ∧ p.pumps ≤ 12 ∧ p.hours.length ≤ 8 ∧ ∀ h ∈ p.hours, h.rain ≤ 30 ∧ h.cost ≤ 1000
theorem wf_init : Wf init := ⟨by decide, by decide, by decide, by decide, by decide, fun h hh => by cases hh⟩
def ansOf (a : Ans) : List Int := a.v :: a.l
theorem wf_step {p : Polder} (w : Wf p) (q : Call) : Wf (step p q).1 := by
  cases q with
  | begins s l h c =>
    show Wf (if MOST < s ∨ MOST < h ∨ h < l ∨ PUMPS < c then (p, ok (-1)) else (⟨s, l, h, c, []⟩, ok 0)).1
    split
    · exact w
    · rename_i z
      have z : ¬ (60 < s ∨ 60 < h ∨ h < l ∨ 12 < c) := z
      exact ⟨by show s ≤ 60; omega, by show l ≤ h; omega, by show h ≤ 60; omega, by show c ≤ 12; omega, Nat.zero_le _, fun h hh => by cases hh⟩
  | hour h =>
    show Wf (if RAIN < h.rain ∨ COST < h.cost then (p, ok (-1)) else if HOURS ≤ p.hours.length then (p, ok (-5)) else ({ p with hours := p.hours ++ [h] }, ok ((p.hours.length : Nat) : Int))).1
    split
    · exact w
    · rename_i z
      have z : ¬ (30 < h.rain ∨ 1000 < h.cost) := z
      split
      · exact w
      · rename_i y
        have y : ¬ 8 ≤ p.hours.length := y
        obtain ⟨w1, w2, w3, w4, w5, w6⟩ := w
        refine ⟨w1, w2, w3, w4, ?_, fun k hk => ?_⟩
        · show (p.hours ++ [h]).length ≤ 8
          rw [List.length_append]
          show p.hours.length + 1 ≤ 8
          omega
        · rcases List.mem_append.mp hk with a | a
          · exact w6 k a
          · have e : k = h := by simpa using a
            subst e
            omega
  | check l =>
    show Wf (if p.told l = false then (p, ok (-1)) else (p, _)).1
    split <;> exact w
  | best => exact w
  | needs => exact w
  | strong => exact w

/-! ### 8. the row of calls, and what is asked -/
def stepOf (p : Polder) (q : Call) : Polder := (step p q).1
/-- the answers told from a state -/
def toldFrom : Polder → List Call → List Int
  | _, [] => []
  | p, q :: qs => ((ansOf (step p q).2).length : Int) :: (ansOf (step p q).2 ++ toldFrom (stepOf p q) qs)
theorem played_told : ∀ (qs : List Call) (ps : List PCall) (p : Polder), ps.length = qs.length → (∀ (i : Nat) (q : Call) (c : PCall), qs[i]? = some q → ps[i]? = some c → Si97Neutral.callOf (c.1 :: c.2) = some q) →
    PyFlat.told (PyFlat.played Si97Neutral.step p (ps.map fun q => [q.1 :: q.2])) = toldFrom p qs
  | [], [], _, _, _ => rfl
  | [], _ :: _, _, h, _ => by cases h
  | _ :: _, [], _, h, _ => by cases h
  | q :: qs, c :: ps, p, h, hq => by
    have e := hq 0 q c rfl rfl
    have es : Si97Neutral.step p [c.1 :: c.2] = ((step p q).1, ansOf (step p q).2) := by
      unfold Si97Neutral.step
      show (match Si97Neutral.callOf (c.1 :: c.2) with
        | none => (p, [])
        | some q => let r := Si97.step p q; (r.1, r.2.v :: r.2.l)) = _
      rw [e]
      rfl
    have ih := played_told qs ps (stepOf p q) (by simpa using h) fun i q c a b => hq (i + 1) q c a b
    show PyFlat.told ((Si97Neutral.step p [c.1 :: c.2]).2 :: PyFlat.played Si97Neutral.step (Si97Neutral.step p [c.1 :: c.2]).1 (ps.map fun q => [q.1 :: q.2])) = _
    rw [es]
    show ((ansOf (step p q).2).length : Int) :: (ansOf (step p q).2 ++ PyFlat.told (PyFlat.played Si97Neutral.step (step p q).1 (ps.map fun q => [q.1 :: q.2]))) = _
    rw [show PyFlat.told (PyFlat.played Si97Neutral.step (step p q).1 (ps.map fun q => [q.1 :: q.2])) = toldFrom (stepOf p q) qs from ih]
    rfl
/-- what a request is: the flat list of at most 60 calls -/
theorem asked_calls {l : List Int} (h : PySi97.answers_asked l = true) : ∃ qs : List Call, l = flat (qs.map encOf) ∧ (∀ i : Nat, ∀ r : List Nat, qs[i]? = some (.check r) → r.length ≤ 10) ∧ PySi97.answers l = toldFrom init qs ∧ (toldFrom init qs).length ≤ 10000000 := by
  unfold PySi97.answers_asked at h
  cases e : PySi97.calls l with
  | none => rw [e] at h; cases h
  | some cs =>
    rw [e] at h
    simp only [Bool.and_eq_true] at h
    obtain ⟨⟨⟨⟨_, _⟩, _⟩, ha⟩, hsh⟩ := h
    have ha1 : ∀ c ∈ cs, Si97Neutral.asked1 c = true := by
      unfold Si97Neutral.asked at ha
      rw [Bool.and_eq_true] at ha
      exact List.all_eq_true.mp ha.1
    have h1 : ∀ c ∈ cs, c.length = 1 := fun c hc => by
      have z := ha1 c hc
      unfold Si97Neutral.asked1 at z
      rw [Bool.and_eq_true] at z
      exact of_decide_eq_true (by simpa using z.1)
    obtain ⟨ps, e1, e2⟩ := calls_flat l.length l cs e h1
    have hp : ∀ c ∈ ps, (∀ y ∈ c.1 :: c.2, 0 ≤ y) ∧ ∃ q, Si97Neutral.callOf (c.1 :: c.2) = some q := fun c hc => by
      have z := ha1 [c.1 :: c.2] (by rw [e1]; exact List.mem_map.mpr ⟨c, hc, rfl⟩)
      unfold Si97Neutral.asked1 at z
      rw [Bool.and_eq_true, Bool.and_eq_true] at z
      refine ⟨fun y hy => ?_, Option.isSome_iff_exists.mp z.2.2⟩
      have z3 := List.all_eq_true.mp z.2.1 y hy
      unfold Si97Neutral.natural at z3
      rw [Bool.and_eq_true] at z3
      exact of_decide_eq_true z3.1
    have build : ∀ ps : List PCall, (∀ c ∈ ps, (∀ y ∈ c.1 :: c.2, 0 ≤ y) ∧ ∃ q, Si97Neutral.callOf (c.1 :: c.2) = some q) → ∃ qs : List Call, ps = qs.map encOf ∧ (∀ i : Nat, ∀ r : List Nat, qs[i]? = some (.check r) → r.length ≤ 10) ∧ ∀ (i : Nat) q c, qs[i]? = some q → ps[i]? = some c → Si97Neutral.callOf (c.1 :: c.2) = some q := by
      intro ps
      induction ps with
      | nil => exact fun _ => ⟨[], rfl, fun i r h => by simp at h, fun i q c h => by simp at h⟩
      | cons c ps ih =>
        intro hc
        obtain ⟨qs, f1, f2, f3⟩ := ih fun d hd => hc d (List.mem_cons_of_mem _ hd)
        obtain ⟨g1, q, g2⟩ := hc c List.mem_cons_self
        obtain ⟨k1, k2⟩ := callOf_enc g1 g2
        refine ⟨q :: qs, ?_, fun i r h => ?_, fun i q' c' h h' => ?_⟩
        · rw [f1, List.map_cons, ← k1]
        · cases i with
          | zero => exact k2 r (Option.some.inj h)
          | succ i => exact f2 i r h
        · cases i with
          | zero =>
            have a := Option.some.inj h
            have b := Option.some.inj h'
            subst a b
            exact g2
          | succ i => exact f3 i q' c' h h'
    obtain ⟨qs, f1, f2, f3⟩ := build ps hp
    have ea : PySi97.answers l = toldFrom init qs := by
      unfold PySi97.answers
      rw [e, e1]
      exact played_told qs ps init (by rw [f1, List.length_map]) f3
    refine ⟨qs, by rw [e2, f1], f2, ea, ?_⟩
    rw [← ea]
    exact of_decide_eq_true hsh
end PP

/-! The text's places, the heap's words, the promises of the small defs. -/
namespace PP
open PySem PySem.Spec PyProof.Rows L2

/-! ### the text -/
def top (i : Nat) : Stmt := PySem.Challenge.pw_polderpumps_s01_answers.main.body.getD i (.Pass ⟨0, 0, 0, 0⟩)
abbrev sWithin : Stmt := top 9
abbrev sInit : Stmt := inClass (top 11) 0
abbrev sBegin : Stmt := inClass (top 11) 1
abbrev sPut : Stmt := inClass (top 11) 2
abbrev sMany : Stmt := inClass (top 11) 3
abbrev sHB : Stmt := top 12
abbrev sMay : Stmt := top 13
abbrev sRowB : Stmt := top 15
abbrev sChoice : Stmt := top 16
abbrev sChoices : Stmt := top 17
abbrev sTog : Stmt := top 18
abbrev sRowA : Stmt := top 19
abbrev sRows : Stmt := top 20
abbrev sEarl : Stmt := top 21
abbrev sBest : Stmt := top 22
abbrev sHsB : Stmt := top 24
abbrev sCan : Stmt := top 25
abbrev sNeed : Stmt := top 26
abbrev sStrong : Stmt := top 27
abbrev sWrong : Stmt := top 33
abbrev sHof : Stmt := top 34
abbrev sWof : Stmt := top 35
abbrev sCof : Stmt := top 36
abbrev sChk : Stmt := top 37
abbrev sAre : Stmt := top 39
abbrev sBegun : Stmt := top 40
abbrev sHour : Stmt := top 41
abbrev sAnsd : Stmt := top 48
abbrev sCalls : Stmt := top 49
abbrev sAns : Stmt := top 50

/-! ### what the top has written -/
structure Txt (K : PySem.W.Frag) (mg : Str → Option Value) (C : Addr) : Prop where
  cl : Cls K C
  nS : NoAttr K C "stands"
  nL : NoAttr K C "low"
  nH : NoAttr K C "high"
  nP : NoAttr K C "pumps"
  nR : NoAttr K C "rains"
  nC : NoAttr K C "costs"
  mostHeight : ∃ t, mg "MOST_HEIGHT" = some (.int 60 t)
  mostPumped : ∃ t, mg "MOST_PUMPED" = some (.int 12 t)
  mostRain : ∃ t, mg "MOST_RAIN" = some (.int 30 t)
  mostCost : ∃ t, mg "MOST_COST" = some (.int 1000 t)
  mostHours : ∃ t, mg "MOST_HOURS" = some (.int 8 t)
  notTold : ∃ t, mg "NOT_TOLD" = some (.int (-1) t)
  tooMany : ∃ t, mg "TOO_MANY" = some (.int (-5) t)
  cannot : ∃ t, mg "CANNOT" = some (.int (-6) t)
  nothing : ∃ t, mg "NOTHING" = some (.int 0 t)
  tooStrong : ∃ t, mg "TOO_STRONG" = some (.int 1 t)
  tooLow : ∃ t, mg "TOO_LOW" = some (.int 2 t)
  tooHigh : ∃ t, mg "TOO_HIGH" = some (.int 3 t)
  begins : ∃ t, mg "BEGINS" = some (.int 0 t)
  hour : ∃ t, mg "HOUR" = some (.int 1 t)
  check : ∃ t, mg "CHECK" = some (.int 2 t)
  best : ∃ t, mg "BEST" = some (.int 3 t)
  needs : ∃ t, mg "NEEDS" = some (.int 4 t)
  len : mg "len" = none
  range : mg "range" = none
  min : mg "min" = none
  max : mg "max" = none
  sum : mg "sum" = none
  zip : mg "zip" = none
  reversed : mg "reversed" = none

/-! ### calls of the program's own defs -/
structure Is (P : Program) (w : World) (K : PySem.W.Frag) (mg : Str → Option Value) (base : Heap) (k : Nat) (x : Str) (ps : List Str) (sp : Sp) : Prop where
  ex : ∃ (f : Addr) (fd : FuncData), mg x = some (.ref f) ∧ PySem.W.keepIn K (.ref f) = true ∧ Binds K fd ps [] ∧ FnOk P w K mg base CX0 k f fd ps sp
structure IsM (P : Program) (w : World) (K : PySem.W.Frag) (mg : Str → Option Value) (base : Heap) (C : Addr) (k : Nat) (m : Str) (ps : List Str) (sp : Sp) : Prop where
  ex : ∃ (f : Addr) (fd : FuncData), Meth K C m f ∧ Binds K fd ps [] ∧ FnOk P w K mg base CX0 k f fd ps sp
section
variable {X : Cx}
theorem pe_k {x : Str} {i : Int} {pos : Pos} (hg : Gl X x) (hm : ∃ t, X.mg x = some (.int i t)) (hd : (x == ("__debug__" : Str)) = false := by decide) : PE X (.Name x pos) (tC (.int i)) := by
  obtain ⟨t, h⟩ := hm
  exact pe_glob hg h ⟨t, rfl⟩ hd
theorem pe_is {k : Nat} {x : Str} {ps : List Str} {sp : Sp} {p pos : Pos} {e : Expr} {es : List Expr} {t : TA} (D : Is X.prog X.w X.K X.mg X.base k x ps sp) (hr : Room k X.A) (hg : Gl X x) (ha : PA X (e :: es) t) (hdb : (x == ("__debug__" : Str)) = false := by decide)
    (he : starEach (e :: es) X.env = (false, eval e X.env) :: starEach es X.env := by rfl) (hpl : (backTo pos (starEach es X.env)).any (·.1) = false := by rfl) : PE X (.Call (.Name x p) (e :: es) [] pos) (tCall sp [] E0 t) := by
  obtain ⟨f, fd, hm, hk, hb, F⟩ := D.ex
  exact pe_call F hr hg hm hk hb .nil pass0 ha hdb he hpl
theorem pe_is0 {k : Nat} {x : Str} {ps : List Str} {sp : Sp} {p pos : Pos} (D : Is X.prog X.w X.K X.mg X.base k x ps sp) (hr : Room k X.A) (hg : Gl X x) (hdb : (x == ("__debug__" : Str)) = false := by decide) :
    PE X (.Call (.Name x p) [] [] pos) (tCall sp [] E0 tNil) := by
  obtain ⟨f, fd, hm, hk, hb, F⟩ := D.ex
  exact pe_call0 F hr hg hm hk hb .nil pass0 hdb
theorem pe_ism {C : Addr} {k : Nat} {m : Str} {ps : List Str} {sp : Sp} {apos pos : Pos} {o e : Expr} {es : List Expr} {ta : TE} {t : TA} {pl : Sem Bool} (he : PE X o ta) (c : Cls X.K C) (D : IsM X.prog X.w X.K X.mg X.base C k m ps sp) (hr : Room k X.A) (ha : PA X (e :: es) t)
    (hst : starEach (e :: es) X.env = (false, eval e X.env) :: starEach es X.env := by rfl) (hpl : (backTo pos (starEach es X.env)).any (·.1) = false := by rfl)
    (ht : eval (.Call (.Attribute o m apos) (e :: es) [] pos) X.env = (do
      let ov ← eval o X.env
      standAt apos.atName
      let (f, first) ← holding [ov] (getMethod ov m pl)
      callWith pos f first (backTo pos (starEach (e :: es) X.env)) (backToKw pos (keywordEach [] X.env))) := by rfl) :
    PE X (.Call (.Attribute o m apos) (e :: es) [] pos) (tMeth C m sp [] E0 ta t) := by
  obtain ⟨f, fd, hm, hb, F⟩ := D.ex
  exact pe_meth (pl := pl) he c hm F hr hb .nil pass0 ha hst hpl ht
theorem pe_ism0 {C : Addr} {k : Nat} {m : Str} {ps : List Str} {sp : Sp} {apos pos : Pos} {o : Expr} {ta : TE} {pl : Sem Bool} (he : PE X o ta) (c : Cls X.K C) (D : IsM X.prog X.w X.K X.mg X.base C k m ps sp) (hr : Room k X.A)
    (ht : eval (.Call (.Attribute o m apos) [] [] pos) X.env = (do
      let ov ← eval o X.env
      standAt apos.atName
      let (f, first) ← holding [ov] (getMethod ov m pl)
      callWith pos f first (backTo pos (starEach [] X.env)) (backToKw pos (keywordEach [] X.env))) := by rfl) :
    PE X (.Call (.Attribute o m apos) [] [] pos) (tMeth C m sp [] E0 ta tNil) := by
  obtain ⟨f, fd, hm, hb, F⟩ := D.ex
  exact pe_meth0 (pl := pl) he c hm F hr hb .nil pass0 ht
end

/-! ### the heap -/
theorem same_upd {H : Hp} {p : Addr} {o : HO} (h : H p = none) : Same H (upd H p o) := fun b x e => by
  rw [upd_ne (ne_of_none e h)]
  exact e
theorem Same.tup {K : PySem.W.Frag} {H H' : Hp} {a : Addr} {xs : List V} (e : Same H H') (h : SqT K H a xs) : SqT K H' a xs := by
  rcases h with (h | ⟨o, h⟩) | h
  · exact .inl (.inl (e _ _ h))
  · exact .inl (.inr ⟨o, e _ _ h⟩)
  · exact .inr h
/-- item by item -/
def Al {α β : Type} (R : α → β → Prop) : List α → List β → Prop
  | [], [] => True
  | a :: as, b :: bs => R a b ∧ Al R as bs
  | _, _ => False
theorem Al.mono {α β : Type} {R S : α → β → Prop} (h : ∀ a b, R a b → S a b) : ∀ {as : List α} {bs : List β}, Al R as bs → Al S as bs
  | [], [], _ => trivial
  | [], _ :: _, z => z.elim
  | _ :: _, [], z => z.elim
  | _ :: _, _ :: _, z => ⟨h _ _ z.1, Al.mono h z.2⟩
theorem Al.len {α β : Type} {R : α → β → Prop} : ∀ {as : List α} {bs : List β}, Al R as bs → as.length = bs.length
  | [], [], _ => rfl
  | [], _ :: _, z => z.elim
  | _ :: _, [], z => z.elim
  | _ :: _, _ :: _, z => congrArg (· + 1) (Al.len z.2)
theorem Al.get {α β : Type} {R : α → β → Prop} : ∀ {as : List α} {bs : List β} {i : Nat} {b : β}, Al R as bs → bs[i]? = some b → ∃ a, as[i]? = some a ∧ R a b
  | [], [], i, b, _, h => by simp at h
  | [], _ :: _, _, _, z, _ => z.elim
  | _ :: _, [], _, _, z, _ => z.elim
  | a :: as, c :: bs, 0, b, z, h => by
    have e : c = b := Option.some.inj h
    subst e
    exact ⟨a, rfl, z.1⟩
  | _ :: as, _ :: bs, i + 1, b, z, h => Al.get (i := i) z.2 h
theorem Al.getL {α β : Type} {R : α → β → Prop} : ∀ {as : List α} {bs : List β} {i : Nat} {a : α}, Al R as bs → as[i]? = some a → ∃ b, bs[i]? = some b ∧ R a b
  | [], [], i, b, _, h => by simp at h
  | [], _ :: _, _, _, z, _ => z.elim
  | _ :: _, [], _, _, z, _ => z.elim
  | a :: as, c :: bs, 0, b, z, h => by
    have e : a = b := Option.some.inj h
    subst e
    exact ⟨c, rfl, z.1⟩
  | _ :: as, _ :: bs, i + 1, b, z, h => Al.getL (i := i) z.2 h
theorem Al.app {α β : Type} {R : α → β → Prop} {a : α} {b : β} (r : R a b) : ∀ {as : List α} {bs : List β}, Al R as bs → Al R (as ++ [a]) (bs ++ [b])
  | [], [], _ => ⟨r, trivial⟩
  | [], _ :: _, z => z.elim
  | _ :: _, [], z => z.elim
  | _ :: _, _ :: _, z => ⟨z.1, Al.app r z.2⟩
theorem take_more {α : Type} {l : List α} {i : Nat} {x : α} (h : l[i]? = some x) : l.take (i + 1) = l.take i ++ [x] := by
  rw [List.take_add_one, h]
  rfl

abbrev FL := List (Str × V)
/-- a polder's attributes -/
def mkF (s l h c : Int) (ra ca : Addr) : List (Str × V) := [("stands", .int s), ("low", .int l), ("high", .int h), ("pumps", .int c), ("rains", .ref ra), ("costs", .ref ca)]
def polF (p : Si97.Polder) (ra ca : Addr) : List (Str × V) := mkF p.stands p.low p.high p.pumps ra ca
def rainsV (hs : List Si97.Hour) : List V := hs.map fun h => V.int h.rain
def costsV (hs : List Si97.Hour) : List V := hs.map fun h => V.int h.cost
structure PolAt (C : Addr) (H : Hp) (a ra ca : Addr) (p : Si97.Polder) : Prop where
  at_ : ∃ dx, H a = some (.ins C dx (polF p ra ca))
  rs : H ra = some (.lst (rainsV p.hours))
  cs : H ca = some (.lst (costsV p.hours))
  ne : ra ≠ ca
theorem PolAt.same {C : Addr} {H H' : Hp} {a ra ca : Addr} {p : Si97.Polder} (h : PolAt C H a ra ca p) (s : Same H H') : PolAt C H' a ra ca p := by
  obtain ⟨⟨dx, h1⟩, h2, h3, h4⟩ := h
  exact ⟨⟨dx, s _ _ h1⟩, s _ _ h2, s _ _ h3, h4⟩
theorem lk_here {k : Str} {v : V} {r : List (Str × V)} : List.lookup k ((k, v) :: r) = some v := by
  have e : (k == k) = true := beq_self_eq_true k
  simp only [List.lookup, e]
theorem lk_past {k g : Str} {v : V} {r : List (Str × V)} (h : (k == g) = false) : List.lookup k ((g, v) :: r) = List.lookup k r := by
  simp only [List.lookup, h]
theorem put_here {f : Str} {v x : V} {r : List (Str × V)} : putF f v ((f, x) :: r) = (f, v) :: r := if_pos rfl
theorem put_past {f g : Str} {v x : V} {r : List (Str × V)} (h : ¬ g = f) : putF f v ((g, x) :: r) = (g, x) :: putF f v r := if_neg h
section
variable {s l h c : Int} {ra ca : Addr}
theorem lkS : (mkF s l h c ra ca).lookup ("stands" : Str) = some (.int s) := lk_here
theorem lkL : (mkF s l h c ra ca).lookup ("low" : Str) = some (.int l) := (lk_past (by decide +kernel)).trans lk_here
theorem lkH : (mkF s l h c ra ca).lookup ("high" : Str) = some (.int h) := (lk_past (by decide +kernel)).trans ((lk_past (by decide +kernel)).trans lk_here)
theorem lkP : (mkF s l h c ra ca).lookup ("pumps" : Str) = some (.int c) := (lk_past (by decide +kernel)).trans ((lk_past (by decide +kernel)).trans ((lk_past (by decide +kernel)).trans lk_here))
theorem lkR : (mkF s l h c ra ca).lookup ("rains" : Str) = some (.ref ra) := (lk_past (by decide +kernel)).trans ((lk_past (by decide +kernel)).trans ((lk_past (by decide +kernel)).trans ((lk_past (by decide +kernel)).trans lk_here)))
theorem lkC : (mkF s l h c ra ca).lookup ("costs" : Str) = some (.ref ca) := (lk_past (by decide +kernel)).trans ((lk_past (by decide +kernel)).trans ((lk_past (by decide +kernel)).trans ((lk_past (by decide +kernel)).trans ((lk_past (by decide +kernel)).trans lk_here))))
theorem lkNone {m : Str} (h1 : (m == ("stands" : Str)) = false) (h2 : (m == ("low" : Str)) = false) (h3 : (m == ("high" : Str)) = false) (h4 : (m == ("pumps" : Str)) = false) (h5 : (m == ("rains" : Str)) = false) (h6 : (m == ("costs" : Str)) = false) :
    (mkF s l h c ra ca).lookup m = none := (lk_past h1).trans ((lk_past h2).trans ((lk_past h3).trans ((lk_past h4).trans ((lk_past h5).trans ((lk_past h6).trans rfl)))))
theorem lkMany : (mkF s l h c ra ca).lookup ("many_hours" : Str) = none := lkNone (by decide +kernel) (by decide +kernel) (by decide +kernel) (by decide +kernel) (by decide +kernel) (by decide +kernel)
theorem lkPut : (mkF s l h c ra ca).lookup ("put_hour" : Str) = none := lkNone (by decide +kernel) (by decide +kernel) (by decide +kernel) (by decide +kernel) (by decide +kernel) (by decide +kernel)
theorem lkBegin : (mkF s l h c ra ca).lookup ("begin_anew" : Str) = none := lkNone (by decide +kernel) (by decide +kernel) (by decide +kernel) (by decide +kernel) (by decide +kernel) (by decide +kernel)
theorem putS {x : Int} : putF "stands" (.int x) (mkF s l h c ra ca) = mkF x l h c ra ca := put_here
theorem putL {x : Int} : putF "low" (.int x) (mkF s l h c ra ca) = mkF s x h c ra ca := (put_past (by decide +kernel)).trans (congrArg _ put_here)
theorem putH {x : Int} : putF "high" (.int x) (mkF s l h c ra ca) = mkF s l x c ra ca := (put_past (by decide +kernel)).trans (congrArg _ ((put_past (by decide +kernel)).trans (congrArg _ put_here)))
theorem putP {x : Int} : putF "pumps" (.int x) (mkF s l h c ra ca) = mkF s l h x ra ca := (put_past (by decide +kernel)).trans (congrArg _ ((put_past (by decide +kernel)).trans (congrArg _ ((put_past (by decide +kernel)).trans (congrArg _ put_here)))))
theorem putR {x : Addr} : putF "rains" (.ref x) (mkF s l h c ra ca) = mkF s l h c x ca := (put_past (by decide +kernel)).trans (congrArg _ ((put_past (by decide +kernel)).trans (congrArg _ ((put_past (by decide +kernel)).trans (congrArg _ ((put_past (by decide +kernel)).trans (congrArg _ put_here)))))))
theorem putC {x : Addr} : putF "costs" (.ref x) (mkF s l h c ra ca) = mkF s l h c ra x := (put_past (by decide +kernel)).trans (congrArg _ ((put_past (by decide +kernel)).trans (congrArg _ ((put_past (by decide +kernel)).trans (congrArg _ ((put_past (by decide +kernel)).trans (congrArg _ ((put_past (by decide +kernel)).trans (congrArg _ put_here)))))))))
theorem putNew : putF "costs" (.ref ca) (putF "rains" (.ref ra) (putF "pumps" (.int c) (putF "high" (.int h) (putF "low" (.int l) (putF "stands" (.int s) []))))) = mkF s l h c ra ca := by
  have e1 : putF "stands" (.int s) [] = [(("stands" : Str), V.int s)] := rfl
  have e2 : putF "low" (.int l) [(("stands" : Str), V.int s)] = ([("stands", .int s), ("low", .int l)] : FL) := put_past (by decide +kernel)
  have e3 : putF "high" (.int h) ([("stands", .int s), ("low", .int l)] : FL) = ([("stands", .int s), ("low", .int l), ("high", .int h)] : FL) := (put_past (by decide +kernel)).trans (congrArg _ (put_past (by decide +kernel)))
  have e4 : putF "pumps" (.int c) ([("stands", .int s), ("low", .int l), ("high", .int h)] : FL) = ([("stands", .int s), ("low", .int l), ("high", .int h), ("pumps", .int c)] : FL) := (put_past (by decide +kernel)).trans (congrArg _ ((put_past (by decide +kernel)).trans (congrArg _ (put_past (by decide +kernel)))))
  have e5 : putF "rains" (.ref ra) ([("stands", .int s), ("low", .int l), ("high", .int h), ("pumps", .int c)] : FL) = ([("stands", .int s), ("low", .int l), ("high", .int h), ("pumps", .int c), ("rains", .ref ra)] : FL) := (put_past (by decide +kernel)).trans (congrArg _ ((put_past (by decide +kernel)).trans (congrArg _ ((put_past (by decide +kernel)).trans (congrArg _ (put_past (by decide +kernel)))))))
  rw [e1, e2, e3, e4, e5]
  exact (put_past (by decide +kernel)).trans (congrArg _ ((put_past (by decide +kernel)).trans (congrArg _ ((put_past (by decide +kernel)).trans (congrArg _ ((put_past (by decide +kernel)).trans (congrArg _ (put_past (by decide +kernel)))))))))
end

/-- a triple's tuple, a cell, a row, rows -/
def triV (t : Tri) : List V := [.int t.1, .int t.2.1, .int t.2.2]
def TriAt (H : Hp) (v : V) (t : Tri) : Prop := ∃ q, v = .ref q ∧ H q = some (.tup (triV t))
def CellAt (H : Hp) (v : V) : Cell → Prop
  | none => v = .non
  | some t => TriAt H v t
def RowAt (H : Hp) (r : Addr) (cs : List Cell) : Prop := ∃ vs, H r = some (.lst vs) ∧ Al (CellAt H) vs cs
def TrisAt (H : Hp) (r : Addr) (ts : List Tri) : Prop := ∃ vs, H r = some (.lst vs) ∧ Al (TriAt H) vs ts
def RowsAt (H : Hp) (r : Addr) (rs : List (List Cell)) : Prop := ∃ vs, H r = some (.lst vs) ∧ Al (fun v row => ∃ q, v = V.ref q ∧ RowAt H q row) vs rs
theorem TriAt.same {H H' : Hp} {v : V} {t : Tri} (s : Same H H') (h : TriAt H v t) : TriAt H' v t := by
  obtain ⟨q, e, h⟩ := h
  exact ⟨q, e, s _ _ h⟩
theorem CellAt.same {H H' : Hp} {v : V} {c : Cell} (s : Same H H') (h : CellAt H v c) : CellAt H' v c := by
  cases c with
  | none => exact h
  | some t => exact TriAt.same s h
theorem RowAt.same {H H' : Hp} {r : Addr} {cs : List Cell} (s : Same H H') (h : RowAt H r cs) : RowAt H' r cs := by
  obtain ⟨vs, h1, h2⟩ := h
  exact ⟨vs, s _ _ h1, h2.mono fun _ _ => CellAt.same s⟩
theorem TrisAt.same {H H' : Hp} {r : Addr} {cs : List Tri} (s : Same H H') (h : TrisAt H r cs) : TrisAt H' r cs := by
  obtain ⟨vs, h1, h2⟩ := h
  exact ⟨vs, s _ _ h1, h2.mono fun _ _ => TriAt.same s⟩
theorem RowsAt.same {H H' : Hp} {r : Addr} {rs : List (List Cell)} (s : Same H H') (h : RowsAt H r rs) : RowsAt H' r rs := by
  obtain ⟨vs, h1, h2⟩ := h
  exact ⟨vs, s _ _ h1, h2.mono fun _ _ ⟨q, e, z⟩ => ⟨q, e, RowAt.same s z⟩⟩

theorem q_bl {Q : VK} {a b : Bool} {H : Hp} (e : a = b) (h : Q (.bl b) H) : Q (.bl a) H := by
  rw [e]
  exact h
theorem q_int {Q : VK} {a b : Int} {H : Hp} (e : a = b) (h : Q (.int b) H) : Q (.int a) H := by
  rw [e]
  exact h

/-! ### promises and bodies of the small defs -/
section
variable {P : Program} {w : World} {K : PySem.W.Frag} {mg : Str → Option Value} {base : Heap} {C : Addr}
def spWithin : Sp := fun vs H Q _ => ∃ n m : Int, vs = [.int n, .int m] ∧ Q (.bl (decide (0 ≤ n ∧ n ≤ m))) H
theorem scWithin : FnScope ["number", "most"] ["number", "most"] (defScope sWithin) := ⟨rfl, rfl, rfl, by decide +kernel, rfl, by decide +kernel, by decide +kernel⟩
theorem ok_within {f : Addr} {fd : FuncData} (F : Fun K "is_within" "is_within" sWithin f fd) : FnOk P w K mg base CX0 1 f fd ["number", "most"] spWithin := by
  refine F.ok scWithin (fun vs H Q E h => ?_) (fun cdv A outer s H vs Q E hr h => ?_)
  · obtain ⟨n, m, rfl, _⟩ := h
    rfl
  · obtain ⟨n, m, rfl, q⟩ := h
    refine ⟨_, pss_one (ps_ret (pe_chain op_le op_le pe_int (pv 0) (pv 1))), ?_⟩
    refine ⟨_, rfl, _, _, rfl, rfl, _, rfl, ite2 (fun c => ?_) (fun c => ?_)⟩
    · have c := of_decide_eq_true c
      refine ⟨_, rfl, _, _, rfl, rfl, ?_⟩
      exact q_bl (Q := Q) (decide_eq_decide.mpr ⟨fun z => ⟨c, z⟩, fun z => z.2⟩) q
    · have c : ¬ 0 ≤ n := fun z => c (decide_eq_true z)
      exact q_bl (Q := Q) (decide_eq_false (fun z => c z.1)).symm q

def spHB : Sp := fun vs H Q _ => ∃ b r x : Int, vs = [.int b, .int r, .int x] ∧ Q (.int (b + r - x)) H
theorem scHB : FnScope ["before", "rain", "pumped"] ["before", "rain", "pumped"] (defScope sHB) := ⟨rfl, rfl, rfl, by decide +kernel, rfl, by decide +kernel, by decide +kernel⟩
theorem ok_hb {f : Addr} {fd : FuncData} (F : Fun K "height_behind" "height_behind" sHB f fd) : FnOk P w K mg base CX0 1 f fd ["before", "rain", "pumped"] spHB := by
  refine F.ok scHB (fun vs H Q E h => ?_) (fun cdv A outer s H vs Q E hr h => ?_)
  · obtain ⟨n, m, x, rfl, _⟩ := h
    rfl
  · obtain ⟨n, m, x, rfl, q⟩ := h
    refine ⟨_, pss_one (ps_ret (pe_op op_sub (pe_op op_add (pv 0) (pv 1)) (pv 2))), ?_⟩
    exact ⟨_, rfl, _, rfl, _, _, rfl, rfl, _, rfl, _, _, rfl, rfl, q⟩

def spMay (C : Addr) : Sp := fun vs H Q _ => ∃ (a ra ca : Addr) (p : Si97.Polder) (h : Int), vs = [.ref a, .int h] ∧ PolAt C H a ra ca p ∧ Q (.bl (decide ((p.low : Int) ≤ h ∧ h ≤ p.high))) H
theorem scMay : FnScope ["polder", "height"] ["polder", "height"] (defScope sMay) := ⟨rfl, rfl, rfl, by decide +kernel, rfl, by decide +kernel, by decide +kernel⟩
theorem ok_may {f : Addr} {fd : FuncData} (F : Fun K "may_stand" "may_stand" sMay f fd) (T : Txt K mg C) : FnOk P w K mg base CX0 1 f fd ["polder", "height"] (spMay C) := by
  refine F.ok scMay (fun vs H Q E h => ?_) (fun cdv A outer s H vs Q E hr h => ?_)
  · obtain ⟨_, _, _, _, _, rfl, _⟩ := h
    rfl
  · obtain ⟨a, ra, ca, p, h, rfl, ⟨⟨dx, ha⟩, _, _, _⟩, q⟩ := h
    refine ⟨_, pss_one (ps_ret (pe_chain op_le op_le (pe_fld (pv 0) rfl) (pv 1) (pe_fld (pv 0) rfl))), ?_⟩
    refine ⟨_, rfl, a, C, dx, _, _, rfl, ha, T.cl, T.nL, lkL, _, rfl, _, _, rfl, rfl, _, rfl, ite2 (fun c => ?_) (fun c => ?_)⟩
    · have c := of_decide_eq_true c
      refine ⟨_, rfl, a, C, dx, _, _, rfl, ha, T.cl, T.nH, lkH, _, _, rfl, rfl, ?_⟩
      exact q_bl (Q := Q) (decide_eq_decide.mpr ⟨fun z => ⟨c, z⟩, fun z => z.2⟩) q
    · have c : ¬ (p.low : Int) ≤ h := fun z => c (decide_eq_true z)
      exact q_bl (Q := Q) (decide_eq_false (fun z => c z.1)).symm q

def spMany (C : Addr) : Sp := fun vs H Q _ => ∃ (a ra ca : Addr) (p : Si97.Polder), vs = [.ref a] ∧ PolAt C H a ra ca p ∧ Q (.int (p.hours.length : Nat)) H
theorem scMany : FnScope ["self"] ["self"] (defScope sMany) := ⟨rfl, rfl, rfl, by decide +kernel, rfl, by decide +kernel, by decide +kernel⟩
theorem ok_many {f : Addr} {fd : FuncData} (F : Fun K "many_hours" "Polder.many_hours" sMany f fd) (T : Txt K mg C) : FnOk P w K mg base CX0 1 f fd ["self"] (spMany C) := by
  refine F.ok scMany (fun vs H Q E h => ?_) (fun cdv A outer s H vs Q E hr h => ?_)
  · obtain ⟨_, _, _, _, rfl, _⟩ := h
    rfl
  · obtain ⟨a, ra, ca, p, rfl, ⟨⟨dx, ha⟩, hr, _, _⟩, q⟩ := h
    refine ⟨_, pss_one (ps_ret (pe_callB call_len_seq (by rfl) T.len PySem.boot_len (pa_cons (pe_fld (pv 0) rfl) pa_nil))), ?_⟩
    refine ⟨_, rfl, a, C, dx, _, _, rfl, ha, T.cl, T.nR, lkR, ra, _, rfl, .inl (SqL.of hr), ?_⟩
    exact q_int (Q := Q) (by rw [rainsV, List.length_map]) q

def spHsB : Sp := fun vs H Q _ => ∃ l g r c : Int, vs = [.int l, .int g, .int r, .int c] ∧ ∀ t, H t = none → Q (.ref t) (upd H t (.tup [.int (l + r - c), .int (g + r)]))
theorem scHsB : FnScope ["least", "greatest", "rain", "pumps"] ["least", "greatest", "rain", "pumps"] (defScope sHsB) := ⟨rfl, rfl, rfl, by decide +kernel, rfl, by decide +kernel, by decide +kernel⟩
theorem ok_hsb {f : Addr} {fd : FuncData} (F : Fun K "heights_behind" "heights_behind" sHsB f fd) : FnOk P w K mg base CX0 1 f fd ["least", "greatest", "rain", "pumps"] spHsB := by
  refine F.ok scHsB (fun vs H Q E h => ?_) (fun cdv A outer s H vs Q E hr h => ?_)
  · obtain ⟨_, _, _, _, rfl, _⟩ := h
    rfl
  · obtain ⟨l, g, r, c, rfl, q⟩ := h
    refine ⟨_, pss_one (ps_ret (pe_tup (pa_cons (pe_op op_sub (pe_op op_add (pv 0) (pv 2)) (pv 3)) (pa_cons (pe_op op_add (pv 1) (pv 2)) pa_nil)))), ?_⟩
    exact ⟨_, rfl, _, rfl, _, _, rfl, rfl, _, rfl, _, _, rfl, rfl, _, rfl, _, rfl, _, _, rfl, rfl, by show 2 ≤ sizeLine; decide, q⟩

def spWrong (C : Addr) : Sp := fun vs H Q _ => ∃ (a ra ca : Addr) (p : Si97.Polder) (h : Int) (x : Nat), vs = [.ref a, .int h, .int x] ∧ PolAt C H a ra ca p ∧ Q (.int (wrongI p h x)) H
theorem scWrong : FnScope ["polder", "height", "pumped"] ["polder", "height", "pumped"] (defScope sWrong) := ⟨rfl, rfl, rfl, by decide +kernel, rfl, by decide +kernel, by decide +kernel⟩
theorem ok_wrong {f : Addr} {fd : FuncData} (F : Fun K "wrong_in" "wrong_in" sWrong f fd) (T : Txt K mg C) : FnOk P w K mg base CX0 1 f fd ["polder", "height", "pumped"] (spWrong C) := by
  refine F.ok scWrong (fun vs H Q E h => ?_) (fun cdv A outer s H vs Q E hr h => ?_)
  · obtain ⟨_, _, _, _, _, _, rfl, _⟩ := h
    rfl
  · obtain ⟨a, ra, ca, p, h, x, rfl, ⟨⟨dx, ha⟩, _, _, _⟩, q⟩ := h
    refine ⟨_, pss_cons (ps_if (pt_cmpR op_gt (pv 2) (pe_fld (pv 0) rfl) (nomark _)) (pss_one (ps_ret (pe_k rfl T.tooStrong))) pss_nil)
      (pss_cons (ps_if (pt_cmpR op_lt (pv 1) (pe_fld (pv 0) rfl) (nomark _)) (pss_one (ps_ret (pe_k rfl T.tooLow))) pss_nil)
      (pss_cons (ps_if (pt_cmpR op_gt (pv 1) (pe_fld (pv 0) rfl) (nomark _)) (pss_one (ps_ret (pe_k rfl T.tooHigh))) pss_nil)
      (pss_one (ps_ret (pe_k rfl T.nothing))))), ?_⟩
    unfold wrongI at q
    refine ⟨_, rfl, _, rfl, a, C, dx, _, _, rfl, ha, T.cl, T.nP, lkP, _, _, rfl, rfl, _, rfl, ite2 (fun c => ?_) (fun c => ?_)⟩
    · rw [if_pos (of_decide_eq_true c)] at q
      exact q
    · rw [if_neg (fun z => c (decide_eq_true z))] at q
      refine ⟨_, rfl, _, rfl, a, C, dx, _, _, rfl, ha, T.cl, T.nL, lkL, _, _, rfl, rfl, _, rfl, ite2 (fun c => ?_) (fun c => ?_)⟩
      · rw [if_pos (of_decide_eq_true c)] at q
        exact q
      · rw [if_neg (fun z => c (decide_eq_true z))] at q
        refine ⟨_, rfl, _, rfl, a, C, dx, _, _, rfl, ha, T.cl, T.nH, lkH, _, _, rfl, rfl, _, rfl, ite2 (fun c => ?_) (fun c => ?_)⟩
        · rw [if_pos (of_decide_eq_true c)] at q
          exact q
        · rw [if_neg (fun z => c (decide_eq_true z))] at q
          exact q
end
end PP

namespace PP
open PySem PySem.Spec PyProof.Rows L2
theorem putF_len {f : Str} {v : V} {n : Nat} : ∀ {fs : List (Str × V)}, fs.length ≤ n → (putF f v fs).length ≤ n + 1
  | [], _ => by
    show 0 + 1 ≤ n + 1
    omega
  | (g, x) :: r, h => by
    unfold putF
    split
    · exact Nat.le_succ_of_le h
    · cases n with
      | zero => cases h
      | succ n => exact Nat.succ_le_succ (putF_len (Nat.le_of_succ_le_succ h))
theorem small_of {n m : Nat} (h : n ≤ m) (d : m < 1000) : n < 1000 := Nat.lt_of_le_of_lt h d
section
variable {P : Program} {w : World} {K : PySem.W.Frag} {mg : Str → Option Value} {base : Heap} {C : Addr}
def spInit (C : Addr) : Sp := fun vs H Q _ => ∃ (x dx : Addr), vs = [.ref x] ∧ H x = some (.ins C dx []) ∧
  ∀ (H' : Hp) (ra ca : Addr), PolAt C H' x ra ca Si97.init → (∀ b o, H b = some o → b ≠ x → H' b = some o) → H ra = none → H ca = none → Q .non H'
theorem scInit : FnScope ["self"] ["self"] (defScope sInit) := ⟨rfl, rfl, rfl, by decide +kernel, rfl, by decide +kernel, by decide +kernel⟩
theorem ok_init {f : Addr} {fd : FuncData} (F : Fun K "__init__" "Polder.__init__" sInit f fd) (T : Txt K mg C) : FnOk P w K mg base CX0 1 f fd ["self"] (spInit C) := by
  refine F.ok scInit (fun vs H Q E h => ?_) (fun cdv A outer s H vs Q E hr h => ?_)
  · obtain ⟨_, _, rfl, _⟩ := h
    rfl
  · obtain ⟨x, dx, rfl, hx, q⟩ := h
    refine ⟨_, pss_cons (ps_fld (pv 0) pe_int rfl) (pss_cons (ps_fld (pv 0) pe_int rfl) (pss_cons (ps_fld (pv 0) pe_int rfl) (pss_cons (ps_fld (pv 0) pe_int rfl)
      (pss_cons (ps_fld (pv 0) (pe_lst pa_nil) rfl) (pss_one (ps_fld (pv 0) (pe_lst pa_nil) rfl)))))), ?_⟩
    refine ⟨_, rfl, x, C, dx, _, rfl, hx, T.cl, T.nS, (by show 0 < 1000; decide), ?_⟩
    refine ⟨_, rfl, x, C, dx, _, rfl, upd_same, T.cl, T.nL, small_of (putF_len (Nat.le_refl 0)) (by decide), ?_⟩
    refine ⟨_, rfl, x, C, dx, _, rfl, upd_same, T.cl, T.nH, small_of (putF_len (putF_len (Nat.le_refl 0))) (by decide), ?_⟩
    refine ⟨_, rfl, x, C, dx, _, rfl, upd_same, T.cl, T.nP, small_of (putF_len (putF_len (putF_len (Nat.le_refl 0)))) (by decide), ?_⟩
    refine ⟨Nat.zero_le _, fun ra nra => ?_⟩
    have x1 : x ≠ ra := ne_of_none upd_same nra
    refine ⟨_, rfl, x, C, dx, _, rfl, (upd_ne x1).trans upd_same, T.cl, T.nR, small_of (putF_len (putF_len (putF_len (putF_len (Nat.le_refl 0))))) (by decide), ?_⟩
    refine ⟨Nat.zero_le _, fun ca nca => ?_⟩
    have x2 : x ≠ ca := ne_of_none upd_same nca
    have x3 : ra ≠ ca := ne_of_none ((upd_ne x1.symm).trans upd_same) nca
    refine ⟨_, rfl, x, C, dx, _, rfl, (upd_ne x2).trans upd_same, T.cl, T.nC, small_of (putF_len (putF_len (putF_len (putF_len (putF_len (Nat.le_refl 0)))))) (by decide), ?_⟩
    refine q _ ra ca ⟨⟨dx, Eq.trans upd_same (congrArg (fun q => some (HO.ins C dx q)) putNew)⟩, ?_, ?_, x3⟩ (fun b o e hb => ?_) ?_ ?_
    · rw [upd_ne x1.symm, upd_ne x3, upd_ne x1.symm, upd_same]
      rfl
    · rw [upd_ne x2.symm, upd_same]
      rfl
    · have b1 : b ≠ ra := ne_of_none (o := o) (by rw [upd_ne hb, upd_ne hb, upd_ne hb, upd_ne hb]; exact e) nra
      have b2 : b ≠ ca := ne_of_none (o := o) (by rw [upd_ne hb, upd_ne b1, upd_ne hb, upd_ne hb, upd_ne hb, upd_ne hb]; exact e) nca
      rw [upd_ne hb, upd_ne b2, upd_ne hb, upd_ne b1, upd_ne hb, upd_ne hb, upd_ne hb, upd_ne hb]
      exact e
    · rw [upd_ne x1.symm, upd_ne x1.symm, upd_ne x1.symm, upd_ne x1.symm] at nra
      exact nra
    · rw [upd_ne x2.symm, upd_ne x3.symm, upd_ne x2.symm, upd_ne x2.symm, upd_ne x2.symm, upd_ne x2.symm] at nca
      exact nca

def spBegin (C : Addr) : Sp := fun vs H Q _ => ∃ (a ra ca : Addr) (p : Si97.Polder) (s l h c : Nat), vs = [.ref a, .int s, .int l, .int h, .int c] ∧ PolAt C H a ra ca p ∧
  ∀ (H' : Hp) (ra' ca' : Addr), PolAt C H' a ra' ca' ⟨s, l, h, c, []⟩ → (∀ b o, H b = some o → b ≠ a → H' b = some o) → H ra' = none → H ca' = none → Q .non H'
theorem scBegin : FnScope ["self", "stands", "low", "high", "pumps"] ["self", "stands", "low", "high", "pumps"] (defScope sBegin) := ⟨rfl, rfl, rfl, by decide +kernel, rfl, by decide +kernel, by decide +kernel⟩
theorem ok_begin {f : Addr} {fd : FuncData} (F : Fun K "begin_anew" "Polder.begin_anew" sBegin f fd) (T : Txt K mg C) : FnOk P w K mg base CX0 1 f fd ["self", "stands", "low", "high", "pumps"] (spBegin C) := by
  refine F.ok scBegin (fun vs H Q E h => ?_) (fun cdv A outer s H vs Q E hr h => ?_)
  · obtain ⟨_, _, _, _, _, _, _, _, rfl, _⟩ := h
    rfl
  · obtain ⟨x, ra0, ca0, p, st, lo, hi, pu, rfl, ⟨⟨dx, hx⟩, _, _, _⟩, q⟩ := h
    refine ⟨_, pss_cons (ps_fld (pv 0) (pv 1) rfl) (pss_cons (ps_fld (pv 0) (pv 2) rfl) (pss_cons (ps_fld (pv 0) (pv 3) rfl) (pss_cons (ps_fld (pv 0) (pv 4) rfl)
      (pss_cons (ps_fld (pv 0) (pe_lst pa_nil) rfl) (pss_one (ps_fld (pv 0) (pe_lst pa_nil) rfl)))))), ?_⟩
    have l6 : (polF p ra0 ca0).length ≤ 6 := Nat.le_refl 6
    refine ⟨_, rfl, _, rfl, x, C, dx, _, rfl, hx, T.cl, T.nS, small_of l6 (by decide), ?_⟩
    refine ⟨_, rfl, _, rfl, x, C, dx, _, rfl, upd_same, T.cl, T.nL, small_of (putF_len l6) (by decide), ?_⟩
    refine ⟨_, rfl, _, rfl, x, C, dx, _, rfl, upd_same, T.cl, T.nH, small_of (putF_len (putF_len l6)) (by decide), ?_⟩
    refine ⟨_, rfl, _, rfl, x, C, dx, _, rfl, upd_same, T.cl, T.nP, small_of (putF_len (putF_len (putF_len l6))) (by decide), ?_⟩
    refine ⟨Nat.zero_le _, fun ra nra => ?_⟩
    have x1 : x ≠ ra := ne_of_none upd_same nra
    refine ⟨_, rfl, x, C, dx, _, rfl, (upd_ne x1).trans upd_same, T.cl, T.nR, small_of (putF_len (putF_len (putF_len (putF_len l6)))) (by decide), ?_⟩
    refine ⟨Nat.zero_le _, fun ca nca => ?_⟩
    have x2 : x ≠ ca := ne_of_none upd_same nca
    have x3 : ra ≠ ca := ne_of_none ((upd_ne x1.symm).trans upd_same) nca
    refine ⟨_, rfl, x, C, dx, _, rfl, (upd_ne x2).trans upd_same, T.cl, T.nC, small_of (putF_len (putF_len (putF_len (putF_len (putF_len l6))))) (by decide), ?_⟩
    have ef : putF "costs" (.ref ca) (putF "rains" (.ref ra) (putF "pumps" (.int pu) (putF "high" (.int hi) (putF "low" (.int lo) (putF "stands" (.int st) (polF p ra0 ca0)))))) = mkF st lo hi pu ra ca := by
      unfold polF
      rw [putS, putL, putH, putP, putR, putC]
    refine q _ ra ca ⟨⟨dx, Eq.trans upd_same (congrArg (fun q => some (HO.ins C dx q)) ef)⟩, ?_, ?_, x3⟩ (fun b o e hb => ?_) ?_ ?_
    · rw [upd_ne x1.symm, upd_ne x3, upd_ne x1.symm, upd_same]
      rfl
    · rw [upd_ne x2.symm, upd_same]
      rfl
    · have b1 : b ≠ ra := ne_of_none (o := o) (by rw [upd_ne hb, upd_ne hb, upd_ne hb, upd_ne hb]; exact e) nra
      have b2 : b ≠ ca := ne_of_none (o := o) (by rw [upd_ne hb, upd_ne b1, upd_ne hb, upd_ne hb, upd_ne hb, upd_ne hb]; exact e) nca
      rw [upd_ne hb, upd_ne b2, upd_ne hb, upd_ne b1, upd_ne hb, upd_ne hb, upd_ne hb, upd_ne hb]
      exact e
    · rw [upd_ne x1.symm, upd_ne x1.symm, upd_ne x1.symm, upd_ne x1.symm] at nra
      exact nra
    · rw [upd_ne x2.symm, upd_ne x3.symm, upd_ne x2.symm, upd_ne x2.symm, upd_ne x2.symm, upd_ne x2.symm] at nca
      exact nca

def spPut (C : Addr) : Sp := fun vs H Q _ => ∃ (a ra ca : Addr) (p : Si97.Polder) (r c : Nat), vs = [.ref a, .int r, .int c] ∧ PolAt C H a ra ca p ∧ p.hours.length ≤ 1000 ∧
  ∀ (H' : Hp), PolAt C H' a ra ca { p with hours := p.hours ++ [⟨r, c⟩] } → (∀ b o, H b = some o → b ≠ ra → b ≠ ca → H' b = some o) → Q .non H'
theorem scPut : FnScope ["self", "rain", "cost"] ["self", "rain", "cost"] (defScope sPut) := ⟨rfl, rfl, rfl, by decide +kernel, rfl, by decide +kernel, by decide +kernel⟩
theorem ok_put {f : Addr} {fd : FuncData} (F : Fun K "put_hour" "Polder.put_hour" sPut f fd) (T : Txt K mg C) : FnOk P w K mg base CX0 1 f fd ["self", "rain", "cost"] (spPut C) := by
  refine F.ok scPut (fun vs H Q E h => ?_) (fun cdv A outer s H vs Q E hr h => ?_)
  · obtain ⟨_, _, _, _, _, _, rfl, _⟩ := h
    rfl
  · obtain ⟨x, ra, ca, p, r, c, rfl, ⟨⟨dx, hx⟩, h1, h2, h3⟩, hl, q⟩ := h
    refine ⟨_, pss_cons (ps_expr (pe_bm PySem.F.plainAttrs_list PySem.F.slot_list_append PySem.F.type_list_append mt_append (pe_fld (pv 0) rfl) (pa_cons (pv 1) pa_nil)))
      (pss_one (ps_expr (pe_bm PySem.F.plainAttrs_list PySem.F.slot_list_append PySem.F.type_list_append mt_append (pe_fld (pv 0) rfl) (pa_cons (pv 2) pa_nil)))), ?_⟩
    have a1 : x ≠ ra := ne_of hx h1 (by intro z; cases z)
    have a2 : x ≠ ca := ne_of hx h2 (by intro z; cases z)
    refine ⟨_, rfl, x, C, dx, _, _, rfl, hx, T.cl, T.nR, lkR, .inl ⟨rfl, _, SqL.of h1⟩, _, rfl, ra, _, _, rfl, rfl, h1, ?_, ?_⟩
    · rw [rainsV, List.length_map]
      exact small1000 hl
    · refine ⟨_, rfl, x, C, dx, _, _, rfl, (upd_ne a1).trans hx, T.cl, T.nC, lkC, .inl ⟨rfl, _, SqL.of ((upd_ne h3.symm).trans h2)⟩, _, rfl, ca, _, _, rfl, rfl, (upd_ne h3.symm).trans h2, ?_, ?_⟩
      · rw [costsV, List.length_map]
        exact small1000 hl
      · refine q _ ⟨⟨dx, (upd_ne a2).trans ((upd_ne a1).trans hx)⟩, ?_, ?_, h3⟩ fun b o e b1 b2 => ?_
        · rw [upd_ne h3, upd_same]
          show _ = some (HO.lst (rainsV (p.hours ++ [⟨r, c⟩])))
          unfold rainsV
          rw [List.map_append]
          rfl
        · rw [upd_same]
          show _ = some (HO.lst (costsV (p.hours ++ [⟨r, c⟩])))
          unfold costsV
          rw [List.map_append]
          rfl
        · rw [upd_ne b2, upd_ne b1]
          exact e
end
end PP

namespace PP
open PySem PySem.Spec PyProof.Rows L2
/-- the tuples stand as they stood -/
def SameT (H H' : Hp) : Prop := ∀ b xs, H b = some (.tup xs) → H' b = some (.tup xs)
theorem SameT.of {H H' : Hp} (s : Same H H') : SameT H H' := fun b _ e => s b _ e
theorem SameT.trans {H H1 H2 : Hp} (a : SameT H H1) (b : SameT H1 H2) : SameT H H2 := fun c xs h => b c xs (a c xs h)
theorem SameT.updL {H : Hp} {D : Addr} {vs : List V} {o : HO} (h : H D = some (.lst vs)) : SameT H (upd H D o) := fun b xs e => by
  rw [upd_ne (ne_of e h (by intro z; cases z))]
  exact e
theorem TriAt.sameT {H H' : Hp} {v : V} {t : Tri} (s : SameT H H') (h : TriAt H v t) : TriAt H' v t := by
  obtain ⟨q, e, h⟩ := h
  exact ⟨q, e, s _ _ h⟩
theorem CellAt.sameT {H H' : Hp} {v : V} {c : Cell} (s : SameT H H') (h : CellAt H v c) : CellAt H' v c := by
  cases c with
  | none => exact h
  | some t => exact TriAt.sameT s h
/-- a new object, then a store at an address that was new before -/
theorem same_at {H H' : Hp} {D : Addr} {o : HO} (s : Same H H') (n : H D = none) : Same H (upd H' D o) := fun b x e => by
  rw [upd_ne (ne_of_none e n)]
  exact s _ _ e
section
variable {P : Program} {w : World} {K : PySem.W.Frag} {mg : Str → Option Value} {base : Heap} {C : Addr}
def spRowB : Sp := fun vs H Q _ => vs = [] ∧ ∀ (q : Addr) (H' : Hp), Same H H' → RowAt H' q (List.replicate 61 (some (0, 1, 0))) → Q (.ref q) H'
theorem scRowB : FnScope ["height"] [] (defScope sRowB) := ⟨rfl, rfl, rfl, by decide +kernel, rfl, by decide +kernel, by decide +kernel⟩
theorem ok_rowb {f : Addr} {fd : FuncData} (F : Fun K "row_behind" "row_behind" sRowB f fd) (T : Txt K mg C) : FnOk P w K mg base CX0 1 f fd [] spRowB := by
  refine F.ok scRowB (fun vs H Q E h => ?_) (fun cdv A outer s H vs Q E hr h => ?_)
  · obtain ⟨rfl, _⟩ := h
    rfl
  · obtain ⟨rfl, q⟩ := h
    refine ⟨_, pss_one (ps_ret (pe_lc (own := [("height", 0)]) (g := gName 0) (tt := tYes) rfl scRowB.nd (pi_range1 (by rfl) T.range (pa_cons (pe_op op_add (pe_k rfl T.mostHeight) pe_int) pa_nil))
      (blkOk_by (own := [("height", 0)]) (N := ["height"]) (sc := defScope sRowB) (by decide +kernel)) (fun _ _ _ _ _ => pg_name (i := 0) scRowB.nd rfl (Or.inl rfl)) (fun _ _ _ _ _ => pts_nil)
      (fun _ _ _ _ _ => pe_tup (pa_cons pe_int (pa_cons pe_int (pa_cons pe_int pa_nil)))))), ?_⟩
    refine ⟨_, _, rfl, rfl, _, rfl, by decide, by decide, fun D nD => ?_⟩
    refine lc_range (lo := 0) (n := 61) (fun i H' => Same H H' ∧ ∃ vs, H' D = some (.lst vs) ∧ Al (CellAt H') vs (List.replicate i (some (0, 1, 0)))) ⟨same_at (Same.refl H) nD, [], upd_same, trivial⟩ (fun i H' hi hp => ?_) (fun H' hp => ?_)
    · obtain ⟨sm, vs, hD, ha⟩ := hp
      refine ⟨rfl, by show 3 ≤ sizeLine; decide, fun t nt => ?_⟩
      have Dt : D ≠ t := ne_of_none hD nt
      have hD2 : (upd H' t (.tup [.int 0, .int 1, .int 0])) D = some (.lst vs) := (upd_ne Dt).trans hD
      refine ⟨vs, hD2, ?_, same_at (sm.trans (same_upd nt)) nD, _, upd_same, ?_⟩
      · rw [ha.len, List.length_replicate]
        exact small1000 (by omega)
      · have sT : SameT H' (upd (upd H' t (.tup [.int 0, .int 1, .int 0])) D (.lst (vs ++ [.ref t]))) := (SameT.of (same_upd nt)).trans (SameT.updL hD2)
        rw [List.replicate_succ']
        exact Al.app ⟨t, rfl, (upd_ne Dt.symm).trans upd_same⟩ (ha.mono fun _ _ => CellAt.sameT sT)
    · obtain ⟨sm, vs, hD, ha⟩ := hp
      exact q D H' sm ⟨vs, hD, ha⟩

def spChoice (C : Addr) : Sp := fun vs H Q _ => ∃ (a ra ca r : Addr) (p : Si97.Polder) (i wa x : Nat) (h : Si97.Hour) (hs : List Si97.Hour), vs = [.ref a, .int i, .int wa, .int x, .ref r] ∧ PolAt C H a ra ca p ∧ Wf p ∧ p.hours[i]? = some h ∧ x ≤ p.pumps ∧
  RowAt H r (rowOf p hs) ∧ ∀ (v : V) (H' : Hp), Same H H' → CellAt H' v (cellB (cand p (bestFrom p hs) h wa x)) → Q v H'
abbrev nChoice : List Str := ["polder", "hour", "before", "pumped", "later", "height", "cost", "many", "ahead"]
theorem scChoice : FnScope nChoice ["polder", "hour", "before", "pumped", "later"] (defScope sChoice) := ⟨rfl, rfl, rfl, by decide +kernel, rfl, by decide +kernel, by decide +kernel⟩
theorem rains_at {hs : List Si97.Hour} {i : Nat} {h : Si97.Hour} (e : hs[i]? = some h) : (rainsV hs)[i]? = some (.int h.rain) := by
  rw [rainsV, List.getElem?_map, e]
  rfl
theorem costs_at {hs : List Si97.Hour} {i : Nat} {h : Si97.Hour} (e : hs[i]? = some h) : (costsV hs)[i]? = some (.int h.cost) := by
  rw [costsV, List.getElem?_map, e]
  rfl
theorem ok_choice {f : Addr} {fd : FuncData} (F : Fun K "choice" "choice" sChoice f fd) (T : Txt K mg C) (dH : Is P w K mg base 1 "height_behind" ["before", "rain", "pumped"] spHB) (dM : Is P w K mg base 1 "may_stand" ["polder", "height"] (spMay C)) :
    FnOk P w K mg base CX0 2 f fd ["polder", "hour", "before", "pumped", "later"] (spChoice C) := by
  refine F.ok scChoice (fun vs H Q E h => ?_) (fun cdv A outer s H vs Q E hr h => ?_)
  · obtain ⟨_, _, _, _, _, _, _, _, _, _, rfl, _⟩ := h
    rfl
  · obtain ⟨a, ra, ca, r, p, i, wa, x, h, hs, rfl, hP, wf, hh, hx, hR, q⟩ := h
    refine ⟨_, pss_cons (ps_set (i := 5) scChoice.nd rfl (.inl rfl) (pe_is dH hr rfl (pa_cons (pv 2) (pa_cons (pe_ix ix_list (pe_fld (pv 0) rfl) (pv 1) (fun _ _ => rfl)) (pa_cons (pv 3) pa_nil)))))
      (pss_cons (ps_if (PW.pt (pw_or (pt_not (pt_val (pe_is dM hr rfl (pa_cons (pv 0) (pa_cons (pv 5) pa_nil))))) (pw_or1 (pt_cmpR op_isN (pe_ix ix_list (pv 4) (pv 5) (fun _ _ => rfl)) pe_non (nomark _))))) (pss_one (ps_ret pe_non)) pss_nil)
      (pss_cons (ps_asg (pe_ix ix_list (pv 4) (pv 5) (fun _ _ => rfl)) (pg_tup rfl (pgs_cons (pg_name (i := 6) scChoice.nd rfl (.inl rfl)) (pgs_cons (pg_name (i := 7) scChoice.nd rfl (.inl rfl)) (pgs_cons (pg_name (i := 8) scChoice.nd rfl (.inl rfl)) pgs_nil)))))
      (pss_one (ps_ret (pe_tup (pa_cons (pe_op op_add (pe_op op_mul (pe_ix ix_list (pe_fld (pv 0) rfl) (pv 1) (fun _ _ => rfl)) (pv 3)) (pv 6)) (pa_cons (pv 7) (pa_cons (pv 3) pa_nil)))))))), ?_⟩
    obtain ⟨⟨dx, ha⟩, hrs, hcs, hne⟩ := id hP
    have wfh := wf.2.2.2.2.2 h (List.mem_of_getElem? hh)
    -- height = height_behind(before, polder.rains[hour], pumped)
    refine ⟨_, rfl, _, rfl, a, C, dx, _, _, rfl, ha, T.cl, T.nR, lkR, _, rfl, ra, _, _, _, rfl, rfl, SqL.of hrs, atI_nat (rains_at hh), _, rfl, _, _, _, rfl, ?_⟩
    -- not may_stand(..)
    refine ⟨_, rfl, _, rfl, a, ra, ca, p, _, rfl, hP, _, rfl, ?_⟩
    by_cases c : (p.low : Int) ≤ (wa : Int) + h.rain - x ∧ (wa : Int) + h.rain - x ≤ p.high
    · rw [decide_eq_true c]
      refine iteF ?_
      have c' : p.low + x ≤ wa + h.rain ∧ wa + h.rain ≤ p.high + x := by omega
      have eh : (wa : Int) + h.rain - x = ((wa + h.rain - x : Nat) : Int) := by omega
      have hlt : wa + h.rain - x < 61 := by
        have := wf.2.2.1
        omega
      obtain ⟨vs, hr1, hr2⟩ := id hR
      obtain ⟨v, hv, hc⟩ := hr2.get (row_get p hs hlt)
      have hat : atI vs ((wa : Int) + h.rain - x) = some v := at_of eh hv
      rw [cand_in hx c'] at q
      -- later[height] is None
      refine ⟨_, rfl, _, rfl, r, _, _, _, rfl, rfl, SqL.of hr1, hat, rfl, _, rfl, ?_⟩
      cases e : cellB (bestFrom p hs (wa + h.rain - x)) with
      | none =>
        rw [e] at hc q
        have hc : v = .non := hc
        rw [hc, decide_eq_true rfl]
        refine iteT ?_
        exact q .non H (Same.refl H) rfl
      | some t =>
        rw [e] at hc q
        obtain ⟨u, rfl, hu⟩ := hc
        refine iteF ?_
        -- cost, many, ahead = later[height]
        refine ⟨_, rfl, _, rfl, r, _, _, _, rfl, rfl, SqL.of hr1, hat, u, triV t, rfl, SqT.of hu, rfl, _, _, rfl, _, _, rfl, _, _, rfl, rfl, ?_⟩
        -- return ..
        refine ⟨_, rfl, a, C, dx, _, _, rfl, ha, T.cl, T.nC, lkC, _, rfl, ca, _, _, _, rfl, rfl, SqL.of hcs, atI_nat (costs_at hh), _, rfl, _, _, rfl, rfl, .inl ⟨by omega, by omega⟩, _, rfl, _, _, rfl, rfl, _, rfl, _, rfl, by show 3 ≤ sizeLine; decide, fun n nn => ?_⟩
        exact q (.ref n) _ (same_upd nn) ⟨n, rfl, upd_same⟩
    · rw [decide_eq_false c]
      refine iteT (iteT ?_)
      have c' : ¬ (p.low + x ≤ wa + h.rain ∧ wa + h.rain ≤ p.high + x) := by omega
      rw [cand_out c'] at q
      exact q .non H (Same.refl H) rfl

def spChoices (C : Addr) : Sp := fun vs H Q _ => ∃ (a ra ca r : Addr) (p : Si97.Polder) (i wa : Nat) (h : Si97.Hour) (hs : List Si97.Hour), vs = [.ref a, .int i, .int wa, .ref r] ∧ PolAt C H a ra ca p ∧ Wf p ∧ p.hours[i]? = some h ∧
  RowAt H r (rowOf p hs) ∧ ∀ (l : Addr) (H' : Hp), Same H H' → TrisAt H' l (chosen p hs h wa) → Q (.ref l) H'
abbrev nChoices : List Str := ["polder", "hour", "before", "later", "found", "pumped", "one"]
theorem scChoices : FnScope nChoices ["polder", "hour", "before", "later"] (defScope sChoices) := ⟨rfl, rfl, rfl, by decide +kernel, rfl, by decide +kernel, by decide +kernel⟩
theorem filterMap_len {α β : Type} (f : α → Option β) (l : List α) : (l.filterMap f).length ≤ l.length := List.length_filterMap_le f l
theorem ok_choices {f : Addr} {fd : FuncData} (F : Fun K "choices" "choices" sChoices f fd) (T : Txt K mg C) (dC : Is P w K mg base 2 "choice" ["polder", "hour", "before", "pumped", "later"] (spChoice C)) :
    FnOk P w K mg base CX0 3 f fd ["polder", "hour", "before", "later"] (spChoices C) := by
  refine F.ok scChoices (fun vs H Q E h => ?_) (fun cdv A outer s H vs Q E hr h => ?_)
  · obtain ⟨_, _, _, _, _, _, _, _, _, rfl, _⟩ := h
    rfl
  · obtain ⟨a, ra, ca, r, p, i, wa, h, hs, rfl, hP, wf, hh, hR, q⟩ := h
    refine ⟨_, pss_cons (ps_set (i := 4) scChoices.nd rfl (.inl rfl) (pe_lst pa_nil))
      (pss_cons (ps_for PassesOwn.never rfl (pi_range1 (by rfl) T.range (pa_cons (pe_op op_add (pe_fld (pv 0) rfl) pe_int) pa_nil)) (pg_name (i := 5) scChoices.nd rfl (.inl rfl))
        (pss_cons (ps_set (i := 6) scChoices.nd rfl (.inl rfl) (pe_is dC hr rfl (pa_cons (pv 0) (pa_cons (pv 1) (pa_cons (pv 2) (pa_cons (pv 5) (pa_cons (pv 3) pa_nil)))))))
        (pss_one (ps_if (pt_cmpR op_notN (pv 6) pe_non (nomark _)) (pss_one (ps_expr (pe_bm PySem.F.plainAttrs_list PySem.F.slot_list_append PySem.F.type_list_append mt_append (pv 4) (pa_cons (pv 6) pa_nil)))) pss_nil))))
      (pss_one (ps_ret (pv 4)))), ?_⟩
    obtain ⟨⟨dx, ha⟩, hrs, hcs, hne⟩ := id hP
    have wfp := wf.2.2.2.1
    refine ⟨Nat.zero_le _, fun o no => ?_⟩
    have s0 : Same H (upd H o (.lst [])) := same_upd no
    refine ⟨_, rfl, a, C, dx, _, _, rfl, s0 _ _ ha, T.cl, T.nP, lkP, _, _, rfl, rfl, _, rfl, by omega, by omega, ?_⟩
    refine for_range (lo := 0) (n := p.pumps + 1) (fun k σ H' => ∃ y5 y6, σ = [some (.ref a), some (.int i), some (.int wa), some (.ref r), some (.ref o), y5, y6] ∧ Same H H' ∧ TrisAt H' o ((List.range k).filterMap fun x => cellB (cand p (bestFrom p hs) h wa x)))
      ⟨none, none, rfl, s0, [], upd_same, trivial⟩ (fun k σ H' hk hp => ?_) (fun σ H' hp => ?_)
    · obtain ⟨y5, y6, rfl, sm, vs, ho, hal⟩ := hp
      refine ⟨_, rfl, _, rfl, _, rfl, _, rfl, _, rfl, a, ra, ca, r, p, i, wa, k, h, hs, ?_, hP.same sm, wf, hh, by omega, hR.same sm, fun v H2 s2 hv => ?_⟩
      · rw [Int.zero_add]
        rfl
      have er : (List.range (k + 1)).filterMap (fun x => cellB (cand p (bestFrom p hs) h wa x)) = (List.range k).filterMap (fun x => cellB (cand p (bestFrom p hs) h wa x)) ++ (cellB (cand p (bestFrom p hs) h wa k)).toList := by
        rw [List.range_succ, List.filterMap_append]
        cases e : cellB (cand p (bestFrom p hs) h wa k) <;> simp [e]
      refine ⟨_, rfl, rfl, _, rfl, ?_⟩
      cases e : cellB (cand p (bestFrom p hs) h wa k) with
      | none =>
        rw [e] at hv er
        have hv : v = .non := hv
        subst hv
        refine iteF ⟨_, _, rfl, sm.trans s2, ?_⟩
        rw [er]
        exact ⟨vs, s2 _ _ ho, by simpa using hal.mono fun _ _ => TriAt.same s2⟩
      | some t =>
        rw [e] at hv er
        obtain ⟨u, rfl, hu⟩ := hv
        refine iteT ?_
        have ho2 := s2 _ _ ho
        refine ⟨_, rfl, .inl ⟨rfl, _, SqL.of ho2⟩, _, rfl, o, _, _, rfl, rfl, ho2, ?_, _, _, rfl, same_at (sm.trans s2) no, ?_⟩
        · rw [hal.len]
          refine small1000 (Nat.le_trans (filterMap_len _ _) ?_)
          rw [List.length_range]
          omega
        · rw [er]
          exact ⟨_, upd_same, Al.app (TriAt.sameT (SameT.updL ho2) ⟨u, rfl, hu⟩) (hal.mono fun _ _ z => TriAt.sameT (SameT.updL ho2) (TriAt.same s2 z))⟩
    · obtain ⟨y5, y6, rfl, sm, hT⟩ := hp
      exact ⟨_, rfl, q o H' sm hT⟩
end
end PP

namespace PP
open PySem PySem.Spec PyProof.Rows L2
/-! ### a list of triples as data -/
def triD (t : Tri) : PyData := .tuple [.int t.1, .int t.2.1, .int t.2.2]
theorem dp_tri {K : PySem.W.Frag} {H : Hp} {v : V} {t : Tri} (h : TriAt H v t) : Dp K H v (triD t) := by
  obtain ⟨q, rfl, h⟩ := h
  exact .tup (SqT.of h) (.cons (.int _) (.cons (.int _) (.cons (.int _) .nil)))
theorem dp_all {K : PySem.W.Frag} {H : Hp} : ∀ {vs : List V} {l : List Tri}, Al (TriAt H) vs l → DpAll K H vs (l.map triD)
  | [], [], _ => .nil
  | [], _ :: _, z => z.elim
  | _ :: _, [], z => z.elim
  | _ :: _, _ :: _, z => .cons (dp_tri z.1) (dp_all z.2)
theorem lay_all : ∀ l : List Tri, PyData.canLayAll0 (l.map triD) = true
  | [] => by simp [PyData.canLayAll0]
  | t :: l => by
    rw [List.map_cons]
    simp [PyData.canLayAll0, PyData.canLay0, triD, lay_all l]
theorem depth_all : ∀ l : List Tri, PyData.depthAll (l.map triD) ≤ 1
  | [] => by simp [PyData.depthAll]
  | t :: l => by
    rw [List.map_cons]
    have := depth_all l
    simp only [PyData.depthAll, PyData.depth, triD]
    omega
theorem shaped_all (l : List Tri) : SeqAt.shaped (.list (l.map triD)) = true := by
  unfold SeqAt.shaped
  rw [Bool.and_eq_true]
  refine ⟨?_, decide_eq_true ?_⟩
  · simp only [PyData.canLay0]
    exact lay_all l
  · have := depth_all l
    simp only [PyData.depth]
    omega
theorem eqv_nil_yes : PyData.eqv (.list (([] : List Tri).map triD)) (.list []) = true := by simp [PyData.eqv, PyData.eqvAll]
theorem eqv_nil_no (t : Tri) (l : List Tri) : PyData.eqv (.list ((t :: l).map triD)) (.list []) = false := by simp [PyData.eqv, PyData.eqvAll]
theorem shaped_nil : SeqAt.shaped (.list []) = true := shaped_all []
theorem sum_cast : ∀ l : List Tri, (l.map fun t => ((t.2.1 : Nat) : Int)).sum = (((l.map (·.2.1)).sum : Nat) : Int)
  | [] => rfl
  | t :: l => by
    rw [List.map_cons, List.sum_cons, sum_cast l, List.map_cons, List.sum_cons, Int.natCast_add]
theorem cheap_len (least : Nat) (l : List Tri) : (cheapOf least l).length ≤ l.length := List.length_filter_le _ _
section
variable {P : Program} {w : World} {K : PySem.W.Frag} {mg : Str → Option Value} {base : Heap} {C : Addr}
def spTog : Sp := fun vs H Q _ => ∃ (r : Addr) (l : List Tri), vs = [.ref r] ∧ TrisAt H r l ∧ l.length ≤ 900 ∧ ∀ (v : V) (H' : Hp), Same H H' → CellAt H' v (foldC l) → Q v H'
abbrev nTog : List Str := ["some", "least", "cheap", "cost", "many", "pumped", "one"]
theorem scTog : FnScope nTog ["some"] (defScope sTog) := ⟨rfl, rfl, rfl, by decide +kernel, rfl, by decide +kernel, by decide +kernel⟩
theorem ok_tog {f : Addr} {fd : FuncData} (F : Fun K "together" "together" sTog f fd) (T : Txt K mg C) : FnOk P w K mg base CX0 1 f fd ["some"] spTog := by
  refine F.ok scTog (fun vs H Q E h => ?_) (fun cdv A outer s H vs Q E hr h => ?_)
  · obtain ⟨_, _, rfl, _⟩ := h
    rfl
  · obtain ⟨r, l, rfl, ⟨vs, hr0, hal⟩, hlen, q⟩ := h
    refine ⟨_, pss_cons (ps_if (pt_cmpR (op_eqD hr.units) (pv 0) (pe_lst pa_nil) (nomark _)) (pss_one (ps_ret pe_non)) pss_nil)
      (pss_cons (ps_set (i := 1) scTog.nd rfl (.inr rfl) (pe_callB (cr_min rfl) (by rfl) T.min (by decide +kernel) (pa_cons
        (pe_lc (own := [("cost", 3), ("many", 4), ("pumped", 5)]) (g := gTup K 3 (gCons (gName 3) (gCons (gName 4) (gCons (gName 5) gNil)))) (tt := tYes) rfl scTog.nd (pi_list (pv 0))
          (blkOk_by (own := [("cost", 3), ("many", 4), ("pumped", 5)]) (N := nTog) (sc := defScope sTog) (by decide +kernel))
          (fun _ _ _ _ _ => pg_tup rfl (pgs_cons (pg_name (i := 3) scTog.nd rfl (.inl rfl)) (pgs_cons (pg_name (i := 4) scTog.nd rfl (.inl rfl)) (pgs_cons (pg_name (i := 5) scTog.nd rfl (.inl rfl)) pgs_nil))))
          (fun _ _ _ _ _ => pts_nil) (fun _ _ _ _ _ => pv 3)) pa_nil)))
      (pss_cons (ps_setLc (i := 2) (own := [("one", 6)]) (g := gName 6) (tt := tTest (tOp rEq (tOp (rIxT K) (tVar 6) (tC (.int 0))) (tVar 1))) (te := tVar 6) rfl scTog.nd rfl rfl (sw_true rfl rfl rfl (by decide +kernel)) (pi_list (pv 0))
          (blkOk_by (own := [("one", 6)]) (N := nTog) (sc := defScope sTog) (by decide +kernel))
          (fun _ _ _ _ _ => pg_name (i := 6) scTog.nd rfl (.inl rfl))
          (fun _ _ _ _ _ => pts_one (pt_cmpR op_eq (pe_ix ix_tup (pv 6) pe_int (fun _ _ => rfl)) (pv 1) (nomark _))) (fun _ _ _ _ _ => pv 6))
      (pss_one (ps_ret (pe_tup (pa_cons (pv 1) (pa_cons (pe_callB (cr_sum rfl) (by rfl) T.sum (by decide +kernel) (pa_cons
        (pe_lc (own := [("cost", 3), ("many", 4), ("pumped", 5)]) (g := gTup K 3 (gCons (gName 3) (gCons (gName 4) (gCons (gName 5) gNil)))) (tt := tYes) rfl scTog.nd (pi_list (pv 2))
          (blkOk_by (own := [("cost", 3), ("many", 4), ("pumped", 5)]) (N := nTog) (sc := defScope sTog) (by decide +kernel))
          (fun _ _ _ _ _ => pg_tup rfl (pgs_cons (pg_name (i := 3) scTog.nd rfl (.inl rfl)) (pgs_cons (pg_name (i := 4) scTog.nd rfl (.inl rfl)) (pgs_cons (pg_name (i := 5) scTog.nd rfl (.inl rfl)) pgs_nil))))
          (fun _ _ _ _ _ => pts_nil) (fun _ _ _ _ _ => pv 4)) pa_nil))
        (pa_cons (pe_ix ix_tup (pe_ix ix_list (pv 2) pe_int (fun _ _ => rfl)) pe_int (fun _ _ => rfl)) pa_nil)))))))), ?_⟩
    -- some == []
    refine ⟨_, rfl, Nat.zero_le _, fun e ne => ?_⟩
    have s1 : Same H (upd H e (.lst [])) := same_upd ne
    refine ⟨.list (l.map triD), .list [], .lst (SqL.of (s1 _ _ hr0)) (dp_all (hal.mono fun _ _ => TriAt.same s1)), .lst (SqL.of upd_same) .nil, shaped_all l, shaped_nil, _, rfl, ?_⟩
    generalize upd H e (.lst []) = H1 at s1
    cases hl : l with
    | nil =>
      rw [eqv_nil_yes]
      refine iteT ?_
      exact q .non H1 s1 (by rw [hl]; rfl)
    | cons t0 l0 =>
    rw [eqv_nil_no]
    refine iteF ?_
    have hlp : 0 < l.length := by
      rw [hl]
      exact Nat.succ_pos _
    -- least = min([..])
    refine ⟨_, rfl, r, rfl, ⟨vs, SqL.of (s1 _ _ hr0)⟩, fun D nD => ?_⟩
    refine lc_list (K := K) (a := r) (xs := vs) (fun i H' => Same H1 H' ∧ H' D = some (.lst ((l.take i).map fun t => V.int t.1))) ⟨same_upd nD, upd_same⟩ (fun i H' _ hp => SqL.of (hp.1 _ _ (s1 _ _ hr0))) (fun i x H' hi hp => ?_) (fun H2 hp => ?_)
    · obtain ⟨sm, hD⟩ := hp
      obtain ⟨t, ht, u, rfl, hu⟩ := hal.getL hi
      have hu' := sm _ _ (s1 _ _ hu)
      refine ⟨u, triV t, rfl, SqT.of hu', rfl, _, _, rfl, _, _, rfl, _, _, rfl, rfl, rfl, ?_⟩
      refine ⟨_, rfl, _, hD, ?_, same_at sm nD, ?_⟩
      · rw [List.length_map, List.length_take]
        exact small1000 (by omega)
      · rw [upd_same, take_more ht, List.map_append]
        rfl
    obtain ⟨s2, hD⟩ := hp
    rw [hal.len, List.take_length] at hD
    refine ⟨D, l.map (fun t => ((t.1 : Nat) : Int)), rfl, SqL.of ?_, ?_, fun m hm hle => ?_⟩
    · rw [hD, List.map_map]
      rfl
    · rw [List.length_map]
      exact hlp
    obtain ⟨tm, htm, em⟩ := List.mem_map.mp hm
    subst em
    have hle' : ∀ t ∈ l, tm.1 ≤ t.1 := fun t ht => by
      have := hle _ (List.mem_map.mpr ⟨t, ht, rfl⟩)
      omega
    obtain ⟨tf, hf1, hf2⟩ := foldC_least (l := l) (least := tm.1) ⟨tm, htm, rfl⟩ hle'
    rw [hf2] at q
    generalize hL : tm.1 = least at *
    have s12 := s1.trans s2
    -- cheap = [..]
    refine ⟨_, rfl, r, rfl, ⟨vs, SqL.of (s12 _ _ hr0)⟩, fun D2 nD2 => ?_⟩
    refine lc_list (K := K) (a := r) (xs := vs) (fun i H' => Same H2 H' ∧ TrisAt H' D2 (cheapOf least (l.take i))) ⟨same_upd nD2, [], upd_same, trivial⟩ (fun i H' _ hp => SqL.of (hp.1 _ _ (s12 _ _ hr0))) (fun i x H' hi hp => ?_) (fun H3 hp => ?_)
    · obtain ⟨sm, ws, hw, hwa⟩ := hp
      obtain ⟨t, ht, u, rfl, hu⟩ := hal.getL hi
      have hu' := sm _ _ (s12 _ _ hu)
      have ec : cheapOf least (l.take (i + 1)) = cheapOf least (l.take i) ++ cheapOf least [t] := by
        rw [take_more ht]
        exact List.filter_append _ _
      refine ⟨rfl, _, rfl, u, triV t, 0, _, rfl, rfl, SqT.of hu', atI_nat (j := 0) rfl, _, rfl, rfl, _, rfl, ?_⟩
      by_cases c : t.1 = least
      · rw [show decide (V.int ((t.1 : Nat) : Int) = V.int ((least : Nat) : Int)) = true by rw [c]; exact decide_eq_true rfl]
        refine iteT ⟨_, rfl, ws, hw, ?_, same_at sm nD2, ?_⟩
        · rw [hwa.len]
          refine small1000 (Nat.le_trans (cheap_len _ _) ?_)
          rw [List.length_take]
          omega
        · rw [ec, cheap_yes c]
          exact ⟨_, upd_same, Al.app (TriAt.sameT (SameT.updL hw) ⟨u, rfl, hu'⟩) (hwa.mono fun _ _ => TriAt.sameT (SameT.updL hw))⟩
      · rw [show decide (V.int ((t.1 : Nat) : Int) = V.int ((least : Nat) : Int)) = false from decide_eq_false fun z => c (by have := V.int.inj z; omega)]
        refine iteF ⟨sm, ws, hw, ?_⟩
        rw [ec, cheap_no c]
        simpa [cheapOf] using hwa
    obtain ⟨s3, ws, hw, hwa⟩ := hp
    rw [hal.len, List.take_length] at hwa
    -- return (least, sum([..]), cheap[0][2])
    refine ⟨_, rfl, _, rfl, D2, rfl, ⟨ws, SqL.of hw⟩, fun D3 nD3 => ?_⟩
    refine lc_list (K := K) (a := D2) (xs := ws) (fun i H' => Same H3 H' ∧ H' D3 = some (.lst (((cheapOf least l).take i).map fun t => V.int t.2.1))) ⟨same_upd nD3, upd_same⟩ (fun i H' _ hp => SqL.of (hp.1 _ _ hw)) (fun i x H' hi hp => ?_) (fun H4 hp => ?_)
    · obtain ⟨sm, hD3⟩ := hp
      obtain ⟨t, ht, u, rfl, hu⟩ := hwa.getL hi
      have hu' := sm _ _ hu
      refine ⟨u, triV t, rfl, SqT.of hu', rfl, _, _, rfl, _, _, rfl, _, _, rfl, rfl, rfl, ?_⟩
      refine ⟨_, rfl, _, hD3, ?_, same_at sm nD3, ?_⟩
      · have := cheap_len least l
        rw [List.length_map, List.length_take]
        exact small1000 (by omega)
      · rw [upd_same, take_more ht, List.map_append]
        rfl
    obtain ⟨s4, hD3⟩ := hp
    rw [hwa.len, List.take_length] at hD3
    obtain ⟨vf, hvf, uf, rfl, huf⟩ := hwa.get hf1
    refine ⟨D3, (cheapOf least l).map (fun t => ((t.2.1 : Nat) : Int)), rfl, SqL.of ?_, ?_⟩
    · rw [hD3, List.map_map]
      rfl
    rw [sum_cast]
    refine ⟨_, rfl, D2, ws, _, _, rfl, rfl, SqL.of (s4 _ _ hw), atI_nat (j := 0) hvf, uf, triV tf, _, _, rfl, rfl, SqT.of (s4 _ _ huf), atI_nat (j := 2) rfl, by show 3 ≤ sizeLine; decide, fun n nn => ?_⟩
    exact q (.ref n) _ ((s12.trans (s3.trans s4)).trans (same_upd nn)) ⟨n, rfl, upd_same⟩
end
end PP

namespace PP
open PySem PySem.Spec PyProof.Rows L2
def rowsOf (p : Si97.Polder) : List Si97.Hour → List (List Cell)
  | [] => [rowOf p []]
  | h :: hs => rowOf p (h :: hs) :: rowsOf p hs
theorem rows_get (p : Si97.Polder) : ∀ (hs : List Si97.Hour) (k : Nat), k ≤ hs.length → (rowsOf p hs)[k]? = some (rowOf p (hs.drop k))
  | [], 0, _ => rfl
  | [], _ + 1, h => by cases h
  | h :: hs, 0, _ => rfl
  | h :: hs, k + 1, hk => rows_get p hs k (Nat.le_of_succ_le_succ hk)
theorem rows_len (p : Si97.Polder) : ∀ hs : List Si97.Hour, (rowsOf p hs).length = hs.length + 1
  | [] => rfl
  | h :: hs => congrArg (· + 1) (rows_len p hs)
theorem drop_at {α : Type} {l : List α} {k : Nat} {x : α} (h : l[k]? = some x) : l.drop k = x :: l.drop (k + 1) := by
  obtain ⟨h1, h2⟩ := List.getElem?_eq_some_iff.mp h
  rw [List.drop_eq_getElem_cons h1, h2]
def natsV (l : List Nat) : List V := l.map fun (n : Nat) => V.int (n : Int)
theorem natsV_ints (l : List Nat) : (Si97.ints l).map V.int = natsV l := by
  unfold Si97.ints natsV
  rw [List.map_map]
  rfl
theorem best_len (p : Si97.Polder) : ∀ (hs : List Si97.Hour) (wa : Nat) (b : Si97.Best), bestFrom p hs wa = some b → b.row.length = hs.length
  | [], wa, b, e => by
    have eb : b = ⟨0, 1, []⟩ := (Option.some.inj e).symm
    rw [eb]
    rfl
  | h :: hs, wa, b, e => by
    obtain ⟨x, b', _, _, _, e2, e3⟩ := best_cons e
    rw [e3, List.length_cons, List.length_cons, best_len p hs _ b' e2]
section
variable {P : Program} {w : World} {K : PySem.W.Frag} {mg : Str → Option Value} {base : Heap} {C : Addr}
def spRowA (C : Addr) : Sp := fun vs H Q _ => ∃ (a ra ca r : Addr) (p : Si97.Polder) (i : Nat) (h : Si97.Hour) (hs : List Si97.Hour), vs = [.ref a, .int i, .ref r] ∧ PolAt C H a ra ca p ∧ Wf p ∧ p.hours[i]? = some h ∧
  RowAt H r (rowOf p hs) ∧ ∀ (q : Addr) (H' : Hp), Same H H' → RowAt H' q (rowOf p (h :: hs)) → Q (.ref q) H'
abbrev nRowA : List Str := ["polder", "hour", "later", "before"]
theorem scRowA : FnScope nRowA ["polder", "hour", "later"] (defScope sRowA) := ⟨rfl, rfl, rfl, by decide +kernel, rfl, by decide +kernel, by decide +kernel⟩
theorem chosen_len (p : Si97.Polder) (hs : List Si97.Hour) (h : Si97.Hour) (wa : Nat) : (chosen p hs h wa).length ≤ p.pumps + 1 := by
  refine Nat.le_trans (filterMap_len _ _) ?_
  rw [List.length_range]
  exact Nat.le_refl _
theorem ok_rowa {f : Addr} {fd : FuncData} (F : Fun K "row_ahead" "row_ahead" sRowA f fd) (T : Txt K mg C) (dC : Is P w K mg base 3 "choices" ["polder", "hour", "before", "later"] (spChoices C)) (dT : Is P w K mg base 1 "together" ["some"] spTog) :
    FnOk P w K mg base CX0 4 f fd ["polder", "hour", "later"] (spRowA C) := by
  refine F.ok scRowA (fun vs H Q E h => ?_) (fun cdv A outer s H vs Q E hr h => ?_)
  · obtain ⟨_, _, _, _, _, _, _, _, rfl, _⟩ := h
    rfl
  · obtain ⟨a, ra, ca, r, p, i, h, hs, rfl, hP, wf, hh, hR, q⟩ := h
    have hr1 : Room 1 _ := hr.mono (by decide)
    refine ⟨_, pss_one (ps_ret (pe_lc (own := [("before", 3)]) (g := gName 3) (tt := tYes) (te := tCall spTog [] E0 (tCons (tCall (spChoices C) [] E0 (tCons (tVar 0) (tCons (tVar 1) (tCons (tVar 3) (tCons (tVar 2) tNil))))) tNil)) rfl scRowA.nd (pi_range1 (by rfl) T.range (pa_cons (pe_op op_add (pe_k rfl T.mostHeight) pe_int) pa_nil))
      (blkOk_by (own := [("before", 3)]) (N := nRowA) (sc := defScope sRowA) (by decide +kernel)) (fun _ _ _ _ _ => pg_name (i := 3) scRowA.nd rfl (Or.inl rfl)) (fun _ _ _ _ _ => pts_nil)
      (fun _ _ _ _ _ => pe_is dT hr1 rfl (pa_cons (pe_is dC hr rfl (pa_cons (pv 0) (pa_cons (pv 1) (pa_cons (pv 3) (pa_cons (pv 2) pa_nil))))) pa_nil)))), ?_⟩
    refine ⟨_, _, rfl, rfl, _, rfl, by decide, by decide, fun D nD => ?_⟩
    have wfp := wf.2.2.2.1
    refine lc_range (lo := 0) (n := 61) (fun k H' => Same H H' ∧ ∃ vs, H' D = some (.lst vs) ∧ Al (CellAt H') vs ((rowOf p (h :: hs)).take k)) ⟨same_at (Same.refl H) nD, [], upd_same, trivial⟩ (fun k H' hk hp => ?_) (fun H' hp => ?_)
    · obtain ⟨sm, vs, hD, hal⟩ := hp
      refine ⟨rfl, _, rfl, _, rfl, _, rfl, _, rfl, a, ra, ca, r, p, i, k, h, hs, ?_, hP.same sm, wf, hh, hR.same sm, fun l H2 s2 hT => ?_⟩
      · rw [Int.zero_add]
        rfl
      refine ⟨l, chosen p hs h k, rfl, hT, ?_, fun v H3 s3 hv => ?_⟩
      · have := chosen_len p hs h k
        omega
      rw [chosen_fold] at hv
      have s23 := s2.trans s3
      have hD3 := s23 _ _ hD
      refine ⟨vs, hD3, ?_, same_at (sm.trans s23) nD, _, upd_same, ?_⟩
      · rw [hal.len, List.length_take]
        exact small1000 (by omega)
      · rw [take_more (row_get p (h :: hs) hk)]
        exact Al.app (CellAt.sameT (SameT.updL hD3) hv) (hal.mono fun _ _ z => CellAt.sameT (SameT.updL hD3) (CellAt.same s23 z))
    · obtain ⟨sm, vs, hD, hal⟩ := hp
      rw [List.take_of_length_le (by rw [row_len]; exact Nat.le_refl _)] at hal
      exact q D H' sm ⟨vs, hD, hal⟩

def spRows (C : Addr) : Sp := fun vs H Q _ => ∃ (a ra ca : Addr) (p : Si97.Polder), vs = [.ref a] ∧ PolAt C H a ra ca p ∧ Wf p ∧ ∀ (q : Addr) (H' : Hp), Same H H' → RowsAt H' q (rowsOf p p.hours) → Q (.ref q) H'
abbrev nRows : List Str := ["polder", "rows", "hour"]
theorem scRows : FnScope nRows ["polder"] (defScope sRows) := ⟨rfl, rfl, rfl, by decide +kernel, rfl, by decide +kernel, by decide +kernel⟩
theorem ok_rows {f : Addr} {fd : FuncData} (F : Fun K "rows_of" "rows_of" sRows f fd) (T : Txt K mg C) (dB : Is P w K mg base 1 "row_behind" [] spRowB) (dM : IsM P w K mg base C 1 "many_hours" ["self"] (spMany C)) (dA : Is P w K mg base 4 "row_ahead" ["polder", "hour", "later"] (spRowA C)) :
    FnOk P w K mg base CX0 5 f fd ["polder"] (spRows C) := by
  refine F.ok scRows (fun vs H Q E h => ?_) (fun cdv A outer s H vs Q E hr h => ?_)
  · obtain ⟨_, _, _, _, rfl, _⟩ := h
    rfl
  · obtain ⟨a, ra, ca, p, rfl, hP, wf, q⟩ := h
    have hr1 : Room 1 _ := hr.mono (by decide)
    refine ⟨_, pss_cons (ps_set (i := 1) scRows.nd rfl (.inl rfl) (pe_lst (pa_cons (pe_is0 dB hr1 rfl) pa_nil)))
      (pss_cons (ps_for PassesOwn.never rfl (pi_revR (by rfl) T.reversed (prg_1 (by rfl) T.range (pe_ism0 (pv 0) T.cl dM hr1))) (pg_name (i := 2) scRows.nd rfl (.inl rfl))
        (pss_one (ps_set (i := 1) scRows.nd rfl (.inl rfl) (pe_op op_cat (pe_lst (pa_cons (pe_is dA hr rfl (pa_cons (pv 0) (pa_cons (pv 2) (pa_cons (pe_ix ix_list (pv 1) pe_int (fun _ _ => rfl)) pa_nil)))) pa_nil)) (pv 1)))))
      (pss_one (ps_ret (pv 1)))), ?_⟩
    refine ⟨rfl, fun q0 H1 s1 h0 => ⟨by show 1 ≤ sizeLine; decide, fun l nl => ?_⟩⟩
    have s2 : Same H (upd H1 l (.lst [.ref q0])) := s1.trans (same_upd nl)
    obtain ⟨dx, ha⟩ := (hP.same s2).at_
    have hl8 := wf.2.2.2.2.1
    refine ⟨_, rfl, a, dx, _, rfl, ha, lkMany, a, ra, ca, p, rfl, hP.same s2, _, rfl, by decide, by decide, by omega, by omega, ?_⟩
    have en : (((p.hours.length : Nat) : Int) - 0).toNat = p.hours.length := by omega
    rw [en]
    refine for_rangeC (fun k σ H' => ∃ rr y2, σ = [some (.ref a), some (.ref rr), y2] ∧ Same H H' ∧ RowsAt H' rr (rowsOf p (p.hours.drop (p.hours.length - k))))
      ⟨l, none, rfl, s2, ?_⟩ (fun k σ H' hk hp => ?_) (fun σ H' hp => ?_)
    · rw [Nat.sub_zero, List.drop_length]
      refine ⟨_, upd_same, ⟨q0, rfl, ?_⟩, trivial⟩
      rw [row_nil]
      exact h0.same (same_upd nl)
    · obtain ⟨rr, y2, rfl, sm, vs, hrr, hal⟩ := hp
      obtain ⟨j, hj⟩ : ∃ j, p.hours.length - k = j + 1 := ⟨p.hours.length - k - 1, by omega⟩
      have hjl : j < p.hours.length := by omega
      have hh : p.hours[j]? = some p.hours[j] := List.getElem?_eq_getElem hjl
      rw [hj] at hal
      obtain ⟨v, hv, qv, rfl, hrow⟩ := hal.get (rows_get p (p.hours.drop (j + 1)) 0 (Nat.zero_le _))
      rw [List.drop_zero] at hrow
      refine ⟨_, rfl, _, rfl, _, rfl, rr, vs, _, _, rfl, rfl, SqL.of hrr, atI_nat (j := 0) hv, a, ra, ca, qv, p, j, _, _, ?_, hP.same sm, wf, hh, hrow, fun q2 H2 s3 hrow2 => ⟨by show 1 ≤ sizeLine; decide, fun l2 nl2 => ?_⟩⟩
      · refine congrArg (fun z => [V.ref a, V.int z, V.ref qv]) ?_
        omega
      have s4 : Same H2 (upd H2 l2 (.lst [.ref q2])) := same_upd nl2
      refine ⟨_, rfl, l2, rr, _, _, rfl, rfl, upd_same, s4 _ _ (s3 _ _ hrr), ?_, fun p3 n3 => ?_⟩
      · rw [hal.len, rows_len, List.length_drop]
        show 1 + (p.hours.length - (j + 1) + 1) ≤ 2 ^ 24
        omega
      have s5 : Same H' (upd (upd H2 l2 (.lst [.ref q2])) p3 (.lst ([.ref q2] ++ vs))) := (s3.trans s4).trans (same_upd n3)
      refine ⟨p3, _, rfl, sm.trans s5, ?_⟩
      rw [show p.hours.length - (k + 1) = j by omega, drop_at hh]
      refine ⟨_, upd_same, ⟨q2, rfl, hrow2.same (s4.trans (same_upd n3))⟩, hal.mono fun _ _ ⟨z, e, hz⟩ => ⟨z, e, hz.same s5⟩⟩
    · obtain ⟨rr, y2, rfl, sm, hrr⟩ := hp
      rw [Nat.sub_self, List.drop_zero] at hrr
      exact ⟨_, rfl, q rr H' sm hrr⟩

def spEarl (C : Addr) : Sp := fun vs H Q _ => ∃ (a ra ca r : Addr) (p : Si97.Polder) (b : Si97.Best), vs = [.ref a, .ref r] ∧ PolAt C H a ra ca p ∧ Wf p ∧ RowsAt H r (rowsOf p p.hours) ∧ bestFrom p p.hours p.stands = some b ∧ ∀ (q : Addr) (H' : Hp), Same H H' → H' q = some (.lst (natsV b.row)) → Q (.ref q) H'
abbrev nEarl : List Str := ["polder", "rows", "plan", "height", "hour", "pumped"]
theorem scEarl : FnScope nEarl ["polder", "rows"] (defScope sEarl) := ⟨rfl, rfl, rfl, by decide +kernel, rfl, by decide +kernel, by decide +kernel⟩
theorem ok_earl {f : Addr} {fd : FuncData} (F : Fun K "earliest" "earliest" sEarl f fd) (T : Txt K mg C) (dM : IsM P w K mg base C 1 "many_hours" ["self"] (spMany C)) (dH : Is P w K mg base 1 "height_behind" ["before", "rain", "pumped"] spHB) :
    FnOk P w K mg base CX0 2 f fd ["polder", "rows"] (spEarl C) := by
  refine F.ok scEarl (fun vs H Q E h => ?_) (fun cdv A outer s H vs Q E hr h => ?_)
  · obtain ⟨_, _, _, _, _, _, rfl, _⟩ := h
    rfl
  · obtain ⟨a, ra, ca, r, p, b, rfl, hP, wf, hR, hb, q⟩ := h
    refine ⟨_, pss_cons (ps_set (i := 2) scEarl.nd rfl (.inl rfl) (pe_lst pa_nil))
      (pss_cons (ps_set (i := 3) scEarl.nd rfl (.inl rfl) (pe_fld (pv 0) rfl))
      (pss_cons (ps_for PassesOwn.never rfl (pi_range1 (by rfl) T.range (pa_cons (pe_ism0 (pv 0) T.cl dM hr) pa_nil)) (pg_name (i := 4) scEarl.nd rfl (.inl rfl))
        (pss_cons (ps_set (i := 5) scEarl.nd rfl (.inl rfl) (pe_ix ix_tup (pe_ix ix_list (pe_ix ix_list (pv 1) (pv 4) (fun _ _ => rfl)) (pv 3) (fun _ _ => rfl)) pe_int (fun _ _ => rfl)))
        (pss_cons (ps_expr (pe_bm PySem.F.plainAttrs_list PySem.F.slot_list_append PySem.F.type_list_append mt_append (pv 2) (pa_cons (pv 5) pa_nil)))
        (pss_one (ps_set (i := 3) scEarl.nd rfl (.inl rfl) (pe_is dH hr rfl (pa_cons (pv 3) (pa_cons (pe_ix ix_list (pe_fld (pv 0) rfl) (pv 4) (fun _ _ => rfl)) (pa_cons (pv 5) pa_nil)))))))))
      (pss_one (ps_ret (pv 2))))), ?_⟩
    obtain ⟨dx, ha⟩ := hP.at_
    have hl8 := wf.2.2.2.2.1
    refine ⟨Nat.zero_le _, fun o no => ?_⟩
    have s0 : Same H (upd H o (.lst [])) := same_upd no
    refine ⟨_, rfl, a, C, dx, _, _, rfl, s0 _ _ ha, T.cl, T.nS, lkS, ?_⟩
    refine ⟨_, rfl, a, dx, _, rfl, s0 _ _ ha, lkMany, a, ra, ca, p, rfl, hP.same s0, _, rfl, by omega, by omega, ?_⟩
    refine for_range (lo := 0) (n := p.hours.length) (fun k σ H' => ∃ (hgt : Nat) (pre : List Nat) (b' : Si97.Best) (y4 y5 : Option V), σ = [some (.ref a), some (.ref r), some (.ref o), some (.int hgt), y4, y5] ∧ Same H H' ∧ hgt ≤ 60 ∧ bestFrom p (p.hours.drop k) hgt = some b' ∧
        pre ++ b'.row = b.row ∧ H' o = some (.lst (natsV pre)) ∧ pre.length = k)
      ⟨p.stands, [], b, none, none, rfl, s0, wf.1, hb, rfl, upd_same, rfl⟩ (fun k σ H' hk hp => ?_) (fun σ H' hp => ?_)
    · obtain ⟨hgt, pre, b', y4, y5, rfl, sm, h60, hbf, hpre, ho, hlen⟩ := hp
      have hh : p.hours[k]? = some p.hours[k] := List.getElem?_eq_getElem hk
      obtain ⟨vs, hr1, hr2⟩ := hR.same sm
      obtain ⟨v1, hv1, q1, rfl, ws, hw1, hw2⟩ := hr2.get (rows_get p p.hours k (by omega))
      obtain ⟨v2, hv2, hc2⟩ := hw2.get (row_get p (p.hours.drop k) (w := hgt) (by omega))
      rw [hbf] at hc2
      obtain ⟨u, rfl, hu⟩ := hc2
      rw [drop_at hh] at hbf
      obtain ⟨x, b2, c1, c2, c3, hb2, hrow⟩ := best_cons hbf
      have hx : triV (b'.cost, b'.many, b'.row.headD 0) = [.int b'.cost, .int b'.many, .int x] := by
        rw [hrow]
        rfl
      rw [hx] at hu
      have e0 : (0 : Int) + (k : Nat) = (k : Nat) := Int.zero_add _
      have hP' := hP.same sm
      refine ⟨_, rfl, _, rfl, r, vs, _, _, rfl, rfl, SqL.of hr1, at_of e0 hv1, _, rfl, q1, ws, _, _, rfl, rfl, SqL.of hw1, atI_nat hv2, u, _, _, _, rfl, rfl, SqT.of hu, atI_nat (j := 2) rfl, ?_⟩
      refine ⟨_, rfl, .inl ⟨rfl, _, SqL.of ho⟩, _, rfl, o, _, _, rfl, rfl, ho, ?_, ?_⟩
      · rw [natsV, List.length_map, hlen]
        exact small1000 (by omega)
      have s6 : Same H (upd H' o (.lst (natsV pre ++ [.int x]))) := same_at sm no
      have hP6 := hP.same s6
      obtain ⟨dx6, ha6⟩ := hP6.at_
      refine ⟨_, rfl, _, rfl, a, C, dx6, _, _, rfl, ha6, T.cl, T.nR, lkR, _, rfl, ra, _, _, _, rfl, rfl, SqL.of hP6.rs, at_of e0 (rains_at hh), _, rfl, _, _, _, rfl, ?_⟩
      have w3 := wf.2.2.1
      refine ⟨hgt + p.hours[k].rain - x, pre ++ [x], b2, some (.int (0 + (k : Nat))), some (.int x), ?_, s6, by omega, hb2, ?_, ?_, ?_⟩
      · have eh : (hgt : Int) + p.hours[k].rain - x = ((hgt + p.hours[k].rain - x : Nat) : Int) := by omega
        rw [eh]
        rfl
      · rw [List.append_assoc, ← hpre, hrow]
        rfl
      · rw [upd_same]
        unfold natsV
        rw [List.map_append]
        rfl
      · rw [List.length_append, hlen]
        rfl
    · obtain ⟨hgt, pre, b', y4, y5, rfl, sm, h60, hbf, hpre, ho, hlen⟩ := hp
      rw [List.drop_length] at hbf
      have eb : b' = ⟨0, 1, []⟩ := (Option.some.inj hbf).symm
      rw [eb, List.append_nil] at hpre
      rw [hpre] at ho
      exact ⟨_, rfl, q o H' sm ho⟩

/-- an answer: a list of its own -/
def Ansd (H : Hp) (Q : VK) (ans : List Int) : Prop := ∀ (q : Addr) (H' : Hp), Same H H' → H q = none → H' q = some (.lst (ans.map V.int)) → Q (.ref q) H'
def spBest (C : Addr) : Sp := fun vs H Q _ => ∃ (a ra ca : Addr) (p : Si97.Polder), vs = [.ref a] ∧ PolAt C H a ra ca p ∧ Wf p ∧ Ansd H Q (ansOf (Si97.step p .best).2)
abbrev nBest : List Str := ["polder", "rows", "first"]
theorem scBest : FnScope nBest ["polder"] (defScope sBest) := ⟨rfl, rfl, rfl, by decide +kernel, rfl, by decide +kernel, by decide +kernel⟩
theorem ok_best {f : Addr} {fd : FuncData} (F : Fun K "best_told" "best_told" sBest f fd) (T : Txt K mg C) (dR : Is P w K mg base 5 "rows_of" ["polder"] (spRows C)) (dE : Is P w K mg base 2 "earliest" ["polder", "rows"] (spEarl C)) :
    FnOk P w K mg base CX0 6 f fd ["polder"] (spBest C) := by
  refine F.ok scBest (fun vs H Q E h => ?_) (fun cdv A outer s H vs Q E hr h => ?_)
  · obtain ⟨_, _, _, _, rfl, _⟩ := h
    rfl
  · obtain ⟨a, ra, ca, p, rfl, hP, wf, q⟩ := h
    have hr2 : Room 2 _ := hr.mono (by decide)
    refine ⟨_, pss_cons (ps_set (i := 1) scBest.nd rfl (.inl rfl) (pe_is dR hr rfl (pa_cons (pv 0) pa_nil)))
      (pss_cons (ps_set (i := 2) scBest.nd rfl (.inl rfl) (pe_ix ix_list (pe_ix ix_list (pv 1) pe_int (fun _ _ => rfl)) (pe_fld (pv 0) rfl) (fun _ _ => rfl)))
      (pss_cons (ps_if (pt_cmpR op_isN (pv 2) pe_non (nomark _)) (pss_one (ps_ret (pe_lst (pa_cons (pe_k rfl T.cannot) pa_nil)))) pss_nil)
      (pss_one (ps_ret (pe_op op_cat (pe_lst (pa_cons (pe_ix ix_tup (pv 2) pe_int (fun _ _ => rfl)) (pa_cons (pe_ix ix_tup (pv 2) pe_int (fun _ _ => rfl)) pa_nil))) (pe_is dE hr2 rfl (pa_cons (pv 0) (pa_cons (pv 1) pa_nil)))))))), ?_⟩
    have es : ansOf (Si97.step p .best).2 = match p.best with
      | none => [-6]
      | some x => (x.cost : Int) :: Si97.ints (x.many :: x.row) := by
      show ansOf (match p.best with
        | none => Si97.ok (-6)
        | some x => ⟨((x.cost : Nat) : Int), Si97.ints (x.many :: x.row)⟩) = _
      cases p.best <;> rfl
    rw [es, best_eq] at q
    refine ⟨_, rfl, a, ra, ca, p, rfl, hP, wf, fun r H1 s1 hR => ?_⟩
    have hP1 := hP.same s1
    obtain ⟨dx, ha⟩ := hP1.at_
    obtain ⟨vs, hr1, hr2'⟩ := id hR
    obtain ⟨v1, hv1, q1, rfl, ws, hw1, hw2⟩ := hr2'.get (rows_get p p.hours 0 (Nat.zero_le _))
    rw [List.drop_zero] at hw2
    obtain ⟨v2, hv2, hc2⟩ := hw2.get (row_get p p.hours (w := p.stands) (by have := wf.1; omega))
    refine ⟨_, rfl, r, vs, _, _, rfl, rfl, SqL.of hr1, atI_nat (j := 0) hv1, _, rfl, a, C, dx, _, _, rfl, ha, T.cl, T.nS, lkS, q1, ws, _, _, rfl, rfl, SqL.of hw1, atI_nat hv2, ?_⟩
    refine ⟨_, rfl, rfl, _, rfl, ?_⟩
    cases e : bestFrom p p.hours p.stands with
    | none =>
      rw [e] at hc2 q
      have hc2 : v2 = .non := hc2
      subst hc2
      refine iteT ⟨by show 1 ≤ sizeLine; decide, fun l nl => ?_⟩
      exact q l _ (s1.trans (same_upd nl)) (s1.free nl) upd_same
    | some b =>
      rw [e] at hc2 q
      obtain ⟨u, rfl, hu⟩ := hc2
      refine iteF ?_
      refine ⟨_, rfl, u, _, _, _, rfl, rfl, SqT.of hu, atI_nat (j := 0) rfl, _, rfl, u, _, _, _, rfl, rfl, SqT.of hu, atI_nat (j := 1) rfl, by show 2 ≤ sizeLine; decide, fun l nl => ?_⟩
      have s2 := same_upd (o := .lst [.int b.cost, .int b.many]) nl
      refine ⟨_, rfl, _, rfl, a, ra, ca, r, p, b, rfl, hP1.same s2, wf, hR.same s2, e, fun q2 H3 s3 hq2 => ?_⟩
      refine ⟨l, q2, _, _, rfl, rfl, s3 _ _ upd_same, hq2, ?_, fun n nn => ?_⟩
      · rw [natsV, List.length_map, best_len p _ _ _ e]
        have := wf.2.2.2.2.1
        show 2 + p.hours.length ≤ 2 ^ 24
        omega
      · refine q n _ (((s1.trans s2).trans s3).trans (same_upd nn)) (((s1.trans s2).trans s3).free nn) ?_
        rw [upd_same]
        show some (HO.lst (V.int b.cost :: V.int b.many :: natsV b.row)) = some (HO.lst (V.int b.cost :: (Si97.ints (b.many :: b.row)).map V.int))
        rw [natsV_ints]
        rfl
end
end PP

namespace PP
open PySem PySem.Spec PyProof.Rows L2
theorem rains_inv {hs : List Si97.Hour} {i : Nat} {x : V} (e : (rainsV hs)[i]? = some x) : ∃ h, hs[i]? = some h ∧ x = .int h.rain := by
  rw [rainsV, List.getElem?_map] at e
  cases q : hs[i]? with
  | none =>
    rw [q] at e
    cases e
  | some h =>
    rw [q] at e
    exact ⟨h, rfl, (Option.some.inj e).symm⟩
theorem can_cons (low high pumps : Nat) (h : Si97.Hour) (hs : List Si97.Hour) (l g : Nat) : canBe low high pumps (h :: hs) l g = if min (g + h.rain) high < max (l + h.rain - pumps) low then false else canBe low high pumps hs (max (l + h.rain - pumps) low) (min (g + h.rain) high) := rfl
section
variable {P : Program} {w : World} {K : PySem.W.Frag} {mg : Str → Option Value} {base : Heap} {C : Addr}
def spCan (C : Addr) : Sp := fun vs H Q _ => ∃ (a ra ca : Addr) (p : Si97.Polder) (hi pu : Nat), vs = [.ref a, .int hi, .int pu] ∧ PolAt C H a ra ca p ∧ ∀ H', Same H H' → Q (.bl (canBe p.low hi pu p.hours p.stands p.stands)) H'
abbrev nCan : List Str := ["polder", "high", "pumps", "least", "greatest", "rain"]
theorem scCan : FnScope nCan ["polder", "high", "pumps"] (defScope sCan) := ⟨rfl, rfl, rfl, by decide +kernel, rfl, by decide +kernel, by decide +kernel⟩
theorem ok_can {f : Addr} {fd : FuncData} (F : Fun K "can_be" "can_be" sCan f fd) (T : Txt K mg C) (dH : Is P w K mg base 1 "heights_behind" ["least", "greatest", "rain", "pumps"] spHsB) :
    FnOk P w K mg base CX0 2 f fd ["polder", "high", "pumps"] (spCan C) := by
  refine F.ok scCan (fun vs H Q E h => ?_) (fun cdv A outer s H vs Q E hr h => ?_)
  · obtain ⟨_, _, _, _, _, _, rfl, _⟩ := h
    rfl
  · obtain ⟨a, ra, ca, p, hi, pu, rfl, hP, q⟩ := h
    refine ⟨_, pss_cons (ps_set (i := 3) scCan.nd rfl (.inl rfl) (pe_fld (pv 0) rfl))
      (pss_cons (ps_set (i := 4) scCan.nd rfl (.inl rfl) (pe_fld (pv 0) rfl))
      (pss_cons (ps_for PassesOwn.never rfl (pi_list (pe_fld (pv 0) rfl)) (pg_name (i := 5) scCan.nd rfl (.inl rfl))
        (pss_cons (ps_asg (pe_is dH hr rfl (pa_cons (pv 3) (pa_cons (pv 4) (pa_cons (pv 5) (pa_cons (pv 2) pa_nil))))) (pg_tup rfl (pgs_cons (pg_name (i := 3) scCan.nd rfl (.inl rfl)) (pgs_cons (pg_name (i := 4) scCan.nd rfl (.inl rfl)) pgs_nil))))
        (pss_cons (ps_set (i := 3) scCan.nd rfl (.inl rfl) (pe_callB (call_max2 rfl) (by rfl) T.max (by decide +kernel) (pa_cons (pv 3) (pa_cons (pe_fld (pv 0) rfl) pa_nil))))
        (pss_cons (ps_set (i := 4) scCan.nd rfl (.inl rfl) (pe_callB (call_min2 rfl) (by rfl) T.min (by decide +kernel) (pa_cons (pv 4) (pa_cons (pv 1) pa_nil))))
        (pss_one (ps_if (pt_cmpR op_gt (pv 3) (pv 4) (nomark _)) (pss_one (ps_ret pe_bl)) pss_nil))))))
      (pss_one (ps_ret pe_bl)))), ?_⟩
    obtain ⟨dx, ha⟩ := hP.at_
    refine ⟨_, rfl, a, C, dx, _, _, rfl, ha, T.cl, T.nS, lkS, ?_⟩
    refine ⟨_, rfl, a, C, dx, _, _, rfl, ha, T.cl, T.nS, lkS, ?_⟩
    refine ⟨_, rfl, a, C, dx, _, _, rfl, ha, T.cl, T.nR, lkR, ra, rfl, ⟨_, SqL.of hP.rs⟩, ?_⟩
    refine for_list (K := K) (a := ra) (xs := rainsV p.hours) (fun k σ H' => ∃ (l g : Nat) (y5 : Option V), σ = [some (.ref a), some (.int hi), some (.int pu), some (.int l), some (.int g), y5] ∧ Same H H' ∧
        canBe p.low hi pu (p.hours.drop k) l g = canBe p.low hi pu p.hours p.stands p.stands)
      ⟨p.stands, p.stands, none, rfl, Same.refl H, rfl⟩ (fun k σ H' _ ⟨_, _, _, _, sm, _⟩ => SqL.of (hP.same sm).rs) (fun k x σ H' hk hp => ?_) (fun σ H' hp => ?_)
    · obtain ⟨l, g, y5, rfl, sm, hc⟩ := hp
      obtain ⟨h, hh, rfl⟩ := rains_inv hk
      rw [drop_at hh, can_cons] at hc
      refine ⟨_, rfl, _, rfl, _, rfl, _, rfl, _, _, _, _, rfl, fun t nt => ?_⟩
      have sm2 := sm.trans (same_upd (o := .tup [.int ((l : Int) + h.rain - pu), .int ((g : Int) + h.rain)]) nt)
      obtain ⟨dx2, ha2⟩ := (hP.same sm2).at_
      refine ⟨t, _, rfl, SqT.of upd_same, rfl, _, _, rfl, _, _, rfl, rfl, ?_⟩
      refine ⟨_, rfl, _, rfl, a, C, dx2, _, _, rfl, ha2, T.cl, T.nL, lkL, _, _, rfl, ?_⟩
      refine ⟨_, rfl, _, rfl, _, _, rfl, ?_⟩
      have e1 : (if (p.low : Int) > (l : Int) + h.rain - pu then (p.low : Int) else (l : Int) + h.rain - pu) = ((max (l + h.rain - pu) p.low : Nat) : Int) := by
        split <;> omega
      have e2 : (if (hi : Int) < (g : Int) + h.rain then (hi : Int) else (g : Int) + h.rain) = ((min (g + h.rain) hi : Nat) : Int) := by
        split <;> omega
      rw [e1, e2]
      generalize hl : max (l + h.rain - pu) p.low = l2 at hc
      generalize hg : min (g + h.rain) hi = g2 at hc
      refine ⟨_, rfl, _, rfl, _, _, rfl, rfl, _, rfl, ?_⟩
      by_cases c : g2 < l2
      · rw [if_pos c] at hc
        rw [decide_eq_true (show ((g2 : Nat) : Int) < l2 by omega)]
        refine iteT ?_
        have := q _ sm2
        rw [← hc] at this
        exact this
      · rw [if_neg c] at hc
        rw [decide_eq_false (show ¬ ((g2 : Nat) : Int) < l2 by omega)]
        refine iteF ?_
        exact ⟨l2, g2, some (.int h.rain), rfl, sm2, hc⟩
    · obtain ⟨l, g, y5, rfl, sm, hc⟩ := hp
      rw [rainsV, List.length_map, List.drop_length] at hc
      have := q _ sm
      rw [← hc] at this
      exact this

def spNeed (C : Addr) : Sp := fun vs H Q _ => ∃ (a ra ca : Addr) (p : Si97.Polder), vs = [.ref a] ∧ PolAt C H a ra ca p ∧ Wf p ∧ Ansd H Q (ansOf (Si97.step p .needs).2)
abbrev nNeed : List Str := ["polder", "high"]
theorem scNeed : FnScope nNeed ["polder"] (defScope sNeed) := ⟨rfl, rfl, rfl, by decide +kernel, rfl, by decide +kernel, by decide +kernel⟩
theorem ok_need {f : Addr} {fd : FuncData} (F : Fun K "needed" "needed" sNeed f fd) (T : Txt K mg C) (dC : Is P w K mg base 2 "can_be" ["polder", "high", "pumps"] (spCan C)) :
    FnOk P w K mg base CX0 3 f fd ["polder"] (spNeed C) := by
  refine F.ok scNeed (fun vs H Q E h => ?_) (fun cdv A outer s H vs Q E hr h => ?_)
  · obtain ⟨_, _, _, _, rfl, _⟩ := h
    rfl
  · obtain ⟨a, ra, ca, p, rfl, hP, wf, q⟩ := h
    refine ⟨_, pss_cons (ps_for PassesOwn.never rfl (pi_range2 (by rfl) T.range (pa_cons (pe_fld (pv 0) rfl) (pa_cons (pe_op op_add (pe_k rfl T.mostHeight) pe_int) pa_nil))) (pg_name (i := 1) scNeed.nd rfl (.inl rfl))
        (pss_one (ps_if (pt_val (pe_is dC hr rfl (pa_cons (pv 0) (pa_cons (pv 1) (pa_cons (pe_fld (pv 0) rfl) pa_nil))))) (pss_one (ps_ret (pe_lst (pa_cons (pv 1) pa_nil)))) pss_nil)))
      (pss_one (ps_ret (pe_lst (pa_cons (pe_k rfl T.cannot) pa_nil)))), ?_⟩
    obtain ⟨dx, ha⟩ := hP.at_
    have w2 := wf.2.1
    have w3 := wf.2.2.1
    refine ⟨_, rfl, a, C, dx, _, _, rfl, ha, T.cl, T.nL, lkL, _, _, rfl, rfl, _, _, rfl, ⟨by omega, by omega, by decide, by decide⟩, ?_⟩
    have en : ((60 : Int) + 1 - p.low).toNat = 61 - p.low := by omega
    rw [en]
    refine for_range (lo := p.low) (n := 61 - p.low) (fun k σ H' => ∃ y, σ = [some (.ref a), y] ∧ Same H H' ∧ ∀ m, p.low ≤ m → m < p.low + k → canBe p.low m p.pumps p.hours p.stands p.stands = false)
      ⟨none, rfl, Same.refl H, fun m h1 h2 => by omega⟩ (fun k σ H' hk hp => ?_) (fun σ H' hp => ?_)
    · obtain ⟨y, rfl, sm, hall⟩ := hp
      obtain ⟨dx2, ha2⟩ := (hP.same sm).at_
      refine ⟨_, rfl, _, rfl, _, rfl, a, C, dx2, _, _, rfl, ha2, T.cl, T.nP, lkP, a, ra, ca, p, p.low + k, p.pumps, rfl, hP.same sm, fun H2 s2 => ⟨_, rfl, ?_⟩⟩
      cases c : canBe p.low (p.low + k) p.pumps p.hours p.stands p.stands with
      | true =>
        refine iteT ⟨_, rfl, by show 1 ≤ sizeLine; decide, fun l nl => ?_⟩
        have en : p.needs = some (p.low + k) := needs_some (by omega) (by omega) c (fun m h1 h2 => hall m h1 h2)
        have ea : ansOf (Si97.step p .needs).2 = [((p.low + k : Nat) : Int)] := by
          show ansOf (Si97.toldOf p.needs) = _
          rw [en]
          rfl
        rw [ea] at q
        exact q l _ ((sm.trans s2).trans (same_upd nl)) ((sm.trans s2).free nl) upd_same
      | false =>
        refine iteF ⟨_, rfl, sm.trans s2, fun m h1 h2 => ?_⟩
        by_cases c2 : m < p.low + k
        · exact hall m h1 c2
        · rw [show m = p.low + k by omega]
          exact c
    · obtain ⟨y, rfl, sm, hall⟩ := hp
      refine ⟨by show 1 ≤ sizeLine; decide, fun l nl => ?_⟩
      have en : p.needs = none := needs_none (fun m h1 h2 => hall m h1 (by omega))
      have ea : ansOf (Si97.step p .needs).2 = [-6] := by
        show ansOf (Si97.toldOf p.needs) = _
        rw [en]
        rfl
      rw [ea] at q
      exact q l _ (sm.trans (same_upd nl)) (sm.free nl) upd_same

def spStrong (C : Addr) : Sp := fun vs H Q _ => ∃ (a ra ca : Addr) (p : Si97.Polder), vs = [.ref a] ∧ PolAt C H a ra ca p ∧ Wf p ∧ Ansd H Q (ansOf (Si97.step p .strong).2)
abbrev nStrong : List Str := ["polder", "pumps"]
theorem scStrong : FnScope nStrong ["polder"] (defScope sStrong) := ⟨rfl, rfl, rfl, by decide +kernel, rfl, by decide +kernel, by decide +kernel⟩
theorem ok_strong {f : Addr} {fd : FuncData} (F : Fun K "strong_enough" "strong_enough" sStrong f fd) (T : Txt K mg C) (dC : Is P w K mg base 2 "can_be" ["polder", "high", "pumps"] (spCan C)) :
    FnOk P w K mg base CX0 3 f fd ["polder"] (spStrong C) := by
  refine F.ok scStrong (fun vs H Q E h => ?_) (fun cdv A outer s H vs Q E hr h => ?_)
  · obtain ⟨_, _, _, _, rfl, _⟩ := h
    rfl
  · obtain ⟨a, ra, ca, p, rfl, hP, wf, q⟩ := h
    refine ⟨_, pss_cons (ps_for PassesOwn.never rfl (pi_range1 (by rfl) T.range (pa_cons (pe_op op_add (pe_k rfl T.mostPumped) pe_int) pa_nil)) (pg_name (i := 1) scStrong.nd rfl (.inl rfl))
        (pss_one (ps_if (pt_val (pe_is dC hr rfl (pa_cons (pv 0) (pa_cons (pe_fld (pv 0) rfl) (pa_cons (pv 1) pa_nil))))) (pss_one (ps_ret (pe_lst (pa_cons (pv 1) pa_nil)))) pss_nil)))
      (pss_one (ps_ret (pe_lst (pa_cons (pe_k rfl T.cannot) pa_nil)))), ?_⟩
    refine ⟨_, _, rfl, rfl, _, rfl, by decide, by decide, ?_⟩
    refine for_range (lo := 0) (n := 13) (fun k σ H' => ∃ y, σ = [some (.ref a), y] ∧ Same H H' ∧ ∀ m, m < k → canBe p.low p.high m p.hours p.stands p.stands = false)
      ⟨none, rfl, Same.refl H, fun m h2 => by omega⟩ (fun k σ H' hk hp => ?_) (fun σ H' hp => ?_)
    · obtain ⟨y, rfl, sm, hall⟩ := hp
      obtain ⟨dx2, ha2⟩ := (hP.same sm).at_
      rw [Int.zero_add]
      refine ⟨_, rfl, _, rfl, a, C, dx2, _, _, rfl, ha2, T.cl, T.nH, lkH, _, rfl, a, ra, ca, p, p.high, k, rfl, hP.same sm, fun H2 s2 => ⟨_, rfl, ?_⟩⟩
      cases c : canBe p.low p.high k p.hours p.stands p.stands with
      | true =>
        refine iteT ⟨_, rfl, by show 1 ≤ sizeLine; decide, fun l nl => ?_⟩
        have en : p.strong = some k := strong_some (by omega) c (fun m h2 => hall m h2)
        have ea : ansOf (Si97.step p .strong).2 = [((k : Nat) : Int)] := by
          show ansOf (Si97.toldOf p.strong) = _
          rw [en]
          rfl
        rw [ea] at q
        exact q l _ ((sm.trans s2).trans (same_upd nl)) ((sm.trans s2).free nl) upd_same
      | false =>
        refine iteF ⟨_, rfl, sm.trans s2, fun m h2 => ?_⟩
        by_cases c2 : m < k
        · exact hall m c2
        · rw [show m = k by omega]
          exact c
    · obtain ⟨y, rfl, sm, hall⟩ := hp
      refine ⟨by show 1 ≤ sizeLine; decide, fun l nl => ?_⟩
      have en : p.strong = none := strong_none (fun m h2 => hall m (by omega))
      have ea : ansOf (Si97.step p .strong).2 = [-6] := by
        show ansOf (Si97.toldOf p.strong) = _
        rw [en]
        rfl
      rw [ea] at q
      exact q l _ (sm.trans (same_upd nl)) (sm.free nl) upd_same
end
end PP

namespace PP
open PySem PySem.Spec PyProof.Rows L2
theorem costs_inv {hs : List Si97.Hour} {i : Nat} {x : V} (e : (costsV hs)[i]? = some x) : ∃ h, hs[i]? = some h ∧ x = .int h.cost := by
  rw [costsV, List.getElem?_map] at e
  cases q : hs[i]? with
  | none =>
    rw [q] at e
    cases e
  | some h =>
    rw [q] at e
    exact ⟨h, rfl, (Option.some.inj e).symm⟩
theorem nats_inv {hs : List Nat} {i : Nat} {x : V} (e : (natsV hs)[i]? = some x) : ∃ h : Nat, hs[i]? = some h ∧ x = .int h := by
  rw [natsV, List.getElem?_map] at e
  cases q : hs[i]? with
  | none =>
    rw [q] at e
    cases e
  | some h =>
    rw [q] at e
    exact ⟨h, rfl, (Option.some.inj e).symm⟩
theorem ints_inv {hs : List Int} {i : Nat} {x : V} (e : (hs.map V.int)[i]? = some x) : ∃ h : Int, hs[i]? = some h ∧ x = .int h := by
  rw [List.getElem?_map] at e
  cases q : hs[i]? with
  | none =>
    rw [q] at e
    cases e
  | some h =>
    rw [q] at e
    exact ⟨h, rfl, (Option.some.inj e).symm⟩
theorem ints_at {hs : List Int} {i : Nat} {h : Int} (e : hs[i]? = some h) : (hs.map V.int)[i]? = some (.int h) := by
  rw [List.getElem?_map, e]
  rfl
theorem drop_cons {α : Type} {l r : List α} {k : Nat} {v : α} (h : l.drop k = v :: r) : l[k]? = some v ∧ l.drop (k + 1) = r := by
  have h1 : l[k]? = some v := by
    have := congrArg (·[0]?) h
    simpa using this
  refine ⟨h1, ?_⟩
  have := drop_at h1
  rw [h] at this
  exact (List.cons.inj this).2.symm
def costI (hs : List Si97.Hour) (xs : List Nat) : Nat := ((hs.zip xs).map fun x => x.1.cost * x.2).sum
theorem costI_more : ∀ {hs : List Si97.Hour} {xs : List Nat} {k : Nat} {h : Si97.Hour} {x : Nat}, hs[k]? = some h → xs[k]? = some x → costI (hs.take (k + 1)) (xs.take (k + 1)) = costI (hs.take k) (xs.take k) + h.cost * x
  | [], _, _, _, _, e, _ => by simp at e
  | _ :: _, [], _, _, _, _, e => by simp at e
  | g :: hs, y :: xs, 0, h, x, e, f => by
    have e : g = h := Option.some.inj e
    have f : y = x := Option.some.inj f
    subst e f
    simp [costI]
  | g :: hs, y :: xs, k + 1, h, x, e, f => by
    have ih := costI_more (hs := hs) (xs := xs) (k := k) (h := h) (x := x) e f
    show g.cost * y + costI (hs.take (k + 1)) (xs.take (k + 1)) = g.cost * y + costI (hs.take k) (xs.take k) + h.cost * x
    rw [ih]
    omega
section
variable {P : Program} {w : World} {K : PySem.W.Frag} {mg : Str → Option Value} {base : Heap} {C : Addr}
def spHof (K : PySem.W.Frag) (C : Addr) : Sp := fun vs H Q _ => ∃ (a ra ca b : Addr) (p : Si97.Polder) (xs : List Nat), vs = [.ref a, .ref b] ∧ PolAt C H a ra ca p ∧ Wf p ∧ SqL K H b (natsV xs) ∧ p.hours.length = xs.length ∧ Ansd H Q (heightsI p.stands p.hours xs)
abbrev nHof : List Str := ["polder", "plan", "heights", "height", "rain", "pumped"]
theorem scHof : FnScope nHof ["polder", "plan"] (defScope sHof) := ⟨rfl, rfl, rfl, by decide +kernel, rfl, by decide +kernel, by decide +kernel⟩
theorem ok_hof {f : Addr} {fd : FuncData} (F : Fun K "heights_of" "heights_of" sHof f fd) (T : Txt K mg C) (dH : Is P w K mg base 1 "height_behind" ["before", "rain", "pumped"] spHB) :
    FnOk P w K mg base CX0 2 f fd ["polder", "plan"] (spHof K C) := by
  refine F.ok scHof (fun vs H Q E h => ?_) (fun cdv A outer s H vs Q E hr h => ?_)
  · obtain ⟨_, _, _, _, _, _, rfl, _⟩ := h
    rfl
  · obtain ⟨a, ra, ca, b, p, xs, rfl, hP, wf, hS, hlen, q⟩ := h
    refine ⟨_, pss_cons (ps_set (i := 2) scHof.nd rfl (.inl rfl) (pe_lst pa_nil))
      (pss_cons (ps_set (i := 3) scHof.nd rfl (.inl rfl) (pe_fld (pv 0) rfl))
      (pss_cons (ps_for PassesOwn.never rfl (pi_zip (by rfl) T.zip (pa_cons (pe_fld (pv 0) rfl) (pa_cons (pv 1) pa_nil))) (pg_tup rfl (pgs_cons (pg_name (i := 4) scHof.nd rfl (.inl rfl)) (pgs_cons (pg_name (i := 5) scHof.nd rfl (.inl rfl)) pgs_nil)))
        (pss_cons (ps_set (i := 3) scHof.nd rfl (.inl rfl) (pe_is dH hr rfl (pa_cons (pv 3) (pa_cons (pv 4) (pa_cons (pv 5) pa_nil)))))
        (pss_one (ps_expr (pe_bm PySem.F.plainAttrs_list PySem.F.slot_list_append PySem.F.type_list_append mt_append (pv 2) (pa_cons (pv 3) pa_nil))))))
      (pss_one (ps_ret (pv 2))))), ?_⟩
    obtain ⟨dx, ha⟩ := hP.at_
    have hl8 := wf.2.2.2.2.1
    refine ⟨Nat.zero_le _, fun o no => ?_⟩
    have s0 : Same H (upd H o (.lst [])) := same_upd no
    refine ⟨_, rfl, a, C, dx, _, _, rfl, s0 _ _ ha, T.cl, T.nS, lkS, ?_⟩
    refine ⟨_, rfl, a, C, dx, _, _, rfl, s0 _ _ ha, T.cl, T.nR, lkR, _, rfl, ra, b, rainsV p.hours, natsV xs, rfl, SqL.of (s0 _ _ hP.rs), s0.seq hS, ?_⟩
    have hl2 : (rainsV p.hours).length = (natsV xs).length := by
      rw [rainsV, natsV, List.length_map, List.length_map, hlen]
    refine RZ.for_zipL (K := K) hl2 (fun k σ H' => ∃ (hgt : Int) (y4 y5 : Option V), σ = [some (.ref a), some (.ref b), some (.ref o), some (.int hgt), y4, y5] ∧ Same H H' ∧ H' o = some (.lst (((heightsI p.stands p.hours xs).take k).map V.int)) ∧
        heightsI hgt (p.hours.drop k) (xs.drop k) = (heightsI p.stands p.hours xs).drop k)
      ⟨p.stands, none, none, rfl, s0, upd_same, rfl⟩ (fun k σ H' ⟨_, _, _, _, sm, _⟩ => ⟨SqL.of (sm _ _ hP.rs), sm.seq hS⟩) (fun k x y t σ H' hx hy hp nt => ?_) (fun σ H' hp => ?_)
    · obtain ⟨hgt, y4, y5, rfl, sm, ho, hd⟩ := hp
      obtain ⟨h, hh, rfl⟩ := rains_inv hx
      obtain ⟨u, hu, rfl⟩ := nats_inv hy
      rw [drop_at hh, drop_at hu] at hd
      obtain ⟨hd1, hd2⟩ := drop_cons hd.symm
      have s1 : Same H' (upd H' t (.tup [.int h.rain, .int u])) := same_upd nt
      refine ⟨t, _, rfl, SqT.of upd_same, rfl, _, _, rfl, _, _, rfl, rfl, ?_⟩
      refine ⟨_, rfl, _, rfl, _, rfl, _, _, _, rfl, ?_⟩
      have ho1 := s1 _ _ ho
      refine ⟨_, rfl, .inl ⟨rfl, _, SqL.of ho1⟩, _, rfl, o, _, _, rfl, rfl, ho1, ?_, hgt + h.rain - u, some (.int h.rain), some (.int u), rfl, same_at (sm.trans s1) no, ?_, hd2.symm⟩
      · rw [List.length_map, List.length_take, heights_len _ _ _ hlen]
        exact small1000 (by omega)
      · rw [upd_same, take_more hd1, List.map_append]
        rfl
    · obtain ⟨hgt, y4, y5, rfl, sm, ho, hd⟩ := hp
      rw [List.take_of_length_le (by rw [heights_len _ _ _ hlen, hl2, natsV, List.length_map]; exact Nat.le_refl _)] at ho
      exact ⟨_, rfl, q o H' sm no ho⟩

def spWof (K : PySem.W.Frag) (C : Addr) : Sp := fun vs H Q _ => ∃ (a ra ca b : Addr) (p : Si97.Polder) (xs : List Nat), vs = [.ref a, .ref b] ∧ PolAt C H a ra ca p ∧ Wf p ∧ SqL K H b (natsV xs) ∧ p.hours.length = xs.length ∧ Ansd H Q (wrongsI p p.stands p.hours xs)
abbrev nWof : List Str := ["polder", "plan", "heights", "height", "pumped"]
theorem scWof : FnScope nWof ["polder", "plan"] (defScope sWof) := ⟨rfl, rfl, rfl, by decide +kernel, rfl, by decide +kernel, by decide +kernel⟩
theorem ok_wof {f : Addr} {fd : FuncData} (F : Fun K "wrongs_of" "wrongs_of" sWof f fd) (T : Txt K mg C) (dH : Is P w K mg base 2 "heights_of" ["polder", "plan"] (spHof K C)) (dW : Is P w K mg base 1 "wrong_in" ["polder", "height", "pumped"] (spWrong C)) :
    FnOk P w K mg base CX0 3 f fd ["polder", "plan"] (spWof K C) := by
  refine F.ok scWof (fun vs H Q E h => ?_) (fun cdv A outer s H vs Q E hr h => ?_)
  · obtain ⟨_, _, _, _, _, _, rfl, _⟩ := h
    rfl
  · obtain ⟨a, ra, ca, b, p, xs, rfl, hP, wf, hS, hlen, q⟩ := h
    have hr1 : Room 1 _ := hr.mono (by decide)
    refine ⟨_, pss_cons (ps_set (i := 2) scWof.nd rfl (.inl rfl) (pe_is dH hr rfl (pa_cons (pv 0) (pa_cons (pv 1) pa_nil))))
      (pss_one (ps_ret (pe_lc (own := [("height", 3), ("pumped", 4)]) (g := gTup K 2 (gCons (gName 3) (gCons (gName 4) gNil))) (tt := tYes) (te := tCall (spWrong C) [] E0 (tCons (tVar 0) (tCons (tVar 3) (tCons (tVar 4) tNil)))) rfl scWof.nd
        (pi_zip (by rfl) T.zip (pa_cons (pv 2) (pa_cons (pv 1) pa_nil)))
        (blkOk_by (own := [("height", 3), ("pumped", 4)]) (N := nWof) (sc := defScope sWof) (by decide +kernel))
        (fun _ _ _ _ _ => pg_tup rfl (pgs_cons (pg_name (i := 3) scWof.nd rfl (.inl rfl)) (pgs_cons (pg_name (i := 4) scWof.nd rfl (.inl rfl)) pgs_nil)))
        (fun _ _ _ _ _ => pts_nil) (fun _ _ _ _ _ => pe_is dW hr1 rfl (pa_cons (pv 0) (pa_cons (pv 3) (pa_cons (pv 4) pa_nil))))))), ?_⟩
    have hl8 := wf.2.2.2.2.1
    refine ⟨_, rfl, _, rfl, a, ra, ca, b, p, xs, rfl, hP, wf, hS, hlen, fun hq H1 s1 _ hh1 => ?_⟩
    refine ⟨_, rfl, _, rfl, hq, b, _, natsV xs, rfl, SqL.of hh1, s1.seq hS, fun D nD => ?_⟩
    have hl2 : xs.length = min ((heightsI p.stands p.hours xs).map V.int).length (natsV xs).length := by
      rw [natsV, List.length_map, List.length_map, heights_len _ _ _ hlen, Nat.min_self]
    have hwl : (wrongsI p p.stands p.hours xs).length = xs.length := by
      rw [wrongsI, List.length_map, List.length_zip, heights_len _ _ _ hlen, Nat.min_self]
    refine lc_it (walk_zip (K := K) (a := hq) (b := b) hl2) (fun k H' => Same H1 H' ∧ H' D = some (.lst (((wrongsI p p.stands p.hours xs).take k).map V.int))) ⟨same_upd nD, upd_same⟩ (fun k H' _ hp => ⟨SqL.of (hp.1 _ _ hh1), hp.1.seq (s1.seq hS)⟩) (fun k v H' H2 hk hp hy => ?_) (fun H' hp => ?_)
    · obtain ⟨sm, hD⟩ := hp
      obtain ⟨t, x, y, rfl, nt, rfl, hx, hy⟩ := hy
      obtain ⟨z, hz, rfl⟩ := ints_inv hx
      obtain ⟨u, hu, rfl⟩ := nats_inv hy
      have hw : (wrongsI p p.stands p.hours xs)[k]? = some (wrongI p z u) := by
        have ez : ((heightsI p.stands p.hours xs).zip xs)[k]? = some (z, u) := List.getElem?_zip_eq_some.mpr ⟨hz, hu⟩
        rw [wrongsI, List.getElem?_map, ez]
        rfl
      have s2 : Same H' (upd H' t (.tup [.int z, .int u])) := same_upd nt
      have hD2 := s2 _ _ hD
      refine ⟨t, _, rfl, SqT.of upd_same, rfl, _, _, rfl, _, _, rfl, rfl, rfl, ?_⟩
      refine ⟨_, rfl, _, rfl, _, rfl, a, ra, ca, p, z, u, rfl, (hP.same s1).same (sm.trans s2), _, hD2, ?_, same_at (sm.trans s2) nD, ?_⟩
      · rw [List.length_map, List.length_take]
        exact small1000 (by omega)
      · rw [upd_same, take_more hw, List.map_append]
        rfl
    · obtain ⟨sm, hD⟩ := hp
      rw [List.take_of_length_le (by rw [hwl]; exact Nat.le_refl _)] at hD
      exact q D H' (s1.trans sm) (s1.free nD) hD

def spCof (K : PySem.W.Frag) (C : Addr) : Sp := fun vs H Q _ => ∃ (a ra ca b : Addr) (p : Si97.Polder) (xs : List Nat), vs = [.ref a, .ref b] ∧ PolAt C H a ra ca p ∧ Wf p ∧ SqL K H b (natsV xs) ∧ p.hours.length = xs.length ∧ ∀ H', Same H H' → Q (.int (p.cost xs : Nat)) H'
abbrev nCof : List Str := ["polder", "plan", "total", "cost", "pumped"]
theorem scCof : FnScope nCof ["polder", "plan"] (defScope sCof) := ⟨rfl, rfl, rfl, by decide +kernel, rfl, by decide +kernel, by decide +kernel⟩
theorem ok_cof {f : Addr} {fd : FuncData} (F : Fun K "cost_of" "cost_of" sCof f fd) (T : Txt K mg C) :
    FnOk P w K mg base CX0 1 f fd ["polder", "plan"] (spCof K C) := by
  refine F.ok scCof (fun vs H Q E h => ?_) (fun cdv A outer s H vs Q E hr h => ?_)
  · obtain ⟨_, _, _, _, _, _, rfl, _⟩ := h
    rfl
  · obtain ⟨a, ra, ca, b, p, xs, rfl, hP, wf, hS, hlen, q⟩ := h
    refine ⟨_, pss_cons (ps_set (i := 2) scCof.nd rfl (.inl rfl) pe_int)
      (pss_cons (ps_for PassesOwn.never rfl (pi_zip (by rfl) T.zip (pa_cons (pe_fld (pv 0) rfl) (pa_cons (pv 1) pa_nil))) (pg_tup rfl (pgs_cons (pg_name (i := 3) scCof.nd rfl (.inl rfl)) (pgs_cons (pg_name (i := 4) scCof.nd rfl (.inl rfl)) pgs_nil)))
        (pss_one (ps_set (i := 2) scCof.nd rfl (.inl rfl) (pe_op op_add (pv 2) (pe_op op_mul (pv 3) (pv 4))))))
      (pss_one (ps_ret (pv 2)))), ?_⟩
    obtain ⟨dx, ha⟩ := hP.at_
    refine ⟨_, rfl, a, C, dx, _, _, rfl, ha, T.cl, T.nC, lkC, _, rfl, ca, b, costsV p.hours, natsV xs, rfl, SqL.of hP.cs, hS, ?_⟩
    have hl2 : (costsV p.hours).length = (natsV xs).length := by
      rw [costsV, natsV, List.length_map, List.length_map, hlen]
    refine RZ.for_zipL (K := K) hl2 (fun k σ H' => ∃ (y3 y4 : Option V), σ = [some (.ref a), some (.ref b), some (.int (costI (p.hours.take k) (xs.take k) : Nat)), y3, y4] ∧ Same H H')
      ⟨none, none, rfl, Same.refl H⟩ (fun k σ H' ⟨_, _, _, sm⟩ => ⟨SqL.of (sm _ _ hP.cs), sm.seq hS⟩) (fun k x y t σ H' hx hy hp nt => ?_) (fun σ H' hp => ?_)
    · obtain ⟨y3, y4, rfl, sm⟩ := hp
      obtain ⟨h, hh, rfl⟩ := costs_inv hx
      obtain ⟨u, hu, rfl⟩ := nats_inv hy
      have wfh := wf.2.2.2.2.2 h (List.mem_of_getElem? hh)
      have s1 : Same H' (upd H' t (.tup [.int h.cost, .int u])) := same_upd nt
      refine ⟨t, _, rfl, SqT.of upd_same, rfl, _, _, rfl, _, _, rfl, rfl, ?_⟩
      refine ⟨_, rfl, _, rfl, _, rfl, _, _, rfl, rfl, .inl ⟨by omega, by omega⟩, _, _, rfl, rfl, some (.int h.cost), some (.int u), ?_, sm.trans s1⟩
      rw [costI_more hh hu]
      rfl
    · obtain ⟨y3, y4, rfl, sm⟩ := hp
      rw [List.take_of_length_le (by rw [costsV, List.length_map]; exact Nat.le_refl _), List.take_of_length_le (by rw [hl2, natsV, List.length_map]; exact Nat.le_refl _)]
      exact ⟨_, rfl, q H' sm⟩

def spChk (K : PySem.W.Frag) (C : Addr) : Sp := fun vs H Q _ => ∃ (a ra ca b : Addr) (p : Si97.Polder) (xs : List Nat), vs = [.ref a, .ref b] ∧ PolAt C H a ra ca p ∧ Wf p ∧ SqL K H b (natsV xs) ∧ Ansd H Q (ansOf (Si97.step p (.check xs)).2)
abbrev nChk : List Str := ["polder", "plan", "wrongs", "hour"]
theorem scChk : FnScope nChk ["polder", "plan"] (defScope sChk) := ⟨rfl, rfl, rfl, by decide +kernel, rfl, by decide +kernel, by decide +kernel⟩
theorem chk_no {p : Si97.Polder} {xs : List Nat} (h : xs.length ≠ p.hours.length) : ansOf (Si97.step p (.check xs)).2 = [-1] := by
  have e : p.told xs = false := by
    unfold Si97.Polder.told
    exact beq_eq_false_iff_ne.mpr h
  show ansOf (if p.told xs = false then (p, Si97.ok (-1)) else (p, _)).2 = [-1]
  rw [if_pos e]
  rfl
theorem chk_yes {p : Si97.Polder} {xs : List Nat} (h : xs.length = p.hours.length) : ansOf (Si97.step p (.check xs)).2 = match p.goes 0 p.stands p.hours xs with
    | .error x => [-6, (x.1 : Int), (x.2 : Int)]
    | .ok l => ((p.cost xs : Nat) : Int) :: Si97.ints l := by
  have e : ¬ p.told xs = false := by
    unfold Si97.Polder.told
    rw [beq_iff_eq.mpr h]
    exact fun z => Bool.noConfusion z
  show ansOf (if p.told xs = false then (p, Si97.ok (-1)) else (p, match p.goes 0 p.stands p.hours xs with
    | .error x => ⟨-6, Si97.ints [x.1, x.2]⟩
    | .ok w => ⟨((p.cost xs : Nat) : Int), Si97.ints w⟩)).2 = _
  rw [if_neg e]
  cases p.goes 0 p.stands p.hours xs <;> rfl
theorem ok_chk {f : Addr} {fd : FuncData} (F : Fun K "checked" "checked" sChk f fd) (T : Txt K mg C) (dM : IsM P w K mg base C 1 "many_hours" ["self"] (spMany C)) (dW : Is P w K mg base 3 "wrongs_of" ["polder", "plan"] (spWof K C))
    (dC : Is P w K mg base 1 "cost_of" ["polder", "plan"] (spCof K C)) (dH : Is P w K mg base 2 "heights_of" ["polder", "plan"] (spHof K C)) :
    FnOk P w K mg base CX0 4 f fd ["polder", "plan"] (spChk K C) := by
  refine F.ok scChk (fun vs H Q E h => ?_) (fun cdv A outer s H vs Q E hr h => ?_)
  · obtain ⟨_, _, _, _, _, _, rfl, _⟩ := h
    rfl
  · obtain ⟨a, ra, ca, b, p, xs, rfl, hP, wf, hS, q⟩ := h
    have hr1 : Room 1 _ := hr.mono (by decide)
    have hr2 : Room 2 _ := hr.mono (by decide)
    refine ⟨_, pss_cons (ps_if (pt_cmpR op_ne (pe_callB call_len_seq (by rfl) T.len PySem.boot_len (pa_cons (pv 1) pa_nil)) (pe_ism0 (pv 0) T.cl dM hr1) (nomark _)) (pss_one (ps_ret (pe_lst (pa_cons (pe_k rfl T.notTold) pa_nil)))) pss_nil)
      (pss_cons (ps_set (i := 2) scChk.nd rfl (.inl rfl) (pe_is dW hr rfl (pa_cons (pv 0) (pa_cons (pv 1) pa_nil))))
      (pss_cons (ps_for PassesOwn.never rfl (pi_range1 (by rfl) T.range (pa_cons (pe_callB call_len_seq (by rfl) T.len PySem.boot_len (pa_cons (pv 2) pa_nil)) pa_nil)) (pg_name (i := 3) scChk.nd rfl (.inl rfl))
        (pss_one (ps_if (pt_cmpR op_ne (pe_ix ix_list (pv 2) (pv 3) (fun _ _ => rfl)) (pe_k rfl T.nothing) (nomark _)) (pss_one (ps_ret (pe_lst (pa_cons (pe_k rfl T.cannot) (pa_cons (pv 3) (pa_cons (pe_ix ix_list (pv 2) (pv 3) (fun _ _ => rfl)) pa_nil)))))) pss_nil)))
      (pss_one (ps_ret (pe_op op_cat (pe_lst (pa_cons (pe_is dC hr1 rfl (pa_cons (pv 0) (pa_cons (pv 1) pa_nil))) pa_nil)) (pe_is dH hr2 rfl (pa_cons (pv 0) (pa_cons (pv 1) pa_nil)))))))), ?_⟩
    obtain ⟨dx, ha⟩ := hP.at_
    have hl8 := wf.2.2.2.2.1
    refine ⟨_, rfl, b, natsV xs, rfl, .inl hS, _, rfl, a, dx, _, rfl, ha, lkMany, a, ra, ca, p, rfl, hP, rfl, _, rfl, ?_⟩
    have enl : (natsV xs).length = xs.length := by rw [natsV, List.length_map]
    rw [enl]
    by_cases c : xs.length = p.hours.length
    · rw [show decide (V.int ((xs.length : Nat) : Int) = V.int ((p.hours.length : Nat) : Int)) = true by rw [c]; exact decide_eq_true rfl]
      refine iteF ?_
      have ec := chk_yes c
      have gk := goes_ok p p.hours xs 0 p.stands c.symm
      refine ⟨_, rfl, _, rfl, a, ra, ca, b, p, xs, rfl, hP, wf, hS, c.symm, fun wr H1 s1 _ hw1 => ?_⟩
      have hwl : ((wrongsI p p.stands p.hours xs).map V.int).length = xs.length := by
        rw [List.length_map, wrongsI, List.length_map, List.length_zip, heights_len _ _ _ c.symm, Nat.min_self]
      refine ⟨_, rfl, wr, _, rfl, .inl (SqL.of hw1), _, rfl, by omega, by omega, ?_⟩
      rw [hwl]
      refine for_range (lo := 0) (n := xs.length) (fun k σ H' => ∃ y3, σ = [some (.ref a), some (.ref b), some (.ref wr), y3] ∧ Same H1 H' ∧ ∀ m, m < k → (wrongsI p p.stands p.hours xs)[m]? = some 0)
        ⟨none, rfl, Same.refl H1, fun m hm => by omega⟩ (fun k σ H' hk hp => ?_) (fun σ H' hp => ?_)
      · obtain ⟨y3, rfl, sm, hall⟩ := hp
        have hkl : k < (wrongsI p p.stands p.hours xs).length := by
          rw [List.length_map] at hwl
          omega
        have hz : (wrongsI p p.stands p.hours xs)[k]? = some (wrongsI p p.stands p.hours xs)[k] := List.getElem?_eq_getElem hkl
        generalize (wrongsI p p.stands p.hours xs)[k] = z at hz
        have e0 : (0 : Int) + (k : Nat) = (k : Nat) := Int.zero_add _
        have hat := at_of e0 (ints_at hz)
        refine ⟨_, rfl, _, rfl, wr, _, _, _, rfl, rfl, SqL.of (sm _ _ hw1), hat, rfl, _, rfl, ?_⟩
        by_cases c0 : z = 0
        · subst c0
          refine iteF ⟨_, rfl, sm, fun m hm => ?_⟩
          by_cases cm : m < k
          · exact hall m cm
          · rw [show m = k by omega]
            exact hz
        · rw [show decide (V.int z = V.int 0) = false from decide_eq_false fun y => c0 (V.int.inj y)]
          refine iteT ⟨_, rfl, _, rfl, _, rfl, wr, _, _, _, rfl, rfl, SqL.of (sm _ _ hw1), hat, by show 3 ≤ sizeLine; decide, fun l nl => ?_⟩
          have ea : ansOf (Si97.step p (.check xs)).2 = [-6, (k : Int), z] := by
            rw [ec]
            cases g : p.goes 0 p.stands p.hours xs with
            | error x =>
              rw [g] at gk
              obtain ⟨j, h1, h2, h3, h4⟩ := gk
              have ej : j = k := by
                rcases Nat.lt_trichotomy j k with y | y | y
                · have := (hall j y).symm.trans h2
                  have := Option.some.inj this
                  omega
                · exact y
                · have := (h4 k y).symm.trans hz
                  exact absurd (Option.some.inj this).symm c0
              subst ej
              have := Option.some.inj (h2.symm.trans hz)
              show [-6, (x.1 : Int), (x.2 : Int)] = [-6, (j : Int), z]
              rw [this, h1, Nat.zero_add]
            | ok l =>
              rw [g] at gk
              exact absurd (gk.1 k z hz) c0
          rw [ea] at q
          refine q l _ ((s1.trans sm).trans (same_upd nl)) ((s1.trans sm).free nl) ?_
          rw [upd_same, e0]
          rfl
      · obtain ⟨y3, rfl, sm, hall⟩ := hp
        have s2 := s1.trans sm
        have ea : ansOf (Si97.step p (.check xs)).2 = ((p.cost xs : Nat) : Int) :: heightsI p.stands p.hours xs := by
          rw [ec]
          cases g : p.goes 0 p.stands p.hours xs with
          | error x =>
            rw [g] at gk
            obtain ⟨j, h1, h2, h3, h4⟩ := gk
            have hj : j < xs.length := by
              have := (List.getElem?_eq_some_iff.mp h2).1
              rw [List.length_map] at hwl
              omega
            have := Option.some.inj ((hall j hj).symm.trans h2)
            omega
          | ok l =>
            rw [g] at gk
            show ((p.cost xs : Nat) : Int) :: Si97.ints l = _
            rw [gk.2]
        rw [ea] at q
        refine ⟨_, rfl, _, rfl, a, ra, ca, b, p, xs, rfl, hP.same s2, wf, s2.seq hS, c.symm, fun H3 s3 => ⟨by show 1 ≤ sizeLine; decide, fun l nl => ?_⟩⟩
        have s4 := (s2.trans s3).trans (same_upd (o := .lst [.int (p.cost xs : Nat)]) nl)
        refine ⟨_, rfl, _, rfl, a, ra, ca, b, p, xs, rfl, hP.same s4, wf, s4.seq hS, c.symm, fun l2 H5 s5 _ hl2 => ?_⟩
        refine ⟨l, l2, _, _, rfl, rfl, s5 _ _ upd_same, hl2, ?_, fun n nn => ?_⟩
        · rw [List.length_map, heights_len _ _ _ c.symm]
          show 1 + xs.length ≤ 2 ^ 24
          omega
        · exact q n _ ((s4.trans s5).trans (same_upd nn)) ((s4.trans s5).free nn) upd_same
    · rw [show decide (V.int ((xs.length : Nat) : Int) = V.int ((p.hours.length : Nat) : Int)) = false from decide_eq_false fun y => c (by have := V.int.inj y; omega)]
      refine iteT ⟨by show 1 ≤ sizeLine; decide, fun l nl => ?_⟩
      rw [chk_no c] at q
      exact q l _ (same_upd nl) nl upd_same
end
end PP

namespace PP
open PySem PySem.Spec PyProof.Rows L2
/-- an if whose test is known -/
theorem ifT {c : Bool} {A B : Prop} (hc : c = true) (h : A) : if c = true then A else B := by
  rw [if_pos hc]
  exact h
theorem ifF {c : Bool} {A B : Prop} (hc : c = false) (h : B) : if c = true then A else B := by
  rw [hc, if_neg Bool.false_ne_true]
  exact h
section
variable {P : Program} {w : World} {K : PySem.W.Frag} {mg : Str → Option Value} {base : Heap} {C : Addr}
def spAre : Sp := fun vs H Q _ => ∃ s l h : Nat, vs = [.int s, .int l, .int h] ∧ Q (.bl (decide (s ≤ 60 ∧ h ≤ 60 ∧ l ≤ h))) H
abbrev nAre : List Str := ["stands", "low", "high"]
theorem scAre : FnScope nAre ["stands", "low", "high"] (defScope sAre) := ⟨rfl, rfl, rfl, by decide +kernel, rfl, by decide +kernel, by decide +kernel⟩
theorem within_nat (n m : Nat) : decide (0 ≤ (n : Int) ∧ (n : Int) ≤ (m : Int)) = decide (n ≤ m) := decide_eq_decide.mpr (by omega)
theorem ok_are {f : Addr} {fd : FuncData} (F : Fun K "are_heights" "are_heights" sAre f fd) (T : Txt K mg C) (dW : Is P w K mg base 1 "is_within" ["number", "most"] spWithin) :
    FnOk P w K mg base CX0 2 f fd ["stands", "low", "high"] spAre := by
  refine F.ok scAre (fun vs H Q E h => ?_) (fun cdv A outer s H vs Q E hr h => ?_)
  · obtain ⟨_, _, _, rfl, _⟩ := h
    rfl
  · obtain ⟨st, lo, hi, rfl, q⟩ := h
    refine ⟨_, pss_cons (ps_if (PW.pt (pw_or (pt_not (pt_val (pe_is dW hr rfl (pa_cons (pv 0) (pa_cons (pe_k rfl T.mostHeight) pa_nil))))) (pw_or1 (pt_not (pt_val (pe_is dW hr rfl (pa_cons (pv 2) (pa_cons (pe_k rfl T.mostHeight) pa_nil)))))))) (pss_one (ps_ret pe_bl)) pss_nil)
      (pss_one (ps_ret (pe_is dW hr rfl (pa_cons (pv 1) (pa_cons (pv 2) pa_nil))))), ?_⟩
    refine ⟨_, rfl, _, _, rfl, _, rfl, ?_⟩
    rw [show decide (0 ≤ (st : Int) ∧ (st : Int) ≤ 60) = decide (st ≤ 60) from within_nat st 60]
    by_cases c1 : st ≤ 60
    · refine ifF (by rw [decide_eq_true c1]; rfl) ?_
      refine ⟨_, rfl, _, _, rfl, _, rfl, ?_⟩
      rw [show decide (0 ≤ (hi : Int) ∧ (hi : Int) ≤ 60) = decide (hi ≤ 60) from within_nat hi 60]
      by_cases c2 : hi ≤ 60
      · refine ifF (by rw [decide_eq_true c2]; rfl) ?_
        refine ⟨_, rfl, _, rfl, _, _, rfl, ?_⟩
        refine q_bl (Q := Q) ((within_nat lo hi).trans (decide_eq_decide.mpr ?_)) q
        exact ⟨fun z => ⟨c1, c2, z⟩, fun z => z.2.2⟩
      · refine ifT (by rw [decide_eq_false c2]; rfl) ?_
        exact q_bl (Q := Q) (decide_eq_false (fun z => c2 z.2.1)).symm q
    · refine ifT (by rw [decide_eq_false c1]; rfl) ?_
      refine iteT ?_
      exact q_bl (Q := Q) (decide_eq_false (fun z => c1 z.1)).symm q

/-- the polder may have changed; an answer of its own -/
def Moved (C : Addr) (H : Hp) (a ra ca : Addr) (Q : VK) (p' : Si97.Polder) (ans : List Int) : Prop :=
  ∀ (q : Addr) (H' : Hp) (ra' ca' : Addr), PolAt C H' a ra' ca' p' → (∀ b o, H b = some o → b ≠ a → b ≠ ra → b ≠ ca → H' b = some o) → (ra' = ra ∨ H ra' = none) → (ca' = ca ∨ H ca' = none) → H q = none → H' q = some (.lst (ans.map V.int)) → Q (.ref q) H'
theorem Moved.still {C : Addr} {H : Hp} {a ra ca : Addr} {Q : VK} {p p' : Si97.Polder} {ans : List Int} (hP : PolAt C H a ra ca p) (e : p' = p) (h : Moved C H a ra ca Q p' ans) : Ansd H Q ans := fun q H' s n hq => by
  subst e
  exact h q H' ra ca (hP.same s) (fun b o e _ _ _ => s _ _ e) (.inl rfl) (.inl rfl) n hq
def spBegun (C : Addr) : Sp := fun vs H Q _ => ∃ (a ra ca : Addr) (p : Si97.Polder) (s l h c : Nat), vs = [.ref a, .int s, .int l, .int h, .int c] ∧ PolAt C H a ra ca p ∧ Moved C H a ra ca Q (Si97.step p (.begins s l h c)).1 (ansOf (Si97.step p (.begins s l h c)).2)
abbrev nBegun : List Str := ["polder", "stands", "low", "high", "pumps"]
theorem scBegun : FnScope nBegun nBegun (defScope sBegun) := ⟨rfl, rfl, rfl, by decide +kernel, rfl, by decide +kernel, by decide +kernel⟩
theorem begins_no {p : Si97.Polder} {s l h c : Nat} (z : ¬ ((s ≤ 60 ∧ h ≤ 60 ∧ l ≤ h) ∧ c ≤ 12)) : Si97.step p (.begins s l h c) = (p, Si97.ok (-1)) := by
  show (if 60 < s ∨ 60 < h ∨ h < l ∨ 12 < c then (p, Si97.ok (-1)) else (⟨s, l, h, c, []⟩, Si97.ok 0)) = _
  rw [if_pos (by omega)]
theorem begins_yes {p : Si97.Polder} {s l h c : Nat} (z : (s ≤ 60 ∧ h ≤ 60 ∧ l ≤ h) ∧ c ≤ 12) : Si97.step p (.begins s l h c) = (⟨s, l, h, c, []⟩, Si97.ok 0) := by
  show (if 60 < s ∨ 60 < h ∨ h < l ∨ 12 < c then (p, Si97.ok (-1)) else (⟨s, l, h, c, []⟩, Si97.ok 0)) = _
  rw [if_neg (by omega)]
theorem ok_begun {f : Addr} {fd : FuncData} (F : Fun K "begun" "begun" sBegun f fd) (T : Txt K mg C) (dA : Is P w K mg base 2 "are_heights" ["stands", "low", "high"] spAre) (dW : Is P w K mg base 1 "is_within" ["number", "most"] spWithin) (dB : IsM P w K mg base C 1 "begin_anew" ["self", "stands", "low", "high", "pumps"] (spBegin C)) :
    FnOk P w K mg base CX0 3 f fd nBegun (spBegun C) := by
  refine F.ok scBegun (fun vs H Q E h => ?_) (fun cdv A outer s H vs Q E hr h => ?_)
  · obtain ⟨_, _, _, _, _, _, _, _, rfl, _⟩ := h
    rfl
  · obtain ⟨a, ra, ca, p, st, lo, hi, pu, rfl, hP, q⟩ := h
    have hr1 : Room 1 _ := hr.mono (by decide)
    refine ⟨_, pss_cons (ps_if (PW.pt (pw_or (pt_not (pt_val (pe_is dA hr rfl (pa_cons (pv 1) (pa_cons (pv 2) (pa_cons (pv 3) pa_nil)))))) (pw_or1 (pt_not (pt_val (pe_is dW hr1 rfl (pa_cons (pv 4) (pa_cons (pe_k rfl T.mostPumped) pa_nil)))))))) (pss_one (ps_ret (pe_lst (pa_cons (pe_k rfl T.notTold) pa_nil)))) pss_nil)
      (pss_cons (ps_expr (pe_ism (pv 0) T.cl dB hr1 (pa_cons (pv 1) (pa_cons (pv 2) (pa_cons (pv 3) (pa_cons (pv 4) pa_nil))))))
      (pss_one (ps_ret (pe_lst (pa_cons pe_int pa_nil))))), ?_⟩
    obtain ⟨dx, ha⟩ := hP.at_
    have bad : ¬ ((st ≤ 60 ∧ hi ≤ 60 ∧ lo ≤ hi) ∧ pu ≤ 12) → ∀ l, H l = none → Q (.ref l) (upd H l (.lst [.int (-1)])) := fun z l nl => by
      rw [begins_no z] at q
      exact Moved.still hP rfl q l _ (same_upd nl) nl upd_same
    refine ⟨_, rfl, _, rfl, _, rfl, _, _, _, rfl, _, rfl, ?_⟩
    by_cases c1 : st ≤ 60 ∧ hi ≤ 60 ∧ lo ≤ hi
    · refine ifF (by rw [decide_eq_true c1]; rfl) ?_
      refine ⟨_, rfl, _, _, rfl, _, rfl, ?_⟩
      rw [show decide (0 ≤ (pu : Int) ∧ (pu : Int) ≤ 12) = decide (pu ≤ 12) from within_nat pu 12]
      by_cases c2 : pu ≤ 12
      · refine ifF (by rw [decide_eq_true c2]; rfl) ?_
        rw [begins_yes ⟨c1, c2⟩] at q
        refine ⟨_, rfl, a, dx, _, rfl, ha, lkBegin, _, rfl, _, rfl, _, rfl, _, rfl, a, ra, ca, p, st, lo, hi, pu, rfl, hP, fun H1 ra' ca' hP1 kp n1 n2 => ⟨by show 1 ≤ sizeLine; decide, fun l nl => ?_⟩⟩
        refine q l _ ra' ca' (hP1.same (same_upd nl)) (fun b o e b1 _ _ => same_upd nl _ _ (kp b o e b1)) (.inr n1) (.inr n2) ?_ upd_same
        cases e : H l with
        | none => rfl
        | some o =>
          by_cases ea : l = a
          · obtain ⟨dx1, ha1⟩ := hP1.at_
            rw [ea, ha1] at nl
            cases nl
          · rw [kp l o e ea] at nl
            cases nl
      · refine ifT (by rw [decide_eq_false c2]; rfl) ?_
        exact ⟨by show 1 ≤ sizeLine; decide, bad (fun z => c2 z.2)⟩
    · refine ifT (by rw [decide_eq_false c1]; rfl) ?_
      refine iteT ?_
      exact ⟨by show 1 ≤ sizeLine; decide, bad (fun z => c1 z.1)⟩

def spHour (C : Addr) : Sp := fun vs H Q _ => ∃ (a ra ca : Addr) (p : Si97.Polder) (h : Si97.Hour), vs = [.ref a, .int h.rain, .int h.cost] ∧ PolAt C H a ra ca p ∧ Wf p ∧ Moved C H a ra ca Q (Si97.step p (.hour h)).1 (ansOf (Si97.step p (.hour h)).2)
abbrev nHour : List Str := ["polder", "rain", "cost"]
theorem scHour : FnScope nHour nHour (defScope sHour) := ⟨rfl, rfl, rfl, by decide +kernel, rfl, by decide +kernel, by decide +kernel⟩
theorem hour_eq (p : Si97.Polder) (h : Si97.Hour) : Si97.step p (.hour h) = if 30 < h.rain ∨ 1000 < h.cost then (p, Si97.ok (-1)) else if 8 ≤ p.hours.length then (p, Si97.ok (-5)) else ({ p with hours := p.hours ++ [h] }, Si97.ok ((p.hours.length : Nat) : Int)) := rfl
theorem ok_hour {f : Addr} {fd : FuncData} (F : Fun K "hour_put" "hour_put" sHour f fd) (T : Txt K mg C) (dW : Is P w K mg base 1 "is_within" ["number", "most"] spWithin) (dM : IsM P w K mg base C 1 "many_hours" ["self"] (spMany C)) (dP : IsM P w K mg base C 1 "put_hour" ["self", "rain", "cost"] (spPut C)) :
    FnOk P w K mg base CX0 2 f fd nHour (spHour C) := by
  refine F.ok scHour (fun vs H Q E h => ?_) (fun cdv A outer s H vs Q E hr h => ?_)
  · obtain ⟨_, _, _, _, _, rfl, _⟩ := h
    rfl
  · obtain ⟨a, ra, ca, p, h, rfl, hP, wf, q⟩ := h
    refine ⟨_, pss_cons (ps_if (PW.pt (pw_or (pt_not (pt_val (pe_is dW hr rfl (pa_cons (pv 1) (pa_cons (pe_k rfl T.mostRain) pa_nil))))) (pw_or1 (pt_not (pt_val (pe_is dW hr rfl (pa_cons (pv 2) (pa_cons (pe_k rfl T.mostCost) pa_nil)))))))) (pss_one (ps_ret (pe_lst (pa_cons (pe_k rfl T.notTold) pa_nil)))) pss_nil)
      (pss_cons (ps_if (pt_cmpR op_eq (pe_ism0 (pv 0) T.cl dM hr) (pe_k rfl T.mostHours) (nomark _)) (pss_one (ps_ret (pe_lst (pa_cons (pe_k rfl T.tooMany) pa_nil)))) pss_nil)
      (pss_cons (ps_expr (pe_ism (pv 0) T.cl dP hr (pa_cons (pv 1) (pa_cons (pv 2) pa_nil))))
      (pss_one (ps_ret (pe_lst (pa_cons (pe_op op_sub (pe_ism0 (pv 0) T.cl dM hr) pe_int) pa_nil)))))), ?_⟩
    obtain ⟨dx, ha⟩ := hP.at_
    have hl8 := wf.2.2.2.2.1
    rw [hour_eq] at q
    have bad : (30 < h.rain ∨ 1000 < h.cost) → ∀ l, H l = none → Q (.ref l) (upd H l (.lst [.int (-1)])) := fun z l nl => by
      rw [if_pos z] at q
      exact Moved.still hP rfl q l _ (same_upd nl) nl upd_same
    refine ⟨_, rfl, _, _, rfl, _, rfl, ?_⟩
    rw [show decide (0 ≤ (h.rain : Int) ∧ (h.rain : Int) ≤ 30) = decide (h.rain ≤ 30) from within_nat h.rain 30]
    by_cases c1 : h.rain ≤ 30
    · refine ifF (by rw [decide_eq_true c1]; rfl) ?_
      refine ⟨_, rfl, _, _, rfl, _, rfl, ?_⟩
      rw [show decide (0 ≤ (h.cost : Int) ∧ (h.cost : Int) ≤ 1000) = decide (h.cost ≤ 1000) from within_nat h.cost 1000]
      by_cases c2 : h.cost ≤ 1000
      · refine ifF (by rw [decide_eq_true c2]; rfl) ?_
        rw [if_neg (show ¬ (30 < h.rain ∨ 1000 < h.cost) by omega)] at q
        refine ⟨_, rfl, a, dx, _, rfl, ha, lkMany, a, ra, ca, p, rfl, hP, rfl, _, rfl, ?_⟩
        by_cases c3 : p.hours.length = 8
        · rw [show decide (V.int ((p.hours.length : Nat) : Int) = V.int 8) = true by rw [c3]; exact decide_eq_true rfl]
          refine iteT ⟨by show 1 ≤ sizeLine; decide, fun l nl => ?_⟩
          rw [if_pos (show 8 ≤ p.hours.length by omega)] at q
          exact Moved.still hP rfl q l _ (same_upd nl) nl upd_same
        · rw [show decide (V.int ((p.hours.length : Nat) : Int) = V.int 8) = false from decide_eq_false fun y => c3 (by have := V.int.inj y; omega)]
          refine iteF ?_
          rw [if_neg (show ¬ 8 ≤ p.hours.length by omega)] at q
          refine ⟨_, rfl, a, dx, _, rfl, ha, lkPut, _, rfl, _, rfl, a, ra, ca, p, h.rain, h.cost, rfl, hP, by omega, fun H1 hP1 kp => ?_⟩
          obtain ⟨dx1, ha1⟩ := hP1.at_
          refine ⟨_, rfl, a, dx1, _, rfl, ha1, lkMany, a, ra, ca, _, rfl, hP1, _, _, rfl, rfl, by show 1 ≤ sizeLine; decide, fun l nl => ?_⟩
          refine q l _ ra ca (hP1.same (same_upd nl)) (fun b o e _ b2 b3 => same_upd nl _ _ (kp b o e b2 b3)) (.inl rfl) (.inl rfl) ?_ ?_
          · cases e : H l with
            | none => rfl
            | some o =>
              by_cases e1 : l = ra
              · rw [e1, hP1.rs] at nl
                cases nl
              · by_cases e2 : l = ca
                · rw [e2, hP1.cs] at nl
                  cases nl
                · rw [kp l o e e1 e2] at nl
                  cases nl
          · rw [upd_same]
            refine congrArg (fun z => some (HO.lst [V.int z])) ?_
            show (((p.hours ++ [(⟨h.rain, h.cost⟩ : Si97.Hour)]).length : Nat) : Int) - 1 = ((p.hours.length : Nat) : Int)
            rw [List.length_append]
            show ((p.hours.length + 1 : Nat) : Int) - 1 = _
            omega
      · refine ifT (by rw [decide_eq_false c2]; rfl) ?_
        exact ⟨by show 1 ≤ sizeLine; decide, bad (.inr (by omega))⟩
    · refine ifT (by rw [decide_eq_false c1]; rfl) ?_
      refine iteT ?_
      exact ⟨by show 1 ≤ sizeLine; decide, bad (.inl (by omega))⟩
end
end PP

namespace PP
open PySem PySem.Spec PyProof.Rows L2
theorem flat_append (a b : List PCall) : flat (a ++ b) = flat a ++ flat b := by simp [flat]
theorem flat_at {ps : List PCall} {i : Nat} {c : PCall} (h : ps[i]? = some c) : flat ps = flat (ps.take i) ++ (c.1 :: (c.2.length : Int) :: (c.2 ++ (0 :: flat (ps.drop (i + 1))))) := by
  have e : ps = ps.take i ++ (c :: ps.drop (i + 1)) := by
    rw [← drop_at h, List.take_append_drop]
  conv => lhs; rw [e]
  rw [flat_append, flat_cons]
  show _ ++ ((c.1 :: (c.2.length : Int) :: (c.2 ++ [0])) ++ _) = _
  simp
theorem flat_more {ps : List PCall} {i : Nat} {c : PCall} (h : ps[i]? = some c) : (flat (ps.take (i + 1))).length = (flat (ps.take i)).length + 2 + c.2.length + 1 := by
  rw [take_more h, flat_append, flat_cons, List.length_append, List.length_append]
  show _ + ((c.1 :: (c.2.length : Int) :: (c.2 ++ [0])).length + 0) = _
  simp
  omega
theorem flat_len : ∀ ps : List PCall, ps.length ≤ (flat ps).length
  | [] => Nat.le_refl _
  | c :: ps => by
    have := flat_len ps
    rw [flat_cons, List.length_append, List.length_cons]
    show _ ≤ (c.1 :: (c.2.length : Int) :: (c.2 ++ [0])).length + _
    simp
    omega
theorem sz30 {n : Nat} (h : n ≤ 30000) : n < sizeLine := Nat.lt_of_le_of_lt h (by decide)
theorem cut_mid {A M R : List V} {lo hi : Nat} (h1 : lo = A.length) (h2 : hi = lo + M.length) : cutV (A ++ (M ++ R)) (some (lo : Int)) (some (hi : Int)) = M := by
  unfold cutV
  rw [HT.sIx_nat, HT.sIx_nat, List.length_append, List.length_append]
  rw [show min lo (A.length + (M.length + R.length)) = A.length by omega, show min hi (A.length + (M.length + R.length)) = A.length + M.length by omega]
  rw [List.drop_left, Nat.add_sub_cancel_left, List.take_left]
section
variable {P : Program} {w : World} {K : PySem.W.Frag} {mg : Str → Option Value} {base : Heap} {C : Addr}
/-! ### answered -/
def spAnsd (K : PySem.W.Frag) (C : Addr) : Sp := fun vs H Q _ => ∃ (a ra ca b : Addr) (p : Si97.Polder) (q : Si97.Call), vs = [.ref a, .int (encOf q).1, .ref b] ∧ PolAt C H a ra ca p ∧ Wf p ∧ SqL K H b ((encOf q).2.map V.int) ∧ Moved C H a ra ca Q (Si97.step p q).1 (ansOf (Si97.step p q).2)
abbrev nAnsd : List Str := ["polder", "call", "numbers"]
theorem scAnsd : FnScope nAnsd nAnsd (defScope sAnsd) := ⟨rfl, rfl, rfl, by decide +kernel, rfl, by decide +kernel, by decide +kernel⟩
theorem check_still (p : Si97.Polder) (l : List Nat) : (Si97.step p (.check l)).1 = p := by
  show (if p.told l = false then (p, Si97.ok (-1)) else (p, _)).1 = p
  split <;> rfl
theorem ok_ansd {f : Addr} {fd : FuncData} (F : Fun K "answered" "answered" sAnsd f fd) (T : Txt K mg C) (dB : Is P w K mg base 3 "begun" nBegun (spBegun C)) (dH : Is P w K mg base 2 "hour_put" nHour (spHour C)) (dC : Is P w K mg base 4 "checked" ["polder", "plan"] (spChk K C))
    (dT : Is P w K mg base 6 "best_told" ["polder"] (spBest C)) (dN : Is P w K mg base 3 "needed" ["polder"] (spNeed C)) (dS : Is P w K mg base 3 "strong_enough" ["polder"] (spStrong C)) :
    FnOk P w K mg base CX0 7 f fd nAnsd (spAnsd K C) := by
  refine F.ok scAnsd (fun vs H Q E h => ?_) (fun cdv A outer s H vs Q E hr h => ?_)
  · obtain ⟨_, _, _, _, _, _, rfl, _⟩ := h
    rfl
  · obtain ⟨a, ra, ca, b, p, q, rfl, hP, wf, hS, k⟩ := h
    have hr2 : Room 2 _ := hr.mono (by decide)
    have hr3 : Room 3 _ := hr.mono (by decide)
    have hr4 : Room 4 _ := hr.mono (by decide)
    refine ⟨_, pss_cons (ps_if (pt_cmpR op_eq (pv 1) (pe_k rfl T.begins) (nomark _)) (pss_one (ps_ret (pe_is dB hr3 rfl (pa_cons (pv 0) (pa_cons (pe_ix ix_list (pv 2) pe_int (fun _ _ => rfl)) (pa_cons (pe_ix ix_list (pv 2) pe_int (fun _ _ => rfl)) (pa_cons (pe_ix ix_list (pv 2) pe_int (fun _ _ => rfl)) (pa_cons (pe_ix ix_list (pv 2) pe_int (fun _ _ => rfl)) pa_nil)))))))) pss_nil)
      (pss_cons (ps_if (pt_cmpR op_eq (pv 1) (pe_k rfl T.hour) (nomark _)) (pss_one (ps_ret (pe_is dH hr2 rfl (pa_cons (pv 0) (pa_cons (pe_ix ix_list (pv 2) pe_int (fun _ _ => rfl)) (pa_cons (pe_ix ix_list (pv 2) pe_int (fun _ _ => rfl)) pa_nil)))))) pss_nil)
      (pss_cons (ps_if (pt_cmpR op_eq (pv 1) (pe_k rfl T.check) (nomark _)) (pss_one (ps_ret (pe_is dC hr4 rfl (pa_cons (pv 0) (pa_cons (pv 2) pa_nil))))) pss_nil)
      (pss_cons (ps_if (pt_cmpR op_eq (pv 1) (pe_k rfl T.best) (nomark _)) (pss_one (ps_ret (pe_is dT hr rfl (pa_cons (pv 0) pa_nil)))) pss_nil)
      (pss_cons (ps_if (pt_cmpR op_eq (pv 1) (pe_k rfl T.needs) (nomark _)) (pss_one (ps_ret (pe_is dN hr3 rfl (pa_cons (pv 0) pa_nil)))) pss_nil)
      (pss_one (ps_ret (pe_is dS hr3 rfl (pa_cons (pv 0) pa_nil)))))))), ?_⟩
    cases q with
    | begins st lo hi pu =>
      refine ⟨_, rfl, rfl, _, rfl, ifT rfl ?_⟩
      refine ⟨_, rfl, _, rfl, b, _, _, _, rfl, rfl, hS, atI_nat (j := 0) rfl, _, rfl, b, _, _, _, rfl, rfl, hS, atI_nat (j := 1) rfl, _, rfl, b, _, _, _, rfl, rfl, hS, atI_nat (j := 2) rfl, _, rfl, b, _, _, _, rfl, rfl, hS, atI_nat (j := 3) rfl, ?_⟩
      exact ⟨a, ra, ca, p, st, lo, hi, pu, rfl, hP, k⟩
    | hour h =>
      refine ⟨_, rfl, rfl, _, rfl, ifF rfl ?_⟩
      refine ⟨_, rfl, rfl, _, rfl, ifT rfl ?_⟩
      refine ⟨_, rfl, _, rfl, b, _, _, _, rfl, rfl, hS, atI_nat (j := 0) rfl, _, rfl, b, _, _, _, rfl, rfl, hS, atI_nat (j := 1) rfl, ?_⟩
      exact ⟨a, ra, ca, p, h, rfl, hP, wf, k⟩
    | check l =>
      refine ⟨_, rfl, rfl, _, rfl, ifF rfl ?_⟩
      refine ⟨_, rfl, rfl, _, rfl, ifF rfl ?_⟩
      refine ⟨_, rfl, rfl, _, rfl, ifT rfl ?_⟩
      have hS : SqL K H b (natsV l) := by
        rw [← natsV_ints]
        exact hS
      exact ⟨_, rfl, _, rfl, a, ra, ca, b, p, l, rfl, hP, wf, hS, Moved.still hP (check_still p l) k⟩
    | best =>
      refine ⟨_, rfl, rfl, _, rfl, ifF rfl ?_⟩
      refine ⟨_, rfl, rfl, _, rfl, ifF rfl ?_⟩
      refine ⟨_, rfl, rfl, _, rfl, ifF rfl ?_⟩
      refine ⟨_, rfl, rfl, _, rfl, ifT rfl ?_⟩
      exact ⟨_, rfl, a, ra, ca, p, rfl, hP, wf, Moved.still hP rfl k⟩
    | needs =>
      refine ⟨_, rfl, rfl, _, rfl, ifF rfl ?_⟩
      refine ⟨_, rfl, rfl, _, rfl, ifF rfl ?_⟩
      refine ⟨_, rfl, rfl, _, rfl, ifF rfl ?_⟩
      refine ⟨_, rfl, rfl, _, rfl, ifF rfl ?_⟩
      refine ⟨_, rfl, rfl, _, rfl, ifT rfl ?_⟩
      exact ⟨_, rfl, a, ra, ca, p, rfl, hP, wf, Moved.still hP rfl k⟩
    | strong =>
      refine ⟨_, rfl, rfl, _, rfl, ifF rfl ?_⟩
      refine ⟨_, rfl, rfl, _, rfl, ifF rfl ?_⟩
      refine ⟨_, rfl, rfl, _, rfl, ifF rfl ?_⟩
      refine ⟨_, rfl, rfl, _, rfl, ifF rfl ?_⟩
      refine ⟨_, rfl, rfl, _, rfl, ifF rfl ?_⟩
      exact ⟨_, rfl, a, ra, ca, p, rfl, hP, wf, Moved.still hP rfl k⟩

/-! ### calls_in -/
def CallAt (H0 : Hp) (l : Addr) (H : Hp) (v : V) (c : PCall) : Prop := ∃ t b, v = .ref t ∧ H t = some (.tup [.int c.1, .ref b]) ∧ H b = some (.lst (c.2.map V.int)) ∧ H0 b = none ∧ b ≠ l
def CallsAt (H0 H : Hp) (l : Addr) (ps : List PCall) : Prop := ∃ vs, H l = some (.lst vs) ∧ Al (CallAt H0 l H) vs ps
def spCalls (K : PySem.W.Frag) : Sp := fun vs H Q _ => ∃ (c : Addr) (ps : List PCall), vs = [.ref c] ∧ SqL K H c ((flat ps).map V.int) ∧ (flat ps).length ≤ 30000 ∧ ∀ (l : Addr) (H' : Hp), Same H H' → H l = none → CallsAt H H' l ps → Q (.ref l) H'
abbrev nCalls : List Str := ["calls", "found", "at", "many", "begin"]
theorem scCalls : FnScope nCalls ["calls"] (defScope sCalls) := ⟨rfl, rfl, rfl, by decide +kernel, rfl, by decide +kernel, by decide +kernel⟩
theorem ok_calls {f : Addr} {fd : FuncData} (F : Fun K "calls_in" "calls_in" sCalls f fd) (T : Txt K mg C) : FnOk P w K mg base CX0 1 f fd ["calls"] (spCalls K) := by
  refine F.ok scCalls (fun vs H Q E h => ?_) (fun cdv A outer s H vs Q E hr h => ?_)
  · obtain ⟨_, _, rfl, _⟩ := h
    rfl
  · obtain ⟨c, ps, rfl, hS, hlen, q⟩ := h
    refine ⟨_, pss_cons (ps_set (i := 1) scCalls.nd rfl (.inl rfl) (pe_lst pa_nil))
      (pss_cons (ps_set (i := 2) scCalls.nd rfl (.inl rfl) pe_int)
      (pss_cons (ps_while PassesOwn.never (pt_cmpR op_lt (pv 2) (pe_callB call_len_seq (by rfl) T.len PySem.boot_len (pa_cons (pv 0) pa_nil)) (nomark _))
        (pss_cons (ps_set (i := 3) scCalls.nd rfl (.inl rfl) (pe_ix ix_list (pv 0) (pe_op op_add (pv 2) pe_int) (fun _ _ => rfl)))
        (pss_cons (ps_set (i := 4) scCalls.nd rfl (.inl rfl) (pe_op op_add (pv 2) pe_int))
        (pss_cons (ps_expr (pe_bm PySem.F.plainAttrs_list PySem.F.slot_list_append PySem.F.type_list_append mt_append (pv 1) (pa_cons (pe_tup (pa_cons (pe_ix ix_list (pv 0) (pv 2) (fun _ _ => rfl)) (pa_cons (pe_slice sl_list (pv 0) (po_some (pv 4)) (po_some (pe_op op_add (pv 4) (pv 3)))) pa_nil))) pa_nil)))
        (pss_one (ps_set (i := 2) scCalls.nd rfl (.inl rfl) (pe_op op_add (pe_op op_add (pv 4) (pv 3)) pe_int)))))))
      (pss_one (ps_ret (pv 1))))), ?_⟩
    refine ⟨Nat.zero_le _, fun o no => ?_⟩
    have s0 : Same H (upd H o (.lst [])) := same_upd no
    refine ⟨fun m σ H' => ∃ (i : Nat) (y3 y4 : Option V), i ≤ ps.length ∧ m = ps.length - i ∧ σ = [some (.ref c), some (.ref o), some (.int (flat (ps.take i)).length), y3, y4] ∧ Same H H' ∧ CallsAt H H' o (ps.take i),
      ⟨ps.length, 0, none, none, Nat.zero_le _, rfl, rfl, s0, [], upd_same, trivial⟩, ?_⟩
    rintro m σ H' ⟨i, y3, y4, hi, rfl, rfl, sm, vs, ho, hal⟩
    refine ⟨_, rfl, _, rfl, c, _, rfl, .inl (sm.seq hS), _, _, rfl, rfl, _, rfl, ?_⟩
    rw [List.length_map]
    by_cases hlt : i < ps.length
    · have hc : ps[i]? = some ps[i] := List.getElem?_eq_getElem hlt
      generalize ps[i] = cc at hc
      have ef := flat_at hc
      have em := flat_more hc
      have hA : (flat (ps.take i)).length + 2 + cc.2.length + 1 ≤ (flat ps).length := by
        rw [ef]
        simp
        omega
      refine ifT (decide_eq_true (by omega)) ?_
      refine ⟨fun σ' H2 => ∃ (y3 y4 : Option V), σ' = [some (.ref c), some (.ref o), some (.int (flat (ps.take (i + 1))).length), y3, y4] ∧ Same H H2 ∧ CallsAt H H2 o (ps.take (i + 1)),
        fun σ' H2 ⟨z3, z4, e, h1, h2⟩ => ⟨ps.length - (i + 1), by omega, i + 1, z3, z4, by omega, rfl, e, h1, h2⟩, ?_⟩
      have g0 : ((flat ps).map V.int)[(flat (ps.take i)).length]? = some (.int cc.1) := by
        rw [ef, List.getElem?_map, List.getElem?_append_right (Nat.le_refl _), Nat.sub_self]
        rfl
      have g1 : ((flat ps).map V.int)[(flat (ps.take i)).length + 1]? = some (.int (cc.2.length : Int)) := by
        rw [ef, List.getElem?_map, List.getElem?_append_right (Nat.le_add_right _ _), Nat.add_sub_cancel_left]
        rfl
      have ecut : cutV ((flat ps).map V.int) (some (((flat (ps.take i)).length + 2 : Nat) : Int)) (some (((flat (ps.take i)).length + 2 + cc.2.length : Nat) : Int)) = cc.2.map V.int := by
        have e3 : (flat ps).map V.int = ((flat (ps.take i)).map V.int ++ [.int cc.1, .int (cc.2.length : Int)]) ++ (cc.2.map V.int ++ (.int 0 :: (flat (ps.drop (i + 1))).map V.int)) := by
          rw [ef]
          simp
        rw [e3]
        exact cut_mid (by simp) (by simp)
      have hS' := sm.seq hS
      -- many = calls[at + 1]
      refine ⟨_, rfl, _, rfl, _, _, rfl, rfl, c, _, _, _, rfl, rfl, hS', atI_nat (j := (flat (ps.take i)).length + 1) g1, ?_⟩
      -- begin = at + 2
      refine ⟨_, rfl, _, _, rfl, rfl, ?_⟩
      -- found.append((calls[at], calls[begin:begin + many]))
      refine ⟨_, rfl, .inl ⟨rfl, _, SqL.of ho⟩, _, rfl, _, rfl, c, _, _, _, rfl, rfl, hS', atI_nat g0, _, rfl, _, rfl, _, rfl, _, rfl, _, rfl, _, _, rfl, rfl, _, rfl, c, _, rfl, hS', fun b nb => ?_⟩
      have s1 := same_upd (o := .lst (cutV ((flat ps).map V.int) (some (((flat (ps.take i)).length + 2 : Nat) : Int)) (some (((flat (ps.take i)).length + 2 + cc.2.length : Nat) : Int)))) nb
      have ob : o ≠ b := ne_of_none ho nb
      refine ⟨by show 2 ≤ sizeLine; decide, fun t nt => ?_⟩
      have s2 := s1.trans (same_upd (o := .tup [.int cc.1, .ref b]) nt)
      have bt : b ≠ t := ne_of_none upd_same nt
      have ho2 := s2 _ _ ho
      have ot : o ≠ t := ne_of_none (s1 _ _ ho) nt
      refine ⟨o, vs, _, rfl, rfl, ho2, ?_, ?_⟩
      · rw [hal.len, List.length_take]
        have := flat_len ps
        exact sz30 (by omega)
      refine ⟨_, rfl, _, rfl, _, _, rfl, rfl, _, _, rfl, rfl, some (.int (cc.2.length : Int)), some (.int ((flat (ps.take i)).length + 2 : Int)), ?_, same_at (sm.trans s2) no, ?_⟩
      · rw [em]
        rfl
      · rw [take_more hc]
        refine ⟨_, upd_same, Al.app ⟨t, b, rfl, (upd_ne ot.symm).trans upd_same, ?_, sm.free nb, ob.symm⟩ (hal.mono fun v c ⟨t', b', e, h1, h2, h3, h4⟩ => ⟨t', b', e, ?_, ?_, h3, h4⟩)⟩
        · rw [upd_ne ob.symm, upd_ne bt]
          exact upd_same.trans (congrArg (fun z => some (HO.lst z)) ecut)
        · rw [upd_ne (ne_of h1 ho (by intro z; cases z))]
          exact s2 _ _ h1
        · rw [upd_ne h4]
          exact s2 _ _ h2
    · have ei : i = ps.length := by omega
      subst ei
      rw [List.take_length] at hal ⊢
      refine ifF (decide_eq_false (by omega)) ?_
      exact ⟨_, rfl, q o H' sm no ⟨vs, ho, hal⟩⟩

/-! ### answers -/
def spAns (K : PySem.W.Frag) : Sp := fun vs H Q _ => ∃ (c : Addr) (ns : List Int), vs = [.ref c] ∧ SqL K H c (ns.map V.int) ∧ ns.length ≤ 30000 ∧ PySi97.answers_asked ns = true ∧
  ∀ (H' : Hp) (l : Addr), H' l = some (.lst ((PySi97.answers ns).map V.int)) → Q (.ref l) H'
abbrev nAns : List Str := ["calls", "polder", "told", "call", "numbers", "answer"]
theorem scAns : FnScope nAns ["calls"] (defScope sAns) := ⟨rfl, rfl, rfl, by decide +kernel, rfl, by decide +kernel, by decide +kernel⟩
theorem told_cons (p : Si97.Polder) (q : Si97.Call) (qs : List Si97.Call) : toldFrom p (q :: qs) = ((ansOf (Si97.step p q).2).length : Int) :: (ansOf (Si97.step p q).2 ++ toldFrom (Si97.step p q).1 qs) := rfl
theorem ok_ans {f fI : Addr} {fd fdI : FuncData} (F : Fun K "answers" "answers" sAns f fd) (T : Txt K mg C) (M : Mk K C fI) (gC : mg "Polder" = some (.ref C)) (GI : FnOk P w K mg base CX0 1 fI fdI ["self"] (spInit C)) (bI : Binds K fdI ["self"] [])
    (dC : Is P w K mg base 1 "calls_in" ["calls"] (spCalls K)) (dA : Is P w K mg base 7 "answered" nAnsd (spAnsd K C)) : FnOk P w K mg base CX0 8 f fd ["calls"] (spAns K) := by
  refine F.ok scAns (fun vs H Q E h => ?_) (fun cdv A outer s H vs Q E hr h => ?_)
  · obtain ⟨_, _, rfl, _⟩ := h
    rfl
  · obtain ⟨c, ns, rfl, hS, hlen, hask, k⟩ := h
    obtain ⟨qs, rfl, hchk, hans, htl⟩ := asked_calls hask
    rw [hans] at k
    have hr1 : Room 1 _ := hr.mono (by decide)
    have hr2 : Room 2 _ := hr.mono (by decide)
    refine ⟨_, pss_cons (ps_set (i := 1) scAns.nd rfl (.inl rfl) (pe_make0 M GI hr2 rfl gC bI .nil pass0))
      (pss_cons (ps_set (i := 2) scAns.nd rfl (.inl rfl) (pe_lst pa_nil))
      (pss_cons (ps_for PassesOwn.never rfl (pi_list (pe_is dC hr1 rfl (pa_cons (pv 0) pa_nil))) (pg_tup rfl (pgs_cons (pg_name (i := 3) scAns.nd rfl (.inl rfl)) (pgs_cons (pg_name (i := 4) scAns.nd rfl (.inl rfl)) pgs_nil)))
        (pss_cons (ps_set (i := 5) scAns.nd rfl (.inl rfl) (pe_is dA hr rfl (pa_cons (pv 1) (pa_cons (pv 3) (pa_cons (pv 4) pa_nil)))))
        (pss_cons (ps_expr (pe_bm PySem.F.plainAttrs_list PySem.F.slot_list_append PySem.F.type_list_append mt_append (pv 2) (pa_cons (pe_callB call_len_seq (by rfl) T.len PySem.boot_len (pa_cons (pv 5) pa_nil)) pa_nil)))
        (pss_one (ps_expr (pe_bm PySem.F.plainAttrs_list PySem.F.slot_list_extend PySem.F.type_list_extend mt_extend (pv 2) (pa_cons (pv 5) pa_nil)))))))
      (pss_one (ps_ret (pv 2))))), ?_⟩
    -- polder = Polder()
    intro x dx nx ndx nex
    refine ⟨x, dx, rfl, upd_same, fun H1 ra0 ca0 hP kp nra nca => ⟨rfl, ?_⟩⟩
    have s1 : Same H H1 := Same.made nx ndx kp
    -- told = []
    refine ⟨Nat.zero_le _, fun tl ntl => ?_⟩
    have s2 : Same H1 (upd H1 tl (.lst [])) := same_upd ntl
    have hP2 := hP.same s2
    have xt : x ≠ tl := by
      obtain ⟨dy, hy⟩ := hP.at_
      exact ne_of_none hy ntl
    have rt : ra0 ≠ tl := ne_of_none hP.rs ntl
    have ct : ca0 ≠ tl := ne_of_none hP.cs ntl
    have htl2 : (upd H1 tl (.lst [])) tl = some (.lst []) := upd_same
    generalize upd H1 tl (.lst []) = H2 at s2 hP2 htl2
    -- calls_in(calls)
    refine ⟨_, rfl, c, qs.map encOf, rfl, (s1.trans s2).seq hS, hlen, fun L H3 s3 nL hC => ?_⟩
    obtain ⟨vs, hL, hal⟩ := hC
    have hP3 := hP2.same s3
    have htl3 := s3 _ _ htl2
    obtain ⟨dy2, hx2⟩ := hP2.at_
    obtain ⟨dy3, hx3⟩ := hP3.at_
    have Lx : L ≠ x := (ne_of_none hx2 nL).symm
    have Lr : L ≠ ra0 := (ne_of_none hP2.rs nL).symm
    have Lc : L ≠ ca0 := (ne_of_none hP2.cs nL).symm
    have Lt : L ≠ tl := (ne_of_none htl2 nL).symm
    refine ⟨L, rfl, ⟨vs, SqL.of hL⟩, ?_⟩
    refine for_list (K := K) (a := L) (xs := vs) (fun i σ H' => ∃ (p : Si97.Polder) (ra ca : Addr) (ts : List Int) (y3 y4 y5 : Option V), σ = [some (.ref c), some (.ref x), some (.ref tl), y3, y4, y5] ∧ PolAt C H' x ra ca p ∧ Wf p ∧ H' tl = some (.lst (ts.map V.int)) ∧
        ts ++ toldFrom p (qs.drop i) = toldFrom Si97.init qs ∧ (∀ b o, H3 b = some o → b ≠ x → b ≠ ra0 → b ≠ ca0 → b ≠ tl → H' b = some o) ∧ (ra = ra0 ∨ ra = ca0 ∨ H3 ra = none) ∧ (ca = ra0 ∨ ca = ca0 ∨ H3 ca = none))
      ⟨Si97.init, ra0, ca0, [], none, none, none, rfl, hP3, wf_init, htl3, rfl, fun b o e _ _ _ _ => e, .inl rfl, .inr (.inl rfl)⟩
      (fun i σ H' _ ⟨_, _, _, _, _, _, _, _, _, _, _, _, kp', _⟩ => SqL.of (kp' _ _ hL Lx Lr Lc Lt)) (fun i v σ H' hi hp => ?_) (fun σ H' hp => ?_)
    · obtain ⟨p, ra, ca, ts, y3, y4, y5, rfl, hP', wf, ht', htold, kp', er, ec⟩ := hp
      obtain ⟨pc, hpc, t, b, rfl, ht, hb, nb, _⟩ := hal.getL hi
      rw [List.getElem?_map] at hpc
      obtain ⟨q, hq, rfl⟩ := Option.map_eq_some_iff.mp hpc
      have ht1 := kp' _ _ ht (ne_of ht hx3 (by intro z; cases z)) (ne_of ht hP3.rs (by intro z; cases z)) (ne_of ht hP3.cs (by intro z; cases z)) (ne_of ht htl3 (by intro z; cases z))
      have hb1 := kp' _ _ hb (ne_of hb hx3 (by intro z; cases z)) (ne_of_none hP2.rs nb).symm (ne_of_none hP2.cs nb).symm (ne_of_none htl2 nb).symm
      rw [drop_at hq, told_cons] at htold
      have tx : tl ≠ x := xt.symm
      have tr : tl ≠ ra := by
        rcases er with e | e | e
        · rw [e]
          exact rt.symm
        · rw [e]
          exact ct.symm
        · exact ne_of_none htl3 e
      have tc : tl ≠ ca := by
        rcases ec with e | e | e
        · rw [e]
          exact rt.symm
        · rw [e]
          exact ct.symm
        · exact ne_of_none htl3 e
      obtain ⟨dy1, hx1⟩ := hP'.at_
      have late : ∀ e : Addr, H' e = none → e = ra0 ∨ e = ca0 ∨ H3 e = none := fun e z => by
        cases h3 : H3 e with
        | none => exact .inr (.inr rfl)
        | some o =>
          by_cases e1 : e = x
          · rw [e1, hx1] at z
            cases z
          by_cases e2 : e = ra0
          · exact .inl e2
          by_cases e3 : e = ca0
          · exact .inr (.inl e3)
          by_cases e4 : e = tl
          · rw [e4, ht'] at z
            cases z
          rw [kp' _ _ h3 e1 e2 e3 e4] at z
          cases z
      -- call, numbers = ..
      refine ⟨t, _, rfl, SqT.of ht1, rfl, _, _, rfl, _, _, rfl, rfl, ?_⟩
      -- answer = answered(polder, call, numbers)
      refine ⟨_, rfl, _, rfl, _, rfl, x, ra, ca, b, p, q, rfl, hP', wf, SqL.of hb1, fun qa H4 ra' ca' hP4 kp4 er4 ec4 nqa hqa => ?_⟩
      have ht4 : H4 tl = some (.lst (ts.map V.int)) := kp4 _ _ ht' tx tr tc
      have tq : tl ≠ qa := ne_of_none ht' nqa
      have hsz : ts.length + 1 + (ansOf (Si97.step p q).2).length ≤ 10000000 := by
        have := congrArg List.length htold
        rw [List.length_append, List.length_cons, List.length_append] at this
        omega
      -- told.append(len(answer))
      refine ⟨_, rfl, .inl ⟨rfl, _, SqL.of ht4⟩, _, rfl, qa, _, rfl, .inl (SqL.of hqa), tl, _, _, rfl, rfl, ht4, ?_, ?_⟩
      · rw [List.length_map]
        show ts.length < 2 ^ 24
        omega
      -- told.extend(answer)
      refine ⟨_, rfl, .inl ⟨rfl, _, SqL.of upd_same⟩, _, rfl, tl, qa, _, _, rfl, rfl, upd_same, (upd_ne tq.symm).trans hqa, ?_, ?_⟩
      · rw [List.length_append, List.length_map, List.length_map]
        show ts.length + 1 + (ansOf (Si97.step p q).2).length ≤ 2 ^ 24
        omega
      obtain ⟨dy4, hx4⟩ := hP4.at_
      have ne4 : ∀ {e : Addr} {u : HO}, (e = ra ∨ H' e = none) → H4 e = some u → e ≠ tl := fun {e u} z _ => by
        rcases z with z | z
        · rw [z]
          exact tr.symm
        · exact (ne_of_none ht' z).symm
      have ra4 : ra' ≠ tl := ne4 er4 hP4.rs
      have ca4 : ca' ≠ tl := by
        rcases ec4 with z | z
        · rw [z]
          exact tc.symm
        · exact (ne_of_none ht' z).symm
      refine ⟨(Si97.step p q).1, ra', ca', ts ++ (((ansOf (Si97.step p q).2).length : Int) :: ansOf (Si97.step p q).2), some (.int (encOf q).1), some (.ref b), some (.ref qa), rfl,
        ⟨⟨dy4, by rw [upd_ne xt, upd_ne xt]; exact hx4⟩, by rw [upd_ne ra4, upd_ne ra4]; exact hP4.rs, by rw [upd_ne ca4, upd_ne ca4]; exact hP4.cs, hP4.ne⟩, wf_step wf q, ?_, ?_, fun e o he e1 e2 e3 e4 => ?_, ?_, ?_⟩
      · rw [upd_same]
        refine congrArg (fun z => some (HO.lst z)) ?_
        rw [List.map_append, List.length_map, List.append_assoc]
        rfl
      · rw [List.append_assoc]
        exact htold
      · rw [upd_ne e4, upd_ne e4]
        refine kp4 _ _ (kp' _ _ he e1 e2 e3 e4) e1 ?_ ?_
        · rcases er with z | z | z
          · rw [z]
            exact e2
          · rw [z]
            exact e3
          · exact ne_of_none he z
        · rcases ec with z | z | z
          · rw [z]
            exact e2
          · rw [z]
            exact e3
          · exact ne_of_none he z
      · rcases er4 with z | z
        · rw [z]
          exact er
        · exact late ra' z
      · rcases ec4 with z | z
        · rw [z]
          exact ec
        · exact late ca' z
    · obtain ⟨p, ra, ca, ts, y3, y4, y5, rfl, hP', wf, ht', htold, kp', er, ec⟩ := hp
      rw [hal.len, List.length_map, List.drop_length] at htold
      have htold : ts ++ [] = toldFrom Si97.init qs := htold
      rw [List.append_nil] at htold
      rw [htold] at ht'
      exact ⟨_, rfl, k H' tl ht'⟩
end
end PP

namespace PP
open PySem PySem.Spec PyProof.Rows L2
theorem all_mk {P : Program} {w : World} {K : PySem.W.Frag} {h : Heap} {mg : Str → Option Value} {fa C : Addr} (X : K.In h) (G : h.Ns mainGlobals mg) (hfa : mg "answers" = some (.ref fa))
    {od_within an_within : Option Addr} {sl_within : Array (Option Value)} {oc_within kV_within dc_within pm_within cd_within ct_within : Value} {f_within : Addr}
    {od_hb an_hb : Option Addr} {sl_hb : Array (Option Value)} {oc_hb kV_hb dc_hb pm_hb cd_hb ct_hb : Value} {f_hb : Addr}
    {od_may an_may : Option Addr} {sl_may : Array (Option Value)} {oc_may kV_may dc_may pm_may cd_may ct_may : Value} {f_may : Addr}
    {od_rowb an_rowb : Option Addr} {sl_rowb : Array (Option Value)} {oc_rowb kV_rowb dc_rowb pm_rowb cd_rowb ct_rowb : Value} {f_rowb : Addr}
    {od_hsb an_hsb : Option Addr} {sl_hsb : Array (Option Value)} {oc_hsb kV_hsb dc_hsb pm_hsb cd_hsb ct_hsb : Value} {f_hsb : Addr}
    {od_wrong an_wrong : Option Addr} {sl_wrong : Array (Option Value)} {oc_wrong kV_wrong dc_wrong pm_wrong cd_wrong ct_wrong : Value} {f_wrong : Addr}
    {od_tog an_tog : Option Addr} {sl_tog : Array (Option Value)} {oc_tog kV_tog dc_tog pm_tog cd_tog ct_tog : Value} {f_tog : Addr}
    {od_cof an_cof : Option Addr} {sl_cof : Array (Option Value)} {oc_cof kV_cof dc_cof pm_cof cd_cof ct_cof : Value} {f_cof : Addr}
    {od_calls an_calls : Option Addr} {sl_calls : Array (Option Value)} {oc_calls kV_calls dc_calls pm_calls cd_calls ct_calls : Value} {f_calls : Addr}
    {od_choice an_choice : Option Addr} {sl_choice : Array (Option Value)} {oc_choice kV_choice dc_choice pm_choice cd_choice ct_choice : Value} {f_choice : Addr}
    {od_choices an_choices : Option Addr} {sl_choices : Array (Option Value)} {oc_choices kV_choices dc_choices pm_choices cd_choices ct_choices : Value} {f_choices : Addr}
    {od_rowa an_rowa : Option Addr} {sl_rowa : Array (Option Value)} {oc_rowa kV_rowa dc_rowa pm_rowa cd_rowa ct_rowa : Value} {f_rowa : Addr}
    {od_rows an_rows : Option Addr} {sl_rows : Array (Option Value)} {oc_rows kV_rows dc_rows pm_rows cd_rows ct_rows : Value} {f_rows : Addr}
    {od_earl an_earl : Option Addr} {sl_earl : Array (Option Value)} {oc_earl kV_earl dc_earl pm_earl cd_earl ct_earl : Value} {f_earl : Addr}
    {od_best an_best : Option Addr} {sl_best : Array (Option Value)} {oc_best kV_best dc_best pm_best cd_best ct_best : Value} {f_best : Addr}
    {od_can an_can : Option Addr} {sl_can : Array (Option Value)} {oc_can kV_can dc_can pm_can cd_can ct_can : Value} {f_can : Addr}
    {od_need an_need : Option Addr} {sl_need : Array (Option Value)} {oc_need kV_need dc_need pm_need cd_need ct_need : Value} {f_need : Addr}
    {od_strong an_strong : Option Addr} {sl_strong : Array (Option Value)} {oc_strong kV_strong dc_strong pm_strong cd_strong ct_strong : Value} {f_strong : Addr}
    {od_hof an_hof : Option Addr} {sl_hof : Array (Option Value)} {oc_hof kV_hof dc_hof pm_hof cd_hof ct_hof : Value} {f_hof : Addr}
    {od_wof an_wof : Option Addr} {sl_wof : Array (Option Value)} {oc_wof kV_wof dc_wof pm_wof cd_wof ct_wof : Value} {f_wof : Addr}
    {od_chk an_chk : Option Addr} {sl_chk : Array (Option Value)} {oc_chk kV_chk dc_chk pm_chk cd_chk ct_chk : Value} {f_chk : Addr}
    {od_are an_are : Option Addr} {sl_are : Array (Option Value)} {oc_are kV_are dc_are pm_are cd_are ct_are : Value} {f_are : Addr}
    {od_begun an_begun : Option Addr} {sl_begun : Array (Option Value)} {oc_begun kV_begun dc_begun pm_begun cd_begun ct_begun : Value} {f_begun : Addr}
    {od_hour an_hour : Option Addr} {sl_hour : Array (Option Value)} {oc_hour kV_hour dc_hour pm_hour cd_hour ct_hour : Value} {f_hour : Addr}
    {od_ansd an_ansd : Option Addr} {sl_ansd : Array (Option Value)} {oc_ansd kV_ansd dc_ansd pm_ansd cd_ansd ct_ansd : Value} {f_ansd : Addr}
    {od_many an_many : Option Addr} {sl_many : Array (Option Value)} {oc_many kV_many dc_many pm_many cd_many ct_many : Value} {f_many : Addr}
    {od_put an_put : Option Addr} {sl_put : Array (Option Value)} {oc_put kV_put dc_put pm_put cd_put ct_put : Value} {f_put : Addr}
    {od_begin an_begin : Option Addr} {sl_begin : Array (Option Value)} {oc_begin kV_begin dc_begin pm_begin cd_begin ct_begin : Value} {f_begin : Addr}
    {od_init an_init : Option Addr} {sl_init : Array (Option Value)} {oc_init kV_init dc_init pm_init cd_init ct_init : Value} {f_init : Addr}
    {od_ans an_ans : Option Addr} {sl_ans : Array (Option Value)} {oc_ans kV_ans dc_ans pm_ans cd_ans ct_ans : Value} {f_ans : Addr}
    {t_0 : Nat}
    {t_1 : Nat}
    {t_2 : Nat}
    {t_3 : Nat}
    {t_4 : Nat}
    {t_5 : Nat}
    {t_6 : Nat}
    {t_7 : Nat}
    {t_8 : Nat}
    {t_9 : Nat}
    {t_10 : Nat}
    {t_11 : Nat}
    {t_12 : Nat}
    {t_13 : Nat}
    {t_14 : Nat}
    {t_15 : Nat}
    {t_16 : Nat}
    (aC : PySem.W.nsIn K mainGlobals "Polder" = some (some (.ref C)))
    (a_within : PySem.W.nsIn K mainGlobals "is_within" = some (some (.ref f_within)))
    (l_within : K.lookup f_within = some ⟨oc_within, od_within, .func (PySem.W.fnOf "is_within" "is_within" (defArgs sWithin) (defBody sWithin) (defScope sWithin) .none kV_within dc_within pm_within an_within cd_within ct_within), sl_within⟩)
    (c_within : PySem.W.codeIn K cd_within "is_within" = true)
    (k_within : PySem.W.keepIn K (.ref f_within) = true)
    (a_hb : PySem.W.nsIn K mainGlobals "height_behind" = some (some (.ref f_hb)))
    (l_hb : K.lookup f_hb = some ⟨oc_hb, od_hb, .func (PySem.W.fnOf "height_behind" "height_behind" (defArgs sHB) (defBody sHB) (defScope sHB) .none kV_hb dc_hb pm_hb an_hb cd_hb ct_hb), sl_hb⟩)
    (c_hb : PySem.W.codeIn K cd_hb "height_behind" = true)
    (k_hb : PySem.W.keepIn K (.ref f_hb) = true)
    (a_may : PySem.W.nsIn K mainGlobals "may_stand" = some (some (.ref f_may)))
    (l_may : K.lookup f_may = some ⟨oc_may, od_may, .func (PySem.W.fnOf "may_stand" "may_stand" (defArgs sMay) (defBody sMay) (defScope sMay) .none kV_may dc_may pm_may an_may cd_may ct_may), sl_may⟩)
    (c_may : PySem.W.codeIn K cd_may "may_stand" = true)
    (k_may : PySem.W.keepIn K (.ref f_may) = true)
    (a_rowb : PySem.W.nsIn K mainGlobals "row_behind" = some (some (.ref f_rowb)))
    (l_rowb : K.lookup f_rowb = some ⟨oc_rowb, od_rowb, .func (PySem.W.fnOf "row_behind" "row_behind" (defArgs sRowB) (defBody sRowB) (defScope sRowB) .none kV_rowb dc_rowb pm_rowb an_rowb cd_rowb ct_rowb), sl_rowb⟩)
    (c_rowb : PySem.W.codeIn K cd_rowb "row_behind" = true)
    (k_rowb : PySem.W.keepIn K (.ref f_rowb) = true)
    (a_hsb : PySem.W.nsIn K mainGlobals "heights_behind" = some (some (.ref f_hsb)))
    (l_hsb : K.lookup f_hsb = some ⟨oc_hsb, od_hsb, .func (PySem.W.fnOf "heights_behind" "heights_behind" (defArgs sHsB) (defBody sHsB) (defScope sHsB) .none kV_hsb dc_hsb pm_hsb an_hsb cd_hsb ct_hsb), sl_hsb⟩)
    (c_hsb : PySem.W.codeIn K cd_hsb "heights_behind" = true)
    (k_hsb : PySem.W.keepIn K (.ref f_hsb) = true)
    (a_wrong : PySem.W.nsIn K mainGlobals "wrong_in" = some (some (.ref f_wrong)))
    (l_wrong : K.lookup f_wrong = some ⟨oc_wrong, od_wrong, .func (PySem.W.fnOf "wrong_in" "wrong_in" (defArgs sWrong) (defBody sWrong) (defScope sWrong) .none kV_wrong dc_wrong pm_wrong an_wrong cd_wrong ct_wrong), sl_wrong⟩)
    (c_wrong : PySem.W.codeIn K cd_wrong "wrong_in" = true)
    (k_wrong : PySem.W.keepIn K (.ref f_wrong) = true)
    (a_tog : PySem.W.nsIn K mainGlobals "together" = some (some (.ref f_tog)))
    (l_tog : K.lookup f_tog = some ⟨oc_tog, od_tog, .func (PySem.W.fnOf "together" "together" (defArgs sTog) (defBody sTog) (defScope sTog) .none kV_tog dc_tog pm_tog an_tog cd_tog ct_tog), sl_tog⟩)
    (c_tog : PySem.W.codeIn K cd_tog "together" = true)
    (k_tog : PySem.W.keepIn K (.ref f_tog) = true)
    (a_cof : PySem.W.nsIn K mainGlobals "cost_of" = some (some (.ref f_cof)))
    (l_cof : K.lookup f_cof = some ⟨oc_cof, od_cof, .func (PySem.W.fnOf "cost_of" "cost_of" (defArgs sCof) (defBody sCof) (defScope sCof) .none kV_cof dc_cof pm_cof an_cof cd_cof ct_cof), sl_cof⟩)
    (c_cof : PySem.W.codeIn K cd_cof "cost_of" = true)
    (k_cof : PySem.W.keepIn K (.ref f_cof) = true)
    (a_calls : PySem.W.nsIn K mainGlobals "calls_in" = some (some (.ref f_calls)))
    (l_calls : K.lookup f_calls = some ⟨oc_calls, od_calls, .func (PySem.W.fnOf "calls_in" "calls_in" (defArgs sCalls) (defBody sCalls) (defScope sCalls) .none kV_calls dc_calls pm_calls an_calls cd_calls ct_calls), sl_calls⟩)
    (c_calls : PySem.W.codeIn K cd_calls "calls_in" = true)
    (k_calls : PySem.W.keepIn K (.ref f_calls) = true)
    (a_choice : PySem.W.nsIn K mainGlobals "choice" = some (some (.ref f_choice)))
    (l_choice : K.lookup f_choice = some ⟨oc_choice, od_choice, .func (PySem.W.fnOf "choice" "choice" (defArgs sChoice) (defBody sChoice) (defScope sChoice) .none kV_choice dc_choice pm_choice an_choice cd_choice ct_choice), sl_choice⟩)
    (c_choice : PySem.W.codeIn K cd_choice "choice" = true)
    (k_choice : PySem.W.keepIn K (.ref f_choice) = true)
    (a_choices : PySem.W.nsIn K mainGlobals "choices" = some (some (.ref f_choices)))
    (l_choices : K.lookup f_choices = some ⟨oc_choices, od_choices, .func (PySem.W.fnOf "choices" "choices" (defArgs sChoices) (defBody sChoices) (defScope sChoices) .none kV_choices dc_choices pm_choices an_choices cd_choices ct_choices), sl_choices⟩)
    (c_choices : PySem.W.codeIn K cd_choices "choices" = true)
    (k_choices : PySem.W.keepIn K (.ref f_choices) = true)
    (a_rowa : PySem.W.nsIn K mainGlobals "row_ahead" = some (some (.ref f_rowa)))
    (l_rowa : K.lookup f_rowa = some ⟨oc_rowa, od_rowa, .func (PySem.W.fnOf "row_ahead" "row_ahead" (defArgs sRowA) (defBody sRowA) (defScope sRowA) .none kV_rowa dc_rowa pm_rowa an_rowa cd_rowa ct_rowa), sl_rowa⟩)
    (c_rowa : PySem.W.codeIn K cd_rowa "row_ahead" = true)
    (k_rowa : PySem.W.keepIn K (.ref f_rowa) = true)
    (a_rows : PySem.W.nsIn K mainGlobals "rows_of" = some (some (.ref f_rows)))
    (l_rows : K.lookup f_rows = some ⟨oc_rows, od_rows, .func (PySem.W.fnOf "rows_of" "rows_of" (defArgs sRows) (defBody sRows) (defScope sRows) .none kV_rows dc_rows pm_rows an_rows cd_rows ct_rows), sl_rows⟩)
    (c_rows : PySem.W.codeIn K cd_rows "rows_of" = true)
    (k_rows : PySem.W.keepIn K (.ref f_rows) = true)
    (a_earl : PySem.W.nsIn K mainGlobals "earliest" = some (some (.ref f_earl)))
    (l_earl : K.lookup f_earl = some ⟨oc_earl, od_earl, .func (PySem.W.fnOf "earliest" "earliest" (defArgs sEarl) (defBody sEarl) (defScope sEarl) .none kV_earl dc_earl pm_earl an_earl cd_earl ct_earl), sl_earl⟩)
    (c_earl : PySem.W.codeIn K cd_earl "earliest" = true)
    (k_earl : PySem.W.keepIn K (.ref f_earl) = true)
    (a_best : PySem.W.nsIn K mainGlobals "best_told" = some (some (.ref f_best)))
    (l_best : K.lookup f_best = some ⟨oc_best, od_best, .func (PySem.W.fnOf "best_told" "best_told" (defArgs sBest) (defBody sBest) (defScope sBest) .none kV_best dc_best pm_best an_best cd_best ct_best), sl_best⟩)
    (c_best : PySem.W.codeIn K cd_best "best_told" = true)
    (k_best : PySem.W.keepIn K (.ref f_best) = true)
    (a_can : PySem.W.nsIn K mainGlobals "can_be" = some (some (.ref f_can)))
    (l_can : K.lookup f_can = some ⟨oc_can, od_can, .func (PySem.W.fnOf "can_be" "can_be" (defArgs sCan) (defBody sCan) (defScope sCan) .none kV_can dc_can pm_can an_can cd_can ct_can), sl_can⟩)
    (c_can : PySem.W.codeIn K cd_can "can_be" = true)
    (k_can : PySem.W.keepIn K (.ref f_can) = true)
    (a_need : PySem.W.nsIn K mainGlobals "needed" = some (some (.ref f_need)))
    (l_need : K.lookup f_need = some ⟨oc_need, od_need, .func (PySem.W.fnOf "needed" "needed" (defArgs sNeed) (defBody sNeed) (defScope sNeed) .none kV_need dc_need pm_need an_need cd_need ct_need), sl_need⟩)
    (c_need : PySem.W.codeIn K cd_need "needed" = true)
    (k_need : PySem.W.keepIn K (.ref f_need) = true)
    (a_strong : PySem.W.nsIn K mainGlobals "strong_enough" = some (some (.ref f_strong)))
    (l_strong : K.lookup f_strong = some ⟨oc_strong, od_strong, .func (PySem.W.fnOf "strong_enough" "strong_enough" (defArgs sStrong) (defBody sStrong) (defScope sStrong) .none kV_strong dc_strong pm_strong an_strong cd_strong ct_strong), sl_strong⟩)
    (c_strong : PySem.W.codeIn K cd_strong "strong_enough" = true)
    (k_strong : PySem.W.keepIn K (.ref f_strong) = true)
    (a_hof : PySem.W.nsIn K mainGlobals "heights_of" = some (some (.ref f_hof)))
    (l_hof : K.lookup f_hof = some ⟨oc_hof, od_hof, .func (PySem.W.fnOf "heights_of" "heights_of" (defArgs sHof) (defBody sHof) (defScope sHof) .none kV_hof dc_hof pm_hof an_hof cd_hof ct_hof), sl_hof⟩)
    (c_hof : PySem.W.codeIn K cd_hof "heights_of" = true)
    (k_hof : PySem.W.keepIn K (.ref f_hof) = true)
    (a_wof : PySem.W.nsIn K mainGlobals "wrongs_of" = some (some (.ref f_wof)))
    (l_wof : K.lookup f_wof = some ⟨oc_wof, od_wof, .func (PySem.W.fnOf "wrongs_of" "wrongs_of" (defArgs sWof) (defBody sWof) (defScope sWof) .none kV_wof dc_wof pm_wof an_wof cd_wof ct_wof), sl_wof⟩)
    (c_wof : PySem.W.codeIn K cd_wof "wrongs_of" = true)
    (k_wof : PySem.W.keepIn K (.ref f_wof) = true)
    (a_chk : PySem.W.nsIn K mainGlobals "checked" = some (some (.ref f_chk)))
    (l_chk : K.lookup f_chk = some ⟨oc_chk, od_chk, .func (PySem.W.fnOf "checked" "checked" (defArgs sChk) (defBody sChk) (defScope sChk) .none kV_chk dc_chk pm_chk an_chk cd_chk ct_chk), sl_chk⟩)
    (c_chk : PySem.W.codeIn K cd_chk "checked" = true)
    (k_chk : PySem.W.keepIn K (.ref f_chk) = true)
    (a_are : PySem.W.nsIn K mainGlobals "are_heights" = some (some (.ref f_are)))
    (l_are : K.lookup f_are = some ⟨oc_are, od_are, .func (PySem.W.fnOf "are_heights" "are_heights" (defArgs sAre) (defBody sAre) (defScope sAre) .none kV_are dc_are pm_are an_are cd_are ct_are), sl_are⟩)
    (c_are : PySem.W.codeIn K cd_are "are_heights" = true)
    (k_are : PySem.W.keepIn K (.ref f_are) = true)
    (a_begun : PySem.W.nsIn K mainGlobals "begun" = some (some (.ref f_begun)))
    (l_begun : K.lookup f_begun = some ⟨oc_begun, od_begun, .func (PySem.W.fnOf "begun" "begun" (defArgs sBegun) (defBody sBegun) (defScope sBegun) .none kV_begun dc_begun pm_begun an_begun cd_begun ct_begun), sl_begun⟩)
    (c_begun : PySem.W.codeIn K cd_begun "begun" = true)
    (k_begun : PySem.W.keepIn K (.ref f_begun) = true)
    (a_hour : PySem.W.nsIn K mainGlobals "hour_put" = some (some (.ref f_hour)))
    (l_hour : K.lookup f_hour = some ⟨oc_hour, od_hour, .func (PySem.W.fnOf "hour_put" "hour_put" (defArgs sHour) (defBody sHour) (defScope sHour) .none kV_hour dc_hour pm_hour an_hour cd_hour ct_hour), sl_hour⟩)
    (c_hour : PySem.W.codeIn K cd_hour "hour_put" = true)
    (k_hour : PySem.W.keepIn K (.ref f_hour) = true)
    (a_ansd : PySem.W.nsIn K mainGlobals "answered" = some (some (.ref f_ansd)))
    (l_ansd : K.lookup f_ansd = some ⟨oc_ansd, od_ansd, .func (PySem.W.fnOf "answered" "answered" (defArgs sAnsd) (defBody sAnsd) (defScope sAnsd) .none kV_ansd dc_ansd pm_ansd an_ansd cd_ansd ct_ansd), sl_ansd⟩)
    (c_ansd : PySem.W.codeIn K cd_ansd "answered" = true)
    (k_ansd : PySem.W.keepIn K (.ref f_ansd) = true)
    (a_many : PySem.W.findIn K (.ref C) "many_hours" = some (some (.ref f_many)))
    (i_many : PySem.W.isFn K (.ref f_many) = true)
    (l_many : K.lookup f_many = some ⟨oc_many, od_many, .func (PySem.W.fnOf "many_hours" "Polder.many_hours" (defArgs sMany) (defBody sMany) (defScope sMany) .none kV_many dc_many pm_many an_many cd_many ct_many), sl_many⟩)
    (c_many : PySem.W.codeIn K cd_many "Polder.many_hours" = true)
    (k_many : PySem.W.keepIn K (.ref f_many) = true)
    (a_put : PySem.W.findIn K (.ref C) "put_hour" = some (some (.ref f_put)))
    (i_put : PySem.W.isFn K (.ref f_put) = true)
    (l_put : K.lookup f_put = some ⟨oc_put, od_put, .func (PySem.W.fnOf "put_hour" "Polder.put_hour" (defArgs sPut) (defBody sPut) (defScope sPut) .none kV_put dc_put pm_put an_put cd_put ct_put), sl_put⟩)
    (c_put : PySem.W.codeIn K cd_put "Polder.put_hour" = true)
    (k_put : PySem.W.keepIn K (.ref f_put) = true)
    (a_begin : PySem.W.findIn K (.ref C) "begin_anew" = some (some (.ref f_begin)))
    (i_begin : PySem.W.isFn K (.ref f_begin) = true)
    (l_begin : K.lookup f_begin = some ⟨oc_begin, od_begin, .func (PySem.W.fnOf "begin_anew" "Polder.begin_anew" (defArgs sBegin) (defBody sBegin) (defScope sBegin) .none kV_begin dc_begin pm_begin an_begin cd_begin ct_begin), sl_begin⟩)
    (c_begin : PySem.W.codeIn K cd_begin "Polder.begin_anew" = true)
    (k_begin : PySem.W.keepIn K (.ref f_begin) = true)
    (a_init : PySem.W.findIn K (.ref C) "__init__" = some (some (.ref f_init)))
    (i_init : PySem.W.isFn K (.ref f_init) = true)
    (l_init : K.lookup f_init = some ⟨oc_init, od_init, .func (PySem.W.fnOf "__init__" "Polder.__init__" (defArgs sInit) (defBody sInit) (defScope sInit) .none kV_init dc_init pm_init an_init cd_init ct_init), sl_init⟩)
    (c_init : PySem.W.codeIn K cd_init "Polder.__init__" = true)
    (k_init : PySem.W.keepIn K (.ref f_init) = true)
    (a_ans : PySem.W.nsIn K mainGlobals "answers" = some (some (.ref f_ans)))
    (l_ans : K.lookup f_ans = some ⟨oc_ans, od_ans, .func (PySem.W.fnOf "answers" "answers" (defArgs sAns) (defBody sAns) (defScope sAns) .none kV_ans dc_ans pm_ans an_ans cd_ans ct_ans), sl_ans⟩)
    (c_ans : PySem.W.codeIn K cd_ans "answers" = true)
    (k_ans : PySem.W.keepIn K (.ref f_ans) = true)
    (v_0 : PySem.W.nsIn K mainGlobals "MOST_HEIGHT" = some (some (.int 60 t_0)))
    (v_1 : PySem.W.nsIn K mainGlobals "MOST_PUMPED" = some (some (.int 12 t_1)))
    (v_2 : PySem.W.nsIn K mainGlobals "MOST_RAIN" = some (some (.int 30 t_2)))
    (v_3 : PySem.W.nsIn K mainGlobals "MOST_COST" = some (some (.int 1000 t_3)))
    (v_4 : PySem.W.nsIn K mainGlobals "MOST_HOURS" = some (some (.int 8 t_4)))
    (v_5 : PySem.W.nsIn K mainGlobals "NOT_TOLD" = some (some (.int (-1) t_5)))
    (v_6 : PySem.W.nsIn K mainGlobals "TOO_MANY" = some (some (.int (-5) t_6)))
    (v_7 : PySem.W.nsIn K mainGlobals "CANNOT" = some (some (.int (-6) t_7)))
    (v_8 : PySem.W.nsIn K mainGlobals "NOTHING" = some (some (.int 0 t_8)))
    (v_9 : PySem.W.nsIn K mainGlobals "TOO_STRONG" = some (some (.int 1 t_9)))
    (v_10 : PySem.W.nsIn K mainGlobals "TOO_LOW" = some (some (.int 2 t_10)))
    (v_11 : PySem.W.nsIn K mainGlobals "TOO_HIGH" = some (some (.int 3 t_11)))
    (v_12 : PySem.W.nsIn K mainGlobals "BEGINS" = some (some (.int 0 t_12)))
    (v_13 : PySem.W.nsIn K mainGlobals "HOUR" = some (some (.int 1 t_13)))
    (v_14 : PySem.W.nsIn K mainGlobals "CHECK" = some (some (.int 2 t_14)))
    (v_15 : PySem.W.nsIn K mainGlobals "BEST" = some (some (.int 3 t_15)))
    (v_16 : PySem.W.nsIn K mainGlobals "NEEDS" = some (some (.int 4 t_16)))
    (z_len : PySem.W.nsIn K mainGlobals "len" = some none)
    (z_range : PySem.W.nsIn K mainGlobals "range" = some none)
    (z_min : PySem.W.nsIn K mainGlobals "min" = some none)
    (z_max : PySem.W.nsIn K mainGlobals "max" = some none)
    (z_sum : PySem.W.nsIn K mainGlobals "sum" = some none)
    (z_zip : PySem.W.nsIn K mainGlobals "zip" = some none)
    (z_reversed : PySem.W.nsIn K mainGlobals "reversed" = some none)
    (pg : PySem.W.plainGet K C Str.empty = true)
    (hd : PySem.W.hasDictIn K C = true)
    (po : PySem.W.plainOver K C = true)
    (sa : PySem.W.findIn K (.ref C) "__setattr__" = some (some (.builtin "object.__setattr__")))
    (mk : PySem.W.makesIn K C = true)
    (kc : PySem.W.keepIn K (.ref C) = true)
    (nS : PySem.W.findIn K (.ref C) "stands" = some none)
    (nL : PySem.W.findIn K (.ref C) "low" = some none)
    (nH : PySem.W.findIn K (.ref C) "high" = some none)
    (nP : PySem.W.findIn K (.ref C) "pumps" = some none)
    (nR : PySem.W.findIn K (.ref C) "rains" = some none)
    (nC : PySem.W.findIn K (.ref C) "costs" = some none)
    : ∃ fd : FuncData, (∀ (s : Shared) (us : List Value), us.length = (["calls"] : List Str).length → BindsTo s fd ⟨us, []⟩ ((["calls"] : List Str).zip us)) ∧ ∀ base : Heap, K.In base → base.Ns mainGlobals mg → FnOk P w K mg base CX0 8 fa fd ["calls"] (spAns K) := by
  have e := hfa.symm.trans (PySem.W.mg_of X G a_ans)
  cases e
  have T : Txt K mg C := ⟨⟨pg, hd, po, sa⟩, nS, nL, nH, nP, nR, nC, ⟨_, PySem.W.mg_of X G v_0⟩, ⟨_, PySem.W.mg_of X G v_1⟩, ⟨_, PySem.W.mg_of X G v_2⟩, ⟨_, PySem.W.mg_of X G v_3⟩, ⟨_, PySem.W.mg_of X G v_4⟩, ⟨_, PySem.W.mg_of X G v_5⟩, ⟨_, PySem.W.mg_of X G v_6⟩, ⟨_, PySem.W.mg_of X G v_7⟩, ⟨_, PySem.W.mg_of X G v_8⟩, ⟨_, PySem.W.mg_of X G v_9⟩, ⟨_, PySem.W.mg_of X G v_10⟩, ⟨_, PySem.W.mg_of X G v_11⟩, ⟨_, PySem.W.mg_of X G v_12⟩, ⟨_, PySem.W.mg_of X G v_13⟩, ⟨_, PySem.W.mg_of X G v_14⟩, ⟨_, PySem.W.mg_of X G v_15⟩, ⟨_, PySem.W.mg_of X G v_16⟩, PySem.W.mg_none_of X G z_len, PySem.W.mg_none_of X G z_range, PySem.W.mg_none_of X G z_min, PySem.W.mg_none_of X G z_max, PySem.W.mg_none_of X G z_sum, PySem.W.mg_none_of X G z_zip, PySem.W.mg_none_of X G z_reversed⟩
  have F_within := fun_mk (st := sWithin) l_within c_within k_within
  have b_within := F_within.binds (ps := ["number", "most"]) fun _ _ _ _ _ _ us hl => match us, hl with | [_, _], _ => rfl
  have F_hb := fun_mk (st := sHB) l_hb c_hb k_hb
  have b_hb := F_hb.binds (ps := ["before", "rain", "pumped"]) fun _ _ _ _ _ _ us hl => match us, hl with | [_, _, _], _ => rfl
  have F_may := fun_mk (st := sMay) l_may c_may k_may
  have b_may := F_may.binds (ps := ["polder", "height"]) fun _ _ _ _ _ _ us hl => match us, hl with | [_, _], _ => rfl
  have F_rowb := fun_mk (st := sRowB) l_rowb c_rowb k_rowb
  have b_rowb := F_rowb.binds (ps := []) fun _ _ _ _ _ _ us hl => match us, hl with | [], _ => rfl
  have F_hsb := fun_mk (st := sHsB) l_hsb c_hsb k_hsb
  have b_hsb := F_hsb.binds (ps := ["least", "greatest", "rain", "pumps"]) fun _ _ _ _ _ _ us hl => match us, hl with | [_, _, _, _], _ => rfl
  have F_wrong := fun_mk (st := sWrong) l_wrong c_wrong k_wrong
  have b_wrong := F_wrong.binds (ps := ["polder", "height", "pumped"]) fun _ _ _ _ _ _ us hl => match us, hl with | [_, _, _], _ => rfl
  have F_tog := fun_mk (st := sTog) l_tog c_tog k_tog
  have b_tog := F_tog.binds (ps := ["some"]) fun _ _ _ _ _ _ us hl => match us, hl with | [_], _ => rfl
  have F_cof := fun_mk (st := sCof) l_cof c_cof k_cof
  have b_cof := F_cof.binds (ps := ["polder", "plan"]) fun _ _ _ _ _ _ us hl => match us, hl with | [_, _], _ => rfl
  have F_calls := fun_mk (st := sCalls) l_calls c_calls k_calls
  have b_calls := F_calls.binds (ps := ["calls"]) fun _ _ _ _ _ _ us hl => match us, hl with | [_], _ => rfl
  have F_choice := fun_mk (st := sChoice) l_choice c_choice k_choice
  have b_choice := F_choice.binds (ps := ["polder", "hour", "before", "pumped", "later"]) fun _ _ _ _ _ _ us hl => match us, hl with | [_, _, _, _, _], _ => rfl
  have F_choices := fun_mk (st := sChoices) l_choices c_choices k_choices
  have b_choices := F_choices.binds (ps := ["polder", "hour", "before", "later"]) fun _ _ _ _ _ _ us hl => match us, hl with | [_, _, _, _], _ => rfl
  have F_rowa := fun_mk (st := sRowA) l_rowa c_rowa k_rowa
  have b_rowa := F_rowa.binds (ps := ["polder", "hour", "later"]) fun _ _ _ _ _ _ us hl => match us, hl with | [_, _, _], _ => rfl
  have F_rows := fun_mk (st := sRows) l_rows c_rows k_rows
  have b_rows := F_rows.binds (ps := ["polder"]) fun _ _ _ _ _ _ us hl => match us, hl with | [_], _ => rfl
  have F_earl := fun_mk (st := sEarl) l_earl c_earl k_earl
  have b_earl := F_earl.binds (ps := ["polder", "rows"]) fun _ _ _ _ _ _ us hl => match us, hl with | [_, _], _ => rfl
  have F_best := fun_mk (st := sBest) l_best c_best k_best
  have b_best := F_best.binds (ps := ["polder"]) fun _ _ _ _ _ _ us hl => match us, hl with | [_], _ => rfl
  have F_can := fun_mk (st := sCan) l_can c_can k_can
  have b_can := F_can.binds (ps := ["polder", "high", "pumps"]) fun _ _ _ _ _ _ us hl => match us, hl with | [_, _, _], _ => rfl
  have F_need := fun_mk (st := sNeed) l_need c_need k_need
  have b_need := F_need.binds (ps := ["polder"]) fun _ _ _ _ _ _ us hl => match us, hl with | [_], _ => rfl
  have F_strong := fun_mk (st := sStrong) l_strong c_strong k_strong
  have b_strong := F_strong.binds (ps := ["polder"]) fun _ _ _ _ _ _ us hl => match us, hl with | [_], _ => rfl
  have F_hof := fun_mk (st := sHof) l_hof c_hof k_hof
  have b_hof := F_hof.binds (ps := ["polder", "plan"]) fun _ _ _ _ _ _ us hl => match us, hl with | [_, _], _ => rfl
  have F_wof := fun_mk (st := sWof) l_wof c_wof k_wof
  have b_wof := F_wof.binds (ps := ["polder", "plan"]) fun _ _ _ _ _ _ us hl => match us, hl with | [_, _], _ => rfl
  have F_chk := fun_mk (st := sChk) l_chk c_chk k_chk
  have b_chk := F_chk.binds (ps := ["polder", "plan"]) fun _ _ _ _ _ _ us hl => match us, hl with | [_, _], _ => rfl
  have F_are := fun_mk (st := sAre) l_are c_are k_are
  have b_are := F_are.binds (ps := ["stands", "low", "high"]) fun _ _ _ _ _ _ us hl => match us, hl with | [_, _, _], _ => rfl
  have F_begun := fun_mk (st := sBegun) l_begun c_begun k_begun
  have b_begun := F_begun.binds (ps := ["polder", "stands", "low", "high", "pumps"]) fun _ _ _ _ _ _ us hl => match us, hl with | [_, _, _, _, _], _ => rfl
  have F_hour := fun_mk (st := sHour) l_hour c_hour k_hour
  have b_hour := F_hour.binds (ps := ["polder", "rain", "cost"]) fun _ _ _ _ _ _ us hl => match us, hl with | [_, _, _], _ => rfl
  have F_ansd := fun_mk (st := sAnsd) l_ansd c_ansd k_ansd
  have b_ansd := F_ansd.binds (ps := ["polder", "call", "numbers"]) fun _ _ _ _ _ _ us hl => match us, hl with | [_, _, _], _ => rfl
  have F_many := fun_mk (st := sMany) l_many c_many k_many
  have b_many := F_many.binds (ps := ["self"]) fun _ _ _ _ _ _ us hl => match us, hl with | [_], _ => rfl
  have F_put := fun_mk (st := sPut) l_put c_put k_put
  have b_put := F_put.binds (ps := ["self", "rain", "cost"]) fun _ _ _ _ _ _ us hl => match us, hl with | [_, _, _], _ => rfl
  have F_begin := fun_mk (st := sBegin) l_begin c_begin k_begin
  have b_begin := F_begin.binds (ps := ["self", "stands", "low", "high", "pumps"]) fun _ _ _ _ _ _ us hl => match us, hl with | [_, _, _, _, _], _ => rfl
  have F_init := fun_mk (st := sInit) l_init c_init k_init
  have b_init := F_init.binds (ps := ["self"]) fun _ _ _ _ _ _ us hl => match us, hl with | [_], _ => rfl
  have F_ans := fun_mk (st := sAns) l_ans c_ans k_ans
  refine ⟨PySem.W.fnOf "answers" "answers" (defArgs sAns) (defBody sAns) (defScope sAns) .none kV_ans dc_ans pm_ans an_ans cd_ans ct_ans, fun s us hu => match us, hu with | [_], _ => .of_eq rfl, fun base _ _ => ?_⟩
  have m_many : IsM P w K mg base C 1 "many_hours" ["self"] (spMany C) := ⟨⟨f_many, _, ⟨a_many, i_many, k_many⟩, b_many, ok_many F_many T⟩⟩
  have m_put : IsM P w K mg base C 1 "put_hour" ["self", "rain", "cost"] (spPut C) := ⟨⟨f_put, _, ⟨a_put, i_put, k_put⟩, b_put, ok_put F_put T⟩⟩
  have m_begin : IsM P w K mg base C 1 "begin_anew" ["self", "stands", "low", "high", "pumps"] (spBegin C) := ⟨⟨f_begin, _, ⟨a_begin, i_begin, k_begin⟩, b_begin, ok_begin F_begin T⟩⟩
  have d_within : Is P w K mg base 1 "is_within" ["number", "most"] spWithin := ⟨⟨f_within, _, PySem.W.mg_of X G a_within, k_within, b_within, ok_within F_within⟩⟩
  have d_hb : Is P w K mg base 1 "height_behind" ["before", "rain", "pumped"] spHB := ⟨⟨f_hb, _, PySem.W.mg_of X G a_hb, k_hb, b_hb, ok_hb F_hb⟩⟩
  have d_may : Is P w K mg base 1 "may_stand" ["polder", "height"] (spMay C) := ⟨⟨f_may, _, PySem.W.mg_of X G a_may, k_may, b_may, ok_may F_may T⟩⟩
  have d_rowb : Is P w K mg base 1 "row_behind" [] spRowB := ⟨⟨f_rowb, _, PySem.W.mg_of X G a_rowb, k_rowb, b_rowb, ok_rowb F_rowb T⟩⟩
  have d_hsb : Is P w K mg base 1 "heights_behind" ["least", "greatest", "rain", "pumps"] spHsB := ⟨⟨f_hsb, _, PySem.W.mg_of X G a_hsb, k_hsb, b_hsb, ok_hsb F_hsb⟩⟩
  have d_wrong : Is P w K mg base 1 "wrong_in" ["polder", "height", "pumped"] (spWrong C) := ⟨⟨f_wrong, _, PySem.W.mg_of X G a_wrong, k_wrong, b_wrong, ok_wrong F_wrong T⟩⟩
  have d_tog : Is P w K mg base 1 "together" ["some"] spTog := ⟨⟨f_tog, _, PySem.W.mg_of X G a_tog, k_tog, b_tog, ok_tog F_tog T⟩⟩
  have d_cof : Is P w K mg base 1 "cost_of" ["polder", "plan"] (spCof K C) := ⟨⟨f_cof, _, PySem.W.mg_of X G a_cof, k_cof, b_cof, ok_cof F_cof T⟩⟩
  have d_calls : Is P w K mg base 1 "calls_in" ["calls"] (spCalls K) := ⟨⟨f_calls, _, PySem.W.mg_of X G a_calls, k_calls, b_calls, ok_calls F_calls T⟩⟩
  have d_choice : Is P w K mg base 2 "choice" ["polder", "hour", "before", "pumped", "later"] (spChoice C) := ⟨⟨f_choice, _, PySem.W.mg_of X G a_choice, k_choice, b_choice, ok_choice F_choice T d_hb d_may⟩⟩
  have d_choices : Is P w K mg base 3 "choices" ["polder", "hour", "before", "later"] (spChoices C) := ⟨⟨f_choices, _, PySem.W.mg_of X G a_choices, k_choices, b_choices, ok_choices F_choices T d_choice⟩⟩
  have d_rowa : Is P w K mg base 4 "row_ahead" ["polder", "hour", "later"] (spRowA C) := ⟨⟨f_rowa, _, PySem.W.mg_of X G a_rowa, k_rowa, b_rowa, ok_rowa F_rowa T d_choices d_tog⟩⟩
  have d_rows : Is P w K mg base 5 "rows_of" ["polder"] (spRows C) := ⟨⟨f_rows, _, PySem.W.mg_of X G a_rows, k_rows, b_rows, ok_rows F_rows T d_rowb m_many d_rowa⟩⟩
  have d_earl : Is P w K mg base 2 "earliest" ["polder", "rows"] (spEarl C) := ⟨⟨f_earl, _, PySem.W.mg_of X G a_earl, k_earl, b_earl, ok_earl F_earl T m_many d_hb⟩⟩
  have d_best : Is P w K mg base 6 "best_told" ["polder"] (spBest C) := ⟨⟨f_best, _, PySem.W.mg_of X G a_best, k_best, b_best, ok_best F_best T d_rows d_earl⟩⟩
  have d_can : Is P w K mg base 2 "can_be" ["polder", "high", "pumps"] (spCan C) := ⟨⟨f_can, _, PySem.W.mg_of X G a_can, k_can, b_can, ok_can F_can T d_hsb⟩⟩
  have d_need : Is P w K mg base 3 "needed" ["polder"] (spNeed C) := ⟨⟨f_need, _, PySem.W.mg_of X G a_need, k_need, b_need, ok_need F_need T d_can⟩⟩
  have d_strong : Is P w K mg base 3 "strong_enough" ["polder"] (spStrong C) := ⟨⟨f_strong, _, PySem.W.mg_of X G a_strong, k_strong, b_strong, ok_strong F_strong T d_can⟩⟩
  have d_hof : Is P w K mg base 2 "heights_of" ["polder", "plan"] (spHof K C) := ⟨⟨f_hof, _, PySem.W.mg_of X G a_hof, k_hof, b_hof, ok_hof F_hof T d_hb⟩⟩
  have d_wof : Is P w K mg base 3 "wrongs_of" ["polder", "plan"] (spWof K C) := ⟨⟨f_wof, _, PySem.W.mg_of X G a_wof, k_wof, b_wof, ok_wof F_wof T d_hof d_wrong⟩⟩
  have d_chk : Is P w K mg base 4 "checked" ["polder", "plan"] (spChk K C) := ⟨⟨f_chk, _, PySem.W.mg_of X G a_chk, k_chk, b_chk, ok_chk F_chk T m_many d_wof d_cof d_hof⟩⟩
  have d_are : Is P w K mg base 2 "are_heights" ["stands", "low", "high"] spAre := ⟨⟨f_are, _, PySem.W.mg_of X G a_are, k_are, b_are, ok_are F_are T d_within⟩⟩
  have d_begun : Is P w K mg base 3 "begun" ["polder", "stands", "low", "high", "pumps"] (spBegun C) := ⟨⟨f_begun, _, PySem.W.mg_of X G a_begun, k_begun, b_begun, ok_begun F_begun T d_are d_within m_begin⟩⟩
  have d_hour : Is P w K mg base 2 "hour_put" ["polder", "rain", "cost"] (spHour C) := ⟨⟨f_hour, _, PySem.W.mg_of X G a_hour, k_hour, b_hour, ok_hour F_hour T d_within m_many m_put⟩⟩
  have d_ansd : Is P w K mg base 7 "answered" ["polder", "call", "numbers"] (spAnsd K C) := ⟨⟨f_ansd, _, PySem.W.mg_of X G a_ansd, k_ansd, b_ansd, ok_ansd F_ansd T d_begun d_hour d_chk d_best d_need d_strong⟩⟩
  exact ok_ans F_ans T ⟨mk, a_init, i_init, kc⟩ (PySem.W.mg_of X G aC) (ok_init F_init T) b_init d_calls d_ansd
end PP
open PySem PySem.W PyProof.Rows
set_option maxRecDepth 100000 in
set_option maxHeartbeats 8000000 in
theorem PySem.Challenge.cw_polderpumps_s01_answers_holds : PySem.Challenge.rw_polderpumps_s01_answers.Holds := by
  w_on; k_headS; (case hw => exact ⟨[.list [.int 3, .int 0, .int 0]], by decide +kernel, by decide +kernel⟩)
  k_fillS
  refine L2.walk_specK (r := PySem.Challenge.rw_polderpumps_s01_answers) (k := 8) (CX := L2.CX0) (ps := ["calls"]) (sp := PP.spAns) (by decide +kernel) rfl rfl ⟨rfl, by decide, by decide⟩ (fun w h Y => PySem.W.kIn_of Y) ?F ?S (fun _ _ _ _ z => z)
  case F =>
    intro w mg fa h Y KX G hmg
    refine' PP.all_mk KX G hmg ?aC ?a_within ?l_within ?c_within ?k_within ?a_hb ?l_hb ?c_hb ?k_hb ?a_may ?l_may ?c_may ?k_may ?a_rowb ?l_rowb ?c_rowb ?k_rowb ?a_hsb ?l_hsb ?c_hsb ?k_hsb ?a_wrong ?l_wrong ?c_wrong ?k_wrong ?a_tog ?l_tog ?c_tog ?k_tog ?a_cof ?l_cof ?c_cof ?k_cof ?a_calls ?l_calls ?c_calls ?k_calls ?a_choice ?l_choice ?c_choice ?k_choice ?a_choices ?l_choices ?c_choices ?k_choices ?a_rowa ?l_rowa ?c_rowa ?k_rowa ?a_rows ?l_rows ?c_rows ?k_rows ?a_earl ?l_earl ?c_earl ?k_earl ?a_best ?l_best ?c_best ?k_best ?a_can ?l_can ?c_can ?k_can ?a_need ?l_need ?c_need ?k_need ?a_strong ?l_strong ?c_strong ?k_strong ?a_hof ?l_hof ?c_hof ?k_hof ?a_wof ?l_wof ?c_wof ?k_wof ?a_chk ?l_chk ?c_chk ?k_chk ?a_are ?l_are ?c_are ?k_are ?a_begun ?l_begun ?c_begun ?k_begun ?a_hour ?l_hour ?c_hour ?k_hour ?a_ansd ?l_ansd ?c_ansd ?k_ansd ?a_many ?i_many ?l_many ?c_many ?k_many ?a_put ?i_put ?l_put ?c_put ?k_put ?a_begin ?i_begin ?l_begin ?c_begin ?k_begin ?a_init ?i_init ?l_init ?c_init ?k_init ?a_ans ?l_ans ?c_ans ?k_ans ?v_0 ?v_1 ?v_2 ?v_3 ?v_4 ?v_5 ?v_6 ?v_7 ?v_8 ?v_9 ?v_10 ?v_11 ?v_12 ?v_13 ?v_14 ?v_15 ?v_16 ?z_len ?z_range ?z_min ?z_max ?z_sum ?z_zip ?z_reversed ?pg ?hd ?po ?sa ?mk ?kc ?nS ?nL ?nH ?nP ?nR ?nC
    (case aC => k_is)
    (case a_within => k_is)
    (case l_within => k_is)
    (case c_within => k_is)
    (case k_within => k_is)
    (case a_hb => k_is)
    (case l_hb => k_is)
    (case c_hb => k_is)
    (case k_hb => k_is)
    (case a_may => k_is)
    (case l_may => k_is)
    (case c_may => k_is)
    (case k_may => k_is)
    (case a_rowb => k_is)
    (case l_rowb => k_is)
    (case c_rowb => k_is)
    (case k_rowb => k_is)
    (case a_hsb => k_is)
    (case l_hsb => k_is)
    (case c_hsb => k_is)
    (case k_hsb => k_is)
    (case a_wrong => k_is)
    (case l_wrong => k_is)
    (case c_wrong => k_is)
    (case k_wrong => k_is)
    (case a_tog => k_is)
    (case l_tog => k_is)
    (case c_tog => k_is)
    (case k_tog => k_is)
    (case a_cof => k_is)
    (case l_cof => k_is)
    (case c_cof => k_is)
    (case k_cof => k_is)
    (case a_calls => k_is)
    (case l_calls => k_is)
    (case c_calls => k_is)
    (case k_calls => k_is)
    (case a_choice => k_is)
    (case l_choice => k_is)
    (case c_choice => k_is)
    (case k_choice => k_is)
    (case a_choices => k_is)
    (case l_choices => k_is)
    (case c_choices => k_is)
    (case k_choices => k_is)
    (case a_rowa => k_is)
    (case l_rowa => k_is)
    (case c_rowa => k_is)
    (case k_rowa => k_is)
    (case a_rows => k_is)
    (case l_rows => k_is)
    (case c_rows => k_is)
    (case k_rows => k_is)
    (case a_earl => k_is)
    (case l_earl => k_is)
    (case c_earl => k_is)
    (case k_earl => k_is)
    (case a_best => k_is)
    (case l_best => k_is)
    (case c_best => k_is)
    (case k_best => k_is)
    (case a_can => k_is)
    (case l_can => k_is)
    (case c_can => k_is)
    (case k_can => k_is)
    (case a_need => k_is)
    (case l_need => k_is)
    (case c_need => k_is)
    (case k_need => k_is)
    (case a_strong => k_is)
    (case l_strong => k_is)
    (case c_strong => k_is)
    (case k_strong => k_is)
    (case a_hof => k_is)
    (case l_hof => k_is)
    (case c_hof => k_is)
    (case k_hof => k_is)
    (case a_wof => k_is)
    (case l_wof => k_is)
    (case c_wof => k_is)
    (case k_wof => k_is)
    (case a_chk => k_is)
    (case l_chk => k_is)
    (case c_chk => k_is)
    (case k_chk => k_is)
    (case a_are => k_is)
    (case l_are => k_is)
    (case c_are => k_is)
    (case k_are => k_is)
    (case a_begun => k_is)
    (case l_begun => k_is)
    (case c_begun => k_is)
    (case k_begun => k_is)
    (case a_hour => k_is)
    (case l_hour => k_is)
    (case c_hour => k_is)
    (case k_hour => k_is)
    (case a_ansd => k_is)
    (case l_ansd => k_is)
    (case c_ansd => k_is)
    (case k_ansd => k_is)
    (case a_many => k_is)
    (case i_many => k_is)
    (case l_many => k_is)
    (case c_many => k_is)
    (case k_many => k_is)
    (case a_put => k_is)
    (case i_put => k_is)
    (case l_put => k_is)
    (case c_put => k_is)
    (case k_put => k_is)
    (case a_begin => k_is)
    (case i_begin => k_is)
    (case l_begin => k_is)
    (case c_begin => k_is)
    (case k_begin => k_is)
    (case a_init => k_is)
    (case i_init => k_is)
    (case l_init => k_is)
    (case c_init => k_is)
    (case k_init => k_is)
    (case a_ans => k_is)
    (case l_ans => k_is)
    (case c_ans => k_is)
    (case k_ans => k_is)
    (case v_0 => k_is)
    (case v_1 => k_is)
    (case v_2 => k_is)
    (case v_3 => k_is)
    (case v_4 => k_is)
    (case v_5 => k_is)
    (case v_6 => k_is)
    (case v_7 => k_is)
    (case v_8 => k_is)
    (case v_9 => k_is)
    (case v_10 => k_is)
    (case v_11 => k_is)
    (case v_12 => k_is)
    (case v_13 => k_is)
    (case v_14 => k_is)
    (case v_15 => k_is)
    (case v_16 => k_is)
    (case z_len => k_is)
    (case z_range => k_is)
    (case z_min => k_is)
    (case z_max => k_is)
    (case z_sum => k_is)
    (case z_zip => k_is)
    (case z_reversed => k_is)
    (case pg => k_is)
    (case hd => k_is)
    (case po => k_is)
    (case sa => k_is)
    (case mk => k_is)
    (case kc => k_is)
    (case nS => k_is)
    (case nL => k_is)
    (case nH => k_is)
    (case nP => k_is)
    (case nR => k_is)
    (case nC => k_is)
  case S =>
    intro K H xs a hO hwi hask hx
    cases hx with
    | cons h1 h2 =>
      cases h2
      cases h1 with
      | lst hs ha =>
        have e := L2.ints_dw a.1 _ ha
        subst e
        have q : ((Codec.inLen 0 30000 a.1 && a.1.all (Codec.inInt 0 4294967295)) && true) = true := hwi
        rw [Bool.and_eq_true, Bool.and_eq_true] at q
        exact ⟨_, a.1, rfl, hs, (Codec.inNat_iff.mp q.1.1).2, hask, fun H' p hp => .lst (L2.SqL.of hp) (L2.dw_ints _)⟩
#print axioms PySem.Challenge.cw_polderpumps_s01_answers_holds
