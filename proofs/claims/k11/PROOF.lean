import PyProof.Rows.All
import Wide.All
import OpenK.AllK
import Wide.FinOn
import HandS.ForMost
import HandS.IsInst
import HandS.Deep
import HandS.TupLen
import HandS.Zip
import HandS.Keys
import HandS.DictTup
import HandS.Walk
import KE.SortData
import KE.KDictZip
import KE.GoesEnum
import HandS.MapObj
import HandS.Codes
import PySem.Challenge.RW_everypiece_k11_whole_order_and_lengths
set_option Elab.async false
set_option linter.all false
set_option maxRecDepth 100000
set_option maxHeartbeats 4000000
/-! The plain law: texts as lists of signs, places, endings, their order by doubled beginnings, common beginnings. No program here. -/
namespace KM
abbrev Tx := List Nat
abbrev Pl := Nat × Nat

/-! ### places -/
def row (n m : Nat) : List Pl := (List.range m).map fun k => (n, k)
def placesFrom : Nat → List Tx → List Pl
  | _, [] => []
  | n, t :: r => row n t.length ++ placesFrom (n + 1) r
def places (ts : List Tx) : List Pl := placesFrom 0 ts
def txt (ts : List Tx) (n : Nat) : Tx := ts.getD n []
def suf (ts : List Tx) (p : Pl) : Tx := (txt ts p.1).drop p.2
/-- p is a place of ts -/
def IsPl (ts : List Tx) (p : Pl) : Prop := p.1 < ts.length ∧ p.2 < (txt ts p.1).length
theorem mem_row {n m : Nat} {p : Pl} : p ∈ row n m ↔ p.1 = n ∧ p.2 < m := by
  unfold row
  rw [List.mem_map]
  constructor
  · rintro ⟨k, hk, rfl⟩
    exact ⟨rfl, List.mem_range.mp hk⟩
  · rintro ⟨rfl, h⟩
    exact ⟨p.2, List.mem_range.mpr h, rfl⟩
theorem mem_placesFrom {p : Pl} : ∀ {ts : List Tx} {n : Nat}, p ∈ placesFrom n ts ↔ ∃ t, n ≤ p.1 ∧ ts[p.1 - n]? = some t ∧ p.2 < t.length
  | [], n => by simp [placesFrom]
  | t :: r, n => by
    show p ∈ row n t.length ++ placesFrom (n + 1) r ↔ _
    rw [List.mem_append, mem_row, mem_placesFrom]
    constructor
    · rintro (⟨h1, h2⟩ | ⟨u, h1, h2, h3⟩)
      · refine ⟨t, by omega, ?_, h2⟩
        rw [h1, Nat.sub_self] <;> rfl
      · refine ⟨u, by omega, ?_, h3⟩
        rw [show p.1 - n = (p.1 - (n + 1)) + 1 by omega]
        exact h2
    · rintro ⟨u, h1, h2, h3⟩
      by_cases e : p.1 = n
      · rw [e, Nat.sub_self] at h2
        have e2 : t = u := Option.some.inj h2
        exact .inl ⟨e, by rw [e2]; exact h3⟩
      · refine .inr ⟨u, by omega, ?_, h3⟩
        rw [show p.1 - n = (p.1 - (n + 1)) + 1 by omega] at h2
        exact h2
theorem mem_places {ts : List Tx} {p : Pl} : p ∈ places ts ↔ IsPl ts p := by
  unfold places
  rw [mem_placesFrom]
  unfold IsPl txt
  constructor
  · rintro ⟨t, _, h2, h3⟩
    rw [Nat.sub_zero] at h2
    obtain ⟨hl, _⟩ := List.getElem?_eq_some_iff.mp h2
    refine ⟨hl, ?_⟩
    rw [List.getD_eq_getElem?_getD, h2]
    exact h3
  · rintro ⟨h1, h2⟩
    refine ⟨_, Nat.zero_le _, (by rw [Nat.sub_zero]; exact List.getElem?_eq_getElem h1), ?_⟩
    rw [List.getD_eq_getElem?_getD, List.getElem?_eq_getElem h1] at h2
    exact h2
theorem suf_ne {ts : List Tx} {p : Pl} (h : IsPl ts p) : suf ts p ≠ [] := by
  intro e
  have := congrArg List.length e
  unfold suf at this
  rw [List.length_drop, List.length_nil] at this
  have := h.2
  omega
/-- the pairs' order -/
def plt (p q : Pl) : Prop := p.1 < q.1 ∨ (p.1 = q.1 ∧ p.2 < q.2)
instance (p q : Pl) : Decidable (plt p q) := by unfold plt; infer_instance
theorem rise_row (n m : Nat) : (row n m).Pairwise plt := by
  unfold row
  rw [List.pairwise_map]
  exact (List.pairwise_lt_range (n := m)).imp fun {a b} h => .inr ⟨rfl, h⟩
theorem rise_from : ∀ (ts : List Tx) (n : Nat), (placesFrom n ts).Pairwise plt
  | [], n => List.Pairwise.nil
  | t :: r, n => by
    refine List.pairwise_append.mpr ⟨rise_row n _, rise_from r (n + 1), fun a ha b hb => ?_⟩
    obtain ⟨_, h1, _⟩ := mem_placesFrom.mp hb
    exact .inl (by rw [(mem_row.mp ha).1]; omega)
theorem rise_places (ts : List Tx) : (places ts).Pairwise plt := rise_from ts 0
theorem plt_irrefl (p : Pl) : ¬ plt p p := by unfold plt; omega
theorem places_nodup (ts : List Tx) : (places ts).Nodup := by
  refine List.Pairwise.imp ?_ (rise_places ts)
  intro a b h e
  rw [e] at h
  exact plt_irrefl b h
theorem length_from : ∀ (ts : List Tx) (n : Nat), (placesFrom n ts).length = (ts.map List.length).sum
  | [], n => rfl
  | t :: r, n => by
    show (row n t.length ++ placesFrom (n + 1) r).length = t.length + (r.map List.length).sum
    rw [List.length_append, length_from r, row, List.length_map, List.length_range]
theorem length_places (ts : List Tx) : (places ts).length = (ts.map List.length).sum := length_from ts 0
theorem from_snoc : ∀ (ts : List Tx) (n : Nat) (t : Tx), placesFrom n (ts ++ [t]) = placesFrom n ts ++ row (n + ts.length) t.length
  | [], n, t => by simp [placesFrom]
  | u :: r, n, t => by
    show row n u.length ++ placesFrom (n + 1) (r ++ [t]) = (row n u.length ++ placesFrom (n + 1) r) ++ row (n + (r.length + 1)) t.length
    rw [from_snoc r, List.append_assoc, show n + 1 + r.length = n + (r.length + 1) by omega]
theorem places_snoc (ts : List Tx) (t : Tx) : places (ts ++ [t]) = places ts ++ row ts.length t.length := by
  unfold places
  rw [from_snoc, Nat.zero_add]
theorem places_take {ts : List Tx} {i : Nat} {t : Tx} (h : ts[i]? = some t) : places (ts.take (i + 1)) = places (ts.take i) ++ row i t.length := by
  obtain ⟨hl, _⟩ := List.getElem?_eq_some_iff.mp h
  rw [List.take_add_one, h]
  show places (ts.take i ++ [t]) = _
  rw [places_snoc, List.length_take, Nat.min_eq_left (Nat.le_of_lt hl)]

/-! ### lists of signs in order -/
theorem lt_or (a b : Tx) : a < b ∨ a = b ∨ b < a := by
  by_cases h : a < b
  · exact .inl h
  · by_cases h2 : b < a
    · exact .inr (.inr h2)
    · exact .inr (.inl (List.le_antisymm (List.not_lt.mp h2) (List.not_lt.mp h)))
theorem lt_irr (a : Tx) : ¬ a < a := List.lt_irrefl a
theorem lt_tr {a b c : Tx} (h : a < b) (k : b < c) : a < c := List.lt_trans h k
theorem lt_asym {a b : Tx} (h : a < b) : ¬ b < a := fun k => lt_irr a (lt_tr h k)
theorem nil_lt {a : Tx} : ([] : Tx) < a ↔ a ≠ [] := by
  cases a with
  | nil => simp
  | cons x r => simp
theorem cons_lt {x y : Nat} {a b : Tx} : x :: a < y :: b ↔ x < y ∨ (x = y ∧ a < b) := List.cons_lt_cons_iff
/-- the order by the first m signs, and then by the m behind them -/
theorem lt_take : ∀ (m k : Nat) (a b : Tx), a.take (m + k) < b.take (m + k) ↔ a.take m < b.take m ∨ (a.take m = b.take m ∧ (a.drop m).take k < (b.drop m).take k)
  | 0, k, a, b => by simp [lt_irr]
  | m + 1, k, [], b => by
    cases b with
    | nil => simp [lt_irr]
    | cons y b =>
      rw [show m + 1 + k = (m + k) + 1 by omega]
      simp [nil_lt]
  | m + 1, k, x :: a, [] => by
    rw [show m + 1 + k = (m + k) + 1 by omega]
    simp
  | m + 1, k, x :: a, y :: b => by
    rw [show m + 1 + k = (m + k) + 1 by omega]
    simp only [List.take_succ_cons, List.drop_succ_cons, cons_lt, List.cons.injEq]
    rw [lt_take m k a b]
    constructor
    · rintro (h | ⟨h, h2 | ⟨h2, h3⟩⟩)
      · exact .inl (.inl h)
      · exact .inl (.inr ⟨h, h2⟩)
      · exact .inr ⟨⟨h, h2⟩, h3⟩
    · rintro ((h | ⟨h, h2⟩) | ⟨⟨h, h2⟩, h3⟩)
      · exact .inl h
      · exact .inr ⟨h, .inl h2⟩
      · exact .inr ⟨h, .inr ⟨h2, h3⟩⟩

/-! ### ranks -/
/-- rs tells the order of the first m signs of the endings at ps -/
structure Rk (ts : List Tx) (ps : List Pl) (m : Nat) (rs : List Int) : Prop where
  len : rs.length = ps.length
  pos : ∀ (i : Nat) (r : Int), rs[i]? = some r → 0 ≤ r
  ord : ∀ (i j : Nat) (p q : Pl) (r s : Int), ps[i]? = some p → ps[j]? = some q → rs[i]? = some r → rs[j]? = some s → (r < s ↔ (suf ts p).take m < (suf ts q).take m)
theorem Rk.eq {ts : List Tx} {ps : List Pl} {m : Nat} {rs : List Int} (k : Rk ts ps m rs) {i j : Nat} {p q : Pl} {r s : Int} (h1 : ps[i]? = some p) (h2 : ps[j]? = some q) (h3 : rs[i]? = some r) (h4 : rs[j]? = some s) :
    r = s ↔ (suf ts p).take m = (suf ts q).take m := by
  have a := k.ord i j p q r s h1 h2 h3 h4
  have b := k.ord j i q p s r h2 h1 h4 h3
  constructor
  · intro e
    rcases lt_or ((suf ts p).take m) ((suf ts q).take m) with h | h | h
    · have := a.mpr h; omega
    · exact h
    · have := b.mpr h; omega
  · intro e
    have na : ¬ r < s := fun h => lt_irr _ (by have := a.mp h; rw [e] at this; exact this)
    have nb : ¬ s < r := fun h => lt_irr _ (by have := b.mp h; rw [e] at this; exact this)
    omega
/-- the pair's order -/
def zlt (a b : Int × Int) : Prop := a.1 < b.1 ∨ (a.1 = b.1 ∧ a.2 < b.2)
/-- the place m signs behind, by its number among ps -/
def tailOf (ps : List Pl) (m : Nat) (p : Pl) : Option Nat := if (p.1, p.2 + m) ∈ ps then some (ps.idxOf (p.1, p.2 + m)) else none
theorem tailOf_some {ps : List Pl} {m : Nat} {p : Pl} {j : Nat} (h : tailOf ps m p = some j) : ps[j]? = some (p.1, p.2 + m) := by
  unfold tailOf at h
  by_cases hm : (p.1, p.2 + m) ∈ ps
  · rw [if_pos hm] at h
    have e : ps.idxOf (p.1, p.2 + m) = j := Option.some.inj h
    have hl : ps.idxOf (p.1, p.2 + m) < ps.length := List.idxOf_lt_length_of_mem hm
    rw [← e, List.getElem?_eq_getElem hl]
    exact congrArg some (List.getElem_idxOf hl)
  · rw [if_neg hm] at h
    cases h
/-- the second half of the key -/
def tailRank (ps : List Pl) (m : Nat) (rs : List Int) (p : Pl) : Int := match tailOf ps m p with
  | none => -1
  | some j => rs.getD j 0
/-- the second halves tell the order of the next m signs -/
theorem tail_ord {ts : List Tx} {m : Nat} {rs : List Int} (k : Rk ts (places ts) m rs) {p q : Pl} (hp : IsPl ts p) (hq : IsPl ts q) (hm : 0 < m) :
    tailRank (places ts) m rs p < tailRank (places ts) m rs q ↔ ((suf ts p).drop m).take m < ((suf ts q).drop m).take m := by
  have tl : ∀ u : Pl, IsPl ts u → (tailOf (places ts) m u = none ∧ (suf ts u).drop m = []) ∨ ∃ j r, tailOf (places ts) m u = some j ∧ rs[j]? = some r ∧ (places ts)[j]? = some (u.1, u.2 + m) ∧ suf ts (u.1, u.2 + m) = (suf ts u).drop m ∧ (suf ts u).drop m ≠ [] := by
    intro u hu
    have es : (suf ts u).drop m = suf ts (u.1, u.2 + m) := by
      unfold suf
      rw [List.drop_drop]
    cases e : tailOf (places ts) m u with
    | none =>
      refine .inl ⟨rfl, ?_⟩
      unfold tailOf at e
      by_cases hm : (u.1, u.2 + m) ∈ places ts
      · rw [if_pos hm] at e
        cases e
      · rw [mem_places] at hm
        rw [es]
        unfold suf
        refine List.drop_eq_nil_of_le ?_
        have h1 := hu.1
        unfold IsPl at hm
        simp only [not_and] at hm
        have := hm h1
        show (txt ts u.1).length ≤ u.2 + m
        omega
    | some j =>
      have hj := tailOf_some e
      obtain ⟨hl, _⟩ := List.getElem?_eq_some_iff.mp hj
      have hr : j < rs.length := by rw [k.len]; exact hl
      refine .inr ⟨j, rs[j], rfl, List.getElem?_eq_getElem hr, hj, es.symm, ?_⟩
      rw [es]
      exact suf_ne (mem_places.mp (List.mem_of_getElem? hj))
  have getd : ∀ {j : Nat} {r : Int}, rs[j]? = some r → rs.getD j 0 = r := fun {j r} h => by rw [List.getD_eq_getElem?_getD, h]; rfl
  have tne : ∀ {a : Tx}, a ≠ [] → a.take m ≠ [] := fun {a} h e => by
    cases a with
    | nil => exact h rfl
    | cons x r =>
      obtain ⟨m', rfl⟩ : ∃ m', m = m' + 1 := ⟨m - 1, by omega⟩
      simp at e
  rcases tl p hp with ⟨e1, d1⟩ | ⟨i, r, e1, hr, hi, hs1, n1⟩ <;> rcases tl q hq with ⟨e2, d2⟩ | ⟨j, s, e2, hs, hj, hs2, n2⟩
  · have t1 : tailRank (places ts) m rs p = -1 := by unfold tailRank; rw [e1]
    have t2 : tailRank (places ts) m rs q = -1 := by unfold tailRank; rw [e2]
    rw [t1, t2, d1, d2]
    simp
  · have t1 : tailRank (places ts) m rs p = -1 := by unfold tailRank; rw [e1]
    have t2 : tailRank (places ts) m rs q = s := by unfold tailRank; rw [e2]; exact getd hs
    rw [t1, t2, d1]
    have := k.pos j s hs
    simp only [List.take_nil, nil_lt]
    exact ⟨fun _ => tne n2, fun _ => by omega⟩
  · have t1 : tailRank (places ts) m rs p = r := by unfold tailRank; rw [e1]; exact getd hr
    have t2 : tailRank (places ts) m rs q = -1 := by unfold tailRank; rw [e2]
    rw [t1, t2, d2]
    have := k.pos i r hr
    simp only [List.take_nil]
    exact ⟨fun h => by omega, fun h => absurd h (by simp)⟩
  · have t1 : tailRank (places ts) m rs p = r := by unfold tailRank; rw [e1]; exact getd hr
    have t2 : tailRank (places ts) m rs q = s := by unfold tailRank; rw [e2]; exact getd hs
    rw [t1, t2, ← hs1, ← hs2]
    exact k.ord i j _ _ r s hi hj hr hs
/-- numbers that tell the order of keys -/
structure Numb {κ : Type} (lt : κ → κ → Prop) (ks : List κ) (rs : List Int) : Prop where
  len : rs.length = ks.length
  pos : ∀ (i : Nat) (r : Int), rs[i]? = some r → 0 ≤ r
  ord : ∀ (i j : Nat) (a b : κ) (r s : Int), ks[i]? = some a → ks[j]? = some b → rs[i]? = some r → rs[j]? = some s → (r < s ↔ lt a b)
/-- the keys of a round -/
def keyOf (ps : List Pl) (m : Nat) (rs : List Int) (i : Nat) (p : Pl) : Int × Int := (rs.getD i 0, tailRank ps m rs p)
def keysOf (ps : List Pl) (m : Nat) (rs : List Int) : List (Int × Int) := (rs.zip ps).map fun z => (z.1, tailRank ps m rs z.2)
theorem rk_next {ts : List Tx} {m : Nat} {rs rs' : List Int} (k : Rk ts (places ts) m rs) (n : Numb zlt (keysOf (places ts) m rs) rs') (hm : 0 < m) : Rk ts (places ts) (2 * m) rs' := by
  have hz : (keysOf (places ts) m rs).length = (places ts).length := by
    unfold keysOf
    rw [List.length_map, List.length_zip, k.len, Nat.min_self]
  have at_ : ∀ (i : Nat) (p : Pl), (places ts)[i]? = some p → ∃ r, rs[i]? = some r ∧ (keysOf (places ts) m rs)[i]? = some (r, tailRank (places ts) m rs p) := fun i p h => by
    obtain ⟨hl, _⟩ := List.getElem?_eq_some_iff.mp h
    have hr : i < rs.length := by rw [k.len]; exact hl
    refine ⟨rs[i], List.getElem?_eq_getElem hr, ?_⟩
    unfold keysOf
    have e : (rs.zip (places ts))[i]? = some (rs[i], p) := List.getElem?_zip_eq_some.mpr ⟨List.getElem?_eq_getElem hr, h⟩
    rw [List.getElem?_map, e]
    rfl
  refine ⟨by rw [n.len, hz], n.pos, fun i j p q r s h1 h2 h3 h4 => ?_⟩
  obtain ⟨a, ha, ka⟩ := at_ i p h1
  obtain ⟨b, hb, kb⟩ := at_ j q h2
  rw [n.ord i j _ _ r s ka kb h3 h4, show 2 * m = m + m by omega, lt_take]
  have o := k.ord i j p q a b h1 h2 ha hb
  have e := k.eq h1 h2 ha hb
  have t := tail_ord k (mem_places.mp (List.mem_of_getElem? h1)) (mem_places.mp (List.mem_of_getElem? h2)) hm
  show (a < b ∨ (a = b ∧ tailRank (places ts) m rs p < tailRank (places ts) m rs q)) ↔ _
  rw [o, e, t]
/-- the first signs -/
theorem rk_first {ts : List Tx} {rs : List Int} (n : Numb (fun a b : Tx => a < b) ((places ts).map fun p => (suf ts p).take 1) rs) : Rk ts (places ts) 1 rs := by
  refine ⟨by rw [n.len, List.length_map], n.pos, fun i j p q r s h1 h2 h3 h4 => ?_⟩
  exact n.ord i j _ _ r s (by rw [List.getElem?_map, h1]; rfl) (by rw [List.getElem?_map, h2]; rfl) h3 h4
/-- when m is no less than any text -/
theorem rk_whole {ts : List Tx} {m : Nat} {rs : List Int} (k : Rk ts (places ts) m rs) (hm : ∀ t ∈ ts, t.length ≤ m) {i j : Nat} {p q : Pl} {r s : Int} (h1 : (places ts)[i]? = some p) (h2 : (places ts)[j]? = some q) (h3 : rs[i]? = some r) (h4 : rs[j]? = some s) :
    (r < s ↔ suf ts p < suf ts q) ∧ (r = s ↔ suf ts p = suf ts q) := by
  have all : ∀ u : Pl, IsPl ts u → (suf ts u).take m = suf ts u := fun u hu => by
    refine List.take_of_length_le ?_
    unfold suf
    rw [List.length_drop]
    have : (txt ts u.1).length ≤ m := hm _ (by unfold txt; rw [List.getD_eq_getElem?_getD, List.getElem?_eq_getElem hu.1]; exact List.getElem_mem hu.1)
    omega
  have a := k.ord i j p q r s h1 h2 h3 h4
  have b := k.eq h1 h2 h3 h4
  rw [all p (mem_places.mp (List.mem_of_getElem? h1)), all q (mem_places.mp (List.mem_of_getElem? h2))] at a b
  exact ⟨a, b⟩

/-! ### numbering sorted keys -/
section
variable {κ : Type} [DecidableEq κ]
/-- D: the keys met so far, each once, rising -/
structure Met (lt : κ → κ → Prop) (l D : List κ) : Prop where
  rise : D.Pairwise lt
  mem : ∀ k, k ∈ D ↔ k ∈ l
theorem Met.nil (lt : κ → κ → Prop) : Met lt [] [] := ⟨List.Pairwise.nil, fun _ => Iff.rfl⟩
theorem Met.old {lt : κ → κ → Prop} {l D : List κ} {k : κ} (h : Met lt l D) (hk : k ∈ D) : Met lt (l ++ [k]) D := ⟨h.rise, fun x => by
  rw [List.mem_append, List.mem_singleton, h.mem]
  exact ⟨.inl, fun q => q.elim id fun e => by rw [e]; exact (h.mem k).mp hk⟩⟩
theorem Met.new {lt : κ → κ → Prop} {l D : List κ} {k : κ} (h : Met lt l D) (hk : ∀ x ∈ l, lt x k) : Met lt (l ++ [k]) (D ++ [k]) := ⟨List.pairwise_append.mpr ⟨h.rise, List.pairwise_singleton _ _, fun a ha b hb => by rw [List.mem_singleton.mp hb]; exact hk a ((h.mem a).mp ha)⟩, fun x => by
  rw [List.mem_append, List.mem_append, h.mem]⟩
theorem numb_of {lt : κ → κ → Prop} {ks D : List κ} (irr : ∀ a, ¬ lt a a) (asym : ∀ a b, lt a b → ¬ lt b a) (rise : D.Pairwise lt) (hm : ∀ k ∈ ks, k ∈ D) : Numb lt ks (ks.map fun k => (D.idxOf k : Int)) := by
  refine ⟨by rw [List.length_map], fun i r h => ?_, fun i j a b r s h1 h2 h3 h4 => ?_⟩
  · rw [List.getElem?_map] at h
    cases e : ks[i]? with
    | none => rw [e] at h; cases h
    | some k =>
      rw [e] at h
      have e2 : (D.idxOf k : Int) = r := Option.some.inj h
      omega
  · rw [List.getElem?_map, h1] at h3
    rw [List.getElem?_map, h2] at h4
    have er : (D.idxOf a : Int) = r := Option.some.inj h3
    have es : (D.idxOf b : Int) = s := Option.some.inj h4
    have la := List.idxOf_lt_length_of_mem (hm a (List.mem_of_getElem? h1))
    have lb := List.idxOf_lt_length_of_mem (hm b (List.mem_of_getElem? h2))
    have ga := List.getElem_idxOf la
    have gb := List.getElem_idxOf lb
    have up : ∀ i j (hi : i < D.length) (hj : j < D.length), i < j → lt D[i] D[j] := fun i j hi hj h => List.pairwise_iff_getElem.mp rise i j hi hj h
    rw [← er, ← es]
    constructor
    · intro h
      have := up _ _ la lb (by omega)
      rw [ga, gb] at this
      exact this
    · intro h
      rcases Nat.lt_trichotomy (D.idxOf a) (D.idxOf b) with q | q | q
      · omega
      · exfalso
        have e : a = b := by
          rw [← ga, ← gb]
          simp only [q]
        rw [e] at h
        exact irr _ h
      · exfalso
        have := up _ _ lb la q
        rw [ga, gb] at this
        exact asym _ _ h this
end

/-! ### what two strings have in common -/
def lcp : Tx → Tx → Nat
  | x :: a, y :: b => if x = y then lcp a b + 1 else 0
  | _, _ => 0
theorem lcp_le : ∀ a b : Tx, lcp a b ≤ min a.length b.length
  | [], b => by simp [lcp]
  | x :: a, [] => by simp [lcp]
  | x :: a, y :: b => by
    have := lcp_le a b
    unfold lcp
    split
    · rw [List.length_cons, List.length_cons]; omega
    · exact Nat.zero_le _
theorem lcp_comm : ∀ a b : Tx, lcp a b = lcp b a
  | [], [] => rfl
  | [], _ :: _ => rfl
  | _ :: _, [] => rfl
  | x :: a, y :: b => by
    unfold lcp
    rw [lcp_comm a b]
    by_cases h : x = y
    · rw [if_pos h, if_pos h.symm]
    · rw [if_neg h, if_neg (fun e => h e.symm)]
theorem lcp_self : ∀ a : Tx, lcp a a = a.length
  | [] => rfl
  | x :: a => by
    unfold lcp
    rw [if_pos rfl, lcp_self a]
    rfl
/-- one sign more -/
theorem lcp_more : ∀ (a b : Tx) (k : Nat) (x : Nat), k ≤ lcp a b → a[k]? = some x → b[k]? = some x → k + 1 ≤ lcp a b
  | [], b, k, x, _, h, _ => by simp at h
  | _ :: _, [], k, x, _, _, h => by simp at h
  | u :: a, v :: b, 0, x, _, h1, h2 => by
    have e1 : u = x := Option.some.inj h1
    have e2 : v = x := Option.some.inj h2
    unfold lcp
    rw [if_pos (e1.trans e2.symm)]
    omega
  | u :: a, v :: b, k + 1, x, h, h1, h2 => by
    unfold lcp at h ⊢
    by_cases e : u = v
    · rw [if_pos e] at h ⊢
      have := lcp_more a b k x (by omega) h1 h2
      omega
    · rw [if_neg e] at h
      omega
/-- unlike signs -/
theorem lcp_stop : ∀ (a b : Tx) (k : Nat) (x y : Nat), k ≤ lcp a b → a[k]? = some x → b[k]? = some y → x ≠ y → lcp a b = k
  | [], b, k, x, y, _, h, _, _ => by simp at h
  | _ :: _, [], k, x, y, _, _, h, _ => by simp at h
  | u :: a, v :: b, 0, x, y, _, h1, h2, hn => by
    have e1 : u = x := Option.some.inj h1
    have e2 : v = y := Option.some.inj h2
    unfold lcp
    rw [if_neg (by rw [e1, e2]; exact hn)]
  | u :: a, v :: b, k + 1, x, y, h, h1, h2, hn => by
    unfold lcp at h ⊢
    by_cases e : u = v
    · rw [if_pos e] at h ⊢
      rw [lcp_stop a b k x y (by omega) h1 h2 hn]
    · rw [if_neg e] at h
      omega
theorem lcp_end {a b : Tx} {k : Nat} (h : k ≤ lcp a b) (hk : min a.length b.length ≤ k) : lcp a b = k := by
  have := lcp_le a b
  omega
/-- of three in order -/
theorem lcp_three : ∀ a b c : Tx, ¬ b < a → ¬ c < b → lcp a c = min (lcp a b) (lcp b c)
  | [], b, c, _, _ => by simp [lcp]
  | x :: a, [], c, h, _ => absurd (by simp) h
  | x :: a, y :: b, [], _, h => absurd (by simp) h
  | x :: a, y :: b, z :: c, h1, h2 => by
    rw [cons_lt] at h1 h2
    simp only [not_or, not_and] at h1 h2
    unfold lcp
    by_cases e1 : x = y
    · by_cases e2 : y = z
      · rw [if_pos (e1.trans e2), if_pos e1, if_pos e2, lcp_three a b c (h1.2 e1.symm) (h2.2 e2.symm)]
        omega
      · rw [if_neg (by rw [e1]; exact e2), if_neg e2]
        omega
    · rw [if_neg (show ¬ x = z by omega), if_neg e1]
      omega
/-- in a list in order: the least of the neighbours' is that of the ends -/
theorem lcp_span {L : List Tx} (hs : L.Pairwise fun a b => ¬ b < a) {i : Nat} : ∀ {d : Nat} {a b : Tx}, L[i]? = some a → L[i + d + 1]? = some b →
    (∃ k x y, i < k ∧ k ≤ i + d + 1 ∧ L[k - 1]? = some x ∧ L[k]? = some y ∧ lcp x y = lcp a b) ∧ ∀ k x y, i < k → k ≤ i + d + 1 → L[k - 1]? = some x → L[k]? = some y → lcp a b ≤ lcp x y
  | 0, a, b, ha, hb => by
    refine ⟨⟨i + 1, a, b, by omega, by omega, by rw [Nat.add_sub_cancel]; exact ha, hb, rfl⟩, fun k x y h1 h2 hx hy => ?_⟩
    have e : k = i + 1 := by omega
    subst e
    rw [Nat.add_sub_cancel, ha] at hx
    have hb' : L[i + 1]? = some b := hb
    rw [hb'] at hy
    rw [Option.some.inj hx, Option.some.inj hy]
    exact Nat.le_refl _
  | d + 1, a, b, ha, hb => by
    obtain ⟨hl, _⟩ := List.getElem?_eq_some_iff.mp hb
    have hcl : i + d + 1 < L.length := by omega
    have hc : L[i + d + 1]? = some L[i + d + 1] := List.getElem?_eq_getElem hcl
    obtain ⟨⟨k, x, y, k1, k2, kx, ky, ke⟩, hle⟩ := lcp_span hs ha hc
    have hal : i < L.length := by omega
    have ord : ∀ i j (hi : i < L.length) (hj : j < L.length), i < j → ¬ L[j] < L[i] := fun i j hi hj h => List.pairwise_iff_getElem.mp hs i j hi hj h
    have ea : L[i] = a := by rw [List.getElem?_eq_getElem hal] at ha; exact Option.some.inj ha
    have eb : L[i + d + 1 + 1] = b := by
      have hb2 : L[i + d + 1 + 1]? = some b := hb
      rw [List.getElem?_eq_getElem (show i + d + 1 + 1 < L.length from hl)] at hb2; exact Option.some.inj hb2
    have three := lcp_three a L[i + d + 1] b (by rw [← ea]; exact ord i (i + d + 1) hal hcl (by omega)) (by rw [← eb]; exact ord (i + d + 1) (i + d + 1 + 1) hcl hl (by omega))
    refine ⟨?_, fun k x y h1 h2 hx hy => ?_⟩
    · by_cases hmin : lcp a L[i + d + 1] ≤ lcp L[i + d + 1] b
      · exact ⟨k, x, y, k1, by omega, kx, ky, by rw [ke, three]; omega⟩
      · refine ⟨i + d + 1 + 1, L[i + d + 1], b, by omega, by omega, by rw [Nat.add_sub_cancel]; exact hc, hb, by rw [three]; omega⟩
    · by_cases e : k = i + d + 1 + 1
      · subst e
        rw [Nat.add_sub_cancel, hc] at hx
        have hb2 : L[i + d + 1 + 1]? = some b := hb
        rw [hb2] at hy
        rw [← Option.some.inj hx, ← Option.some.inj hy, three]
        omega
      · have := hle k x y h1 (by omega) hx hy
        rw [three]
        omega
end KM

/-! Rules that the hand layer lacks: sorted of data of any length, sorted(zip(..)), enumerate(tuple), < of data, text * int. -/
namespace K11
open PySem PySem.Spec PyProof.Rows L2
open PySem.W (EachIs AllAlike Sortable dataLe dataLt alike)

/-! ### sorted(xs) of data -/
theorem each_of_vals : ∀ {zs : List (V × PyData)} {us : List Value}, Vals (zs.map Prod.fst) us → EachIs (fun v (z : V × PyData) => RelV z.1 v) us zs
  | [], _, r => by
    cases r
    exact .nil
  | z :: zs, _, r => by
    cases r with
    | cons h t => exact .cons h (each_of_vals t)
theorem vals_of_each {zs : List (V × PyData)} {us : List Value} (e : EachIs (fun v (z : V × PyData) => RelV z.1 v) us zs) : Vals (zs.map Prod.fst) us := by
  induction e with
  | nil => exact .nil
  | cons h _ ih => exact .cons h ih
/-- sorted(xs): zs pairs each item with what it reads as -/
def rSortedD (K : PySem.W.Frag) : List V → Hp → VK → Prop := fun vs H Q => ∃ (a : Addr) (zs : List (V × PyData)), vs = [V.ref a] ∧ SqL K H a (zs.map Prod.fst) ∧ (∀ z ∈ zs, Dp K H z.1 z.2) ∧
  AllAlike (zs.map Prod.snd) ∧ Sortable (zs.map Prod.snd) ∧ (∀ z ∈ zs, z.2.depth ≤ 8) ∧
  ∀ p, H p = none → Q (.ref p) (upd H p (.lst ((zs.mergeSort (dataLe false Prod.snd)).map Prod.fst)))
section
variable {X : Cx}
theorem cr_sortedD (hu : X.A.units + 64 < cLine) : CallR X (.builtin "sorted") (rSortedD X.K) := by
  intro pins s σ H vs us Q I r h
  obtain ⟨a, zs, rfl, hs, hd, hal, hk, hdp, q⟩ := h
  obtain ⟨its, rv, hl, hz⟩ := I.list hs
  obtain ⟨u, rfl, ru⟩ := vals1 r
  obtain rfl : u = Value.ref a := ru
  have e := each_of_vals rv
  have er : EachIs (fun v (z : V × PyData) => ∃ as, Reads s.heap v z.2 as) its zs := by
    refine PySem.W.EachIs.of_zip e.length fun p hp => ?_
    exact Dp.reads I p.2.2 p.2.1 p.1 (hd _ (List.of_mem_zip hp).2) (e.zip p hp)
  rw [List.length_map] at hz
  refine PySem.W.sorted_data (R := fun v (z : V × PyData) => RelV z.1 v) (enc := Prod.snd) hl.isList e er hal hk hz (fun z hm => ?_) fun out ho eo => ?_
  · have := hdp z hm
    omega
  · obtain ⟨n, hn⟩ := sortedAll_at s.heap its out.toArray
    refine ⟨.ref (s.heap.objs.size + 1), _, I.laid (t' := s.toks) (a := s.heap.objs.size + 1) (o := .lst ((zs.mergeSort (dataLe false Prod.snd)).map Prod.fst)) (fun b o x => sortedAll_old x) (Nat.le_succ _) ⟨?_, out, n, vals_of_each eo, hn⟩, rfl, q _ (I.hok.fresh (Nat.le_succ _))⟩
    rw [List.length_map, List.length_mergeSort]
    exact hz
end

/-! ### x < y of data -/
def rLtD (K : PySem.W.Frag) : R2 := fun x y H Q => ∃ d e, Dp K H x d ∧ Dp K H y e ∧ alike d e = true ∧ d ≠ .none ∧ d.depth ≤ 8 ∧ Q (.bl (dataLt d e)) H
theorem op_ltD {X : Cx} (hu : X.A.units + 64 < cLine) : OpR X (compareOp .Lt) (rLtD X.K) := by
  intro pins s σ H x y v u Q I rx ry h
  obtain ⟨d, e, hd, he, hal, hn, hdp, q⟩ := h
  obtain ⟨as, r1⟩ := Dp.reads I d x v hd rx
  obtain ⟨bs, r2⟩ := Dp.reads I e y u he ry
  have hm : min d.depth e.depth ≤ d.depth := Nat.min_le_left _ _
  exact PySem.W.rcLt_alike d e X.A s v u as bs r1 r2 hal hn (by omega) X.prog X.w X.xe _ ⟨.bl (dataLt d e), H, I, rfl, q⟩

/-! ### text * int -/
def S (t : List Nat) : Str := ⟨t.toArray⟩
theorem S_list (t : List Nat) : (S t).cps.toList = t := rfl
theorem S_len (t : List Nat) : (S t).length = t.length := rfl
theorem S_inj {t u : List Nat} (h : S t = S u) : t = u := by
  have := congrArg (fun z : Str => z.cps.toList) h
  exact this
theorem S_of (z : Str) : S z.cps.toList = z := rfl
theorem fold_app : ∀ (l : List (Array Nat)) (a : Array Nat), l.foldl (· ++ ·) a = a ++ (l.map Array.toList).flatten.toArray
  | [], a => by simp
  | b :: l, a => by
    rw [List.foldl_cons, fold_app l (a ++ b), List.map_cons, List.flatten_cons]
    apply Array.ext'
    simp
def rMulS : R2 := fun x y H Q => ∃ (t : List Nat) (k : Nat), x = .str (S t) ∧ y = .int (k : Int) ∧ k ≤ 1000 ∧ t.length ≤ 1000 ∧ Q (.str (S (List.replicate k t).flatten)) H
theorem op_mulS {X : Cx} : OpR X (binaryOp .Mult) rMulS := by
  intro pins s σ H x y v u Q I rx ry h
  obtain ⟨t, k, rfl, rfl, hk, ht, q⟩ := h
  obtain ⟨t1, rfl⟩ := rx
  obtain ⟨t2, rfl⟩ := ry
  have hl : t.length * k ≤ 1000 * 1000 := Nat.mul_le_mul ht hk
  refine P.mul_str ?_ (fun h1 h2 => ?_) (fun h1 h2 => ?_) ?_
  · rw [decide_eq_false (by omega), decide_eq_false (by omega)]
    rfl
  · have h3 : (1 : Int) ≤ k := by omega
    have h4 : (1000 : Int) ≤ (2 ^ 63 - 1) / (k : Int) := (Int.le_ediv_iff_mul_le (by omega)).mpr (by omega)
    have h5 : ((S t).length : Int) ≤ 1000 := by
      rw [S_len]
      omega
    omega
  · show decide ((S t).length * ((k : Int)).toNat > sizeLine) = false
    rw [S_len, Int.toNat_natCast, sizeLine_eq]
    exact decide_eq_false (by omega)
  · by_cases h0 : (k : Int) < 1
    · rw [if_pos h0]
      have e : k = 0 := by omega
      subst e
      exact ⟨by decide, ⟨.str (S []), H, I.tok _, ⟨_, rfl⟩, q⟩⟩
    · rw [if_neg h0]
      by_cases h1 : ((k : Int) == 1 || (S t).length == 0) = true
      · rw [if_pos h1]
        have e : (List.replicate k t).flatten = t := by
          rw [Bool.or_eq_true, beq_iff_eq, beq_iff_eq] at h1
          rcases h1 with h1 | h1
          · have e : k = 1 := by omega
            subst e
            simp
          · rw [S_len] at h1
            have e : t = [] := List.eq_nil_of_length_eq_zero h1
            subst e
            simp
        rw [e] at q
        exact ⟨.str (S t), H, I, ⟨t1, rfl⟩, q⟩
      · rw [if_neg h1]
        have e : (⟨(List.replicate ((k : Int)).toNat (S t).cps).foldl (· ++ ·) #[]⟩ : Str) = S (List.replicate k t).flatten := by
          rw [Int.toNat_natCast, fold_app, List.map_replicate]
          show (⟨_⟩ : Str) = ⟨_⟩
          congr 1
          simp [S]
        rw [e]
        refine ⟨?_, ⟨.str (S (List.replicate k t).flatten), H, I.tok _, ⟨_, rfl⟩, q⟩⟩
        show (List.replicate k t).flatten.toArray.size ≤ sizeLine
        rw [List.size_toArray, List.length_flatten, List.map_replicate, List.sum_replicate_nat, sizeLine_eq, Nat.mul_comm]
        omega
end K11

/-! enumerate(tuple); sorted(zip(..)) -/
namespace K11
open PySem PySem.Spec PyProof.Rows L2
open PySem.W (EachIs AllAlike Sortable dataLe dataLt alike)

/-! ### enumerate(tuple) -/
theorem meets_enumerate_newT (l : Addr) (items : Array Value) (n : Nat) (dct : Option Addr) (sl : Array (Option Value)) :
    Meets (Builtin.«enumerate.__new__» ⟨[.type "enumerate", .ref l], []⟩) (fun _ R s => s.heap.get? l = some { cls := .type "tuple", dict := dct, data := .seq items n, slots := sl } ∧
      R (.ok (.ret (.ref (s.heap.push { cls := .type "tuple_iterator", data := .fields #[.ref l, .int 0 0] }).objs.size)))
        { s with heap := (s.heap.push { cls := .type "tuple_iterator", data := .fields #[.ref l, .int 0 0] }).push { cls := .type "enumerate", data := .fields #[.none, .bool false, .ref s.heap.objs.size, rawInt 0, .none, .none] } }) :=
  .of_wp fun prog w A R s h => by
    obtain ⟨hp, g, d, tk, os⟩ := s; obtain ⟨hl, h⟩ := h
    have hsub := sub_enumerate
    have hL : Heap.IsTuple (Shared.heap ⟨hp, g, d, tk, os⟩) l items := ⟨_, hl, rfl, n, rfl⟩
    wp_walk using AutoSeq1.wpAny_loadPart' hl
    refine wpAny_stack_any fun st => wpAny_pure ?_
    split
    · rename_i c _ _ _ _ _
      cases (c == Value.type "enumerate")
      · wp_walk using AutoSeq1.wpAny_loadPart' hl, wpAny_pyIter_tuple hL
        exact ⟨_, rfl, h⟩
      · wp_walk using AutoSeq1.wpAny_loadPart' hl, wpAny_pyIter_tuple hL
        exact ⟨_, rfl, h⟩
    · wp_walk using AutoSeq1.wpAny_loadPart' hl, wpAny_pyIter_tuple hL
      exact ⟨_, rfl, h⟩
section
variable {prog : Program} {w : World} {A : Around} {E : Value → Shared → Prop} {s : Shared}
theorem call_enumerate_tuple {l : Addr} {items : Array Value} {Q : Value → Shared → Prop} (hL : s.heap.IsTuple l items)
    (h : ∀ h', IsEnum h' (s.heap.objs.size + 1) s.heap.objs.size 0 .none → h'.IsTupleIter s.heap.objs.size l 0 → h'.objs.size = s.heap.objs.size + 2 →
      (∀ b o, s.heap.get? b = some o → h'.get? b = some o) → Q (.ref (s.heap.objs.size + 1)) { s with heap := h' }) :
    wpAny (model prog w) A (call (.type "enumerate") [.ref l]) Q E s := by
  obtain ⟨⟨c, dct, dt, sl⟩, hl, hc, n, hd⟩ := hL
  replace hc : c = .type "tuple" := hc
  replace hd : dt = .seq items n := hd
  subst hc hd
  refine callType_new F.called_enumerate (by decide) (F.typeCall_enumerate_1 _) (F.newCall_enumerate_1 _) (fun obj => F.args_object_init_2 obj _) F.entry_enumerate_new
    (meets_enumerate_newT l items n dct sl) ⟨hl, ?_⟩
  have hz : (s.heap.push { cls := .type "tuple_iterator", data := .fields #[.ref l, .int 0 0] }).objs.size = s.heap.objs.size + 1 := Heap.size_push ..
  show _ ∧ _
  rw [hz]
  have he : IsEnum ((s.heap.push { cls := .type "tuple_iterator", data := .fields #[.ref l, .int 0 0] }).push
      { cls := .type "enumerate", data := .fields #[.none, .bool false, .ref s.heap.objs.size, rawInt 0, .none, .none] }) (s.heap.objs.size + 1) s.heap.objs.size 0 .none := by
    have := Heap.get?_push_size (s.heap.push { cls := .type "tuple_iterator", data := .fields #[.ref l, .int 0 0] })
      (o := { cls := .type "enumerate", data := .fields #[.none, .bool false, .ref s.heap.objs.size, rawInt 0, .none, .none] }) rfl
    rw [hz] at this; exact this
  refine ⟨⟨_, he, rfl⟩, h _ he ⟨_, Heap.get?_push_of_some _ (Heap.get?_push_size _ rfl), rfl, rfl⟩ (by rw [Heap.size_push, hz]) fun b o x => Heap.get?_push_of_some _ (Heap.get?_push_of_some _ x)⟩
end
/-- the tuple at a, each item in a new pair behind its number -/
def IteT (K : PySem.W.Frag) (a : Addr) : It :=
  ⟨fun i H => ∃ (xs : List V) (x : V), SqT K H a xs ∧ xs[i]? = some x, fun i H v H' => ∃ T x, v = .ref T ∧ H T = none ∧ H' = upd H T (.tup [.int (i : Nat), x]) ∧ ∀ xs, SqT K H a xs → xs[i]? = some x, fun i H => ∃ xs : List V, SqT K H a xs ∧ xs.length ≤ i⟩
theorem turn_enumT {P : Program} {w : World} {K : PySem.W.Frag} {elts : List Expr} {kk : Nat} {tpos : Pos} (a e it : Addr) :
    Turn P w K (.Tuple elts kk tpos) (IteT K a) [e, it] e (fun i h => (∃ old, IsEnum h e it ((i : Nat) : Int) old) ∧ h.IsTupleIter it a i ∧ e ≠ it ∧ a ≠ e ∧ a ≠ it) where
  mem := by simp
  obj := fun i h st b hb => by
    obtain ⟨⟨old, he⟩, ⟨o, ho, hc, hd⟩, _⟩ := st
    have e' : b = e ∨ b = it := by simpa using hb
    rcases e' with z | z
    · rw [z]; exact ⟨_, he, fun v q => nomatch q⟩
    · rw [z]; exact ⟨o, ho, fun v q => by rw [hd] at q; cases q⟩
  keep := fun i h h' st k => let ⟨⟨old, he⟩, hi, hne⟩ := st; ⟨⟨old, k e (by simp) _ he⟩, hi.at fun o q => k it (by simp) o q, hne⟩
  item := by
    intro X hP hw hK hc i pins s σ H E I hf st hg
    subst hP hw hK
    obtain ⟨⟨old, he⟩, hit, hne, hae, hai⟩ := st
    obtain ⟨xs, x, hq, hx⟩ := hg
    obtain ⟨its, rv, p, hz⟩ := I.tuple hq
    obtain ⟨u, hu, ru⟩ := rv.get hx
    have hel : e < s.heap.objs.size := Heap.lt_size he
    have hil : it < s.heap.objs.size := by obtain ⟨_, q, _⟩ := hit; exact Heap.lt_size q
    have hh : X.A.in1.handled = none := I.ok.hd hc
    have D := Draws.tuple (prog := X.prog) (w := X.w) hh it a hai its.toArray
    have hlt : i < its.toArray.size := by
      rw [List.size_toArray]
      exact (List.getElem?_eq_some_iff.mp hu).1
    refine wpAny_pyNext_enum_itemC D he ⟨hit, (show s.heap.IsTuple a its.toArray from p)⟩ hlt hne (by simp [hne, hae.symm]) fun x' h' tk hP ho hst' hT hsz hk => ?_
    have ex : x' = u := by
      have hP' : its.toArray[i]? = some x' := hP
      rw [List.getElem?_toArray, hu] at hP'
      exact (Option.some.inj hP').symm
    subst ex
    refine ⟨_, rfl, wpAny_letOwnedTupleGo_enum (s := { s with heap := h', toks := tk + 1 }) ho fun h'' he' sb => ?_⟩
    have hT2 : h''.get? s.heap.objs.size = some { cls := .type "tuple", data := .seq #[.int i tk, x'] } := (sb.2 _ (Nat.ne_of_gt hel)).trans hT
    have new : ObjOk X.prog X.w (upd H s.heap.objs.size (.tup [.int (i : Nat), x])) h'' s.heap.objs.size (.tup [.int (i : Nat), x]) :=
      ⟨by show 2 ≤ sizeLine; decide, [.int i tk, x'], .cons ⟨_, rfl⟩ (.cons ru .nil), ⟨_, hT2, rfl, _, rfl⟩⟩
    have I1 : Inv X pins σ (upd H s.heap.objs.size (.tup [.int (i : Nat), x])) { s with heap := h'', toks := tk + 1 } :=
      I.turnedNew (ch := [e, it]) (fun b ob hb q => (sb.2 b (fun z => hb (by simp [z]))).trans (hk b ob (fun z => hb (by simp [z])) (fun z => hb (by simp [z])) q)) hf (Nat.le_refl _) new
    refine ⟨.ref s.heap.objs.size, _, I1, rfl, ⟨_, x, rfl, I.hok.fresh (Nat.le_refl _), rfl, fun ys hy => by rw [I.tuple_inj hy hq]; exact hx⟩, ⟨⟨x', ?_⟩, hst'.1.at fun o q => (sb.2 it (Ne.symm hne)).trans q, hne, hae, hai⟩, fun b hb => ?_⟩
    · have e1 : ((i + 1 : Nat) : Int) = (i : Int) + 1 := by omega
      rw [e1]; exact he'
    · have hb' : b < s.heap.objs.size := by
        have e' : b = e ∨ b = it := by simpa using hb
        rcases e' with z | z
        · rw [z]; exact hel
        · rw [z]; exact hil
      rw [upd_ne (Nat.ne_of_lt hb')]
      exact (hf b hb).1
  done := by
    intro X hP hw hK hc i pins s σ H E I hf st hg
    subst hP hw hK
    obtain ⟨⟨old, he⟩, hit, hne, hae, hai⟩ := st
    obtain ⟨xs, hq, hx⟩ := hg
    obtain ⟨its, rv, p, hz⟩ := I.tuple hq
    obtain ⟨f0, f1, f2, f3, f4, f5⟩ := hf it (by simp)
    have hl := rv.length
    have hh : X.A.in1.handled = none := I.ok.hd hc
    have hTy : s.TypeIs (.ref e) "enumerate" := ⟨_, he, rfl⟩
    unfold pyNext
    refine wpAny_bind (wpAny_attempt (wpAny_callSpecial?_slot (name := Str.ofString "__next__") hTy F.slot_enumerate_next
      (wpAny_call_entry F.slot_enumerate_next hTy F.entry_enumerate_next ?_ (F.args_enumerate_next_1 _))))
    show wpAny _ _ (field (.ref e) 2 >>= _) _ _ _
    refine wpAny_bind (wpAny_field he rfl (x := .ref it) rfl ?_)
    refine wpAny_bind (wpAny_nextOf_tuple_end hh hit (show s.heap.IsTuple a its.toArray from p) (by simp; omega) fun h' y he' hx' => ?_)
    obtain ⟨o, ho, hc'⟩ := hx'
    refine wpAny_bind (wpAny_isInstance (T := "StopIteration") (b := true) ⟨o, ho, hc'⟩ isSubtype_stop ?_)
    exact wpAny_pure ⟨rfl, I.turned (t' := s.toks) (fun b o hb q => he' b o hb q) f0 f1 f3 f4 f5⟩
  self := fun A i s Q E st h => let ⟨⟨_, he⟩, _⟩ := st; wpAny_pyIter_enum he h
def iEnumT (K : PySem.W.Frag) (ta : TA) : TI := fun σ H R => ta σ H fun vs H1 => ∃ a xs, vs = [.ref a] ∧ SqT K H1 a xs ∧ R (IteT K a) H1
theorem pi_enumT {X : Cx} {e : Expr} {ta : TA} {p pos tpos : Pos} {elts : List Expr} {kk : Nat} (hg : Gl X "enumerate") (hm : X.mg "enumerate" = none) (ha : PA X [e] ta) (hs : starEach [e] X.env = [(false, eval e X.env)] := by rfl) :
    PI X (.Tuple elts kk tpos) (.Call (.Name "enumerate" p) [e] [] pos) (iEnumT X.K ta) := by
  refine ⟨fun pins s σ H R I h => ?_⟩
  refine Call_ (ld_blt I hg hm boot_enumerate (PyProof.Rows.callWith_type1 (thn (ha.run pos pins s σ H _ I h) fun us s1 ⟨vs, H1, I1, r1, q1⟩ => ?_) hs rfl))
  obtain ⟨a, xs, ex, hq, q⟩ := q1
  subst ex
  cases r1 with
  | cons r rr =>
    cases rr
    cases r
    obtain ⟨its, rv, p', hz⟩ := I1.tuple hq
    have hal : a < s1.heap.objs.size := p'.lt
    refine call_enumerate_tuple (show s1.heap.IsTuple a its.toArray from p') fun h' he hit hsz hk => wpAny_pyIter_enum he ?_
    have I2 : Inv X pins σ H1 { s1 with heap := h' } := I1.kept (t' := s1.toks) hk
    refine ⟨s1.heap.objs.size + 1, [s1.heap.objs.size + 1, s1.heap.objs.size], _, _, H1, rfl, I2, turn_enumT a (s1.heap.objs.size + 1) s1.heap.objs.size, ⟨⟨.none, he⟩, hit, Nat.succ_ne_self _, Nat.ne_of_lt (Nat.lt_succ_of_lt hal), Nat.ne_of_lt hal⟩, fun b hb => ?_, q⟩
    have e' : b = s1.heap.objs.size + 1 ∨ b = s1.heap.objs.size := by simpa using hb
    have hle : s1.heap.objs.size ≤ b := by
      rcases e' with z | z
      · rw [z]; exact Nat.le_add_right _ _
      · rw [z]; exact Nat.le_refl _
    exact I1.fpOk hle (I1.hok.fresh hle)
theorem walk_enumT {K : PySem.W.Frag} {a : Addr} {xs : List V} : Walk (IteT K a) xs.length (fun H => SqT K H a xs) (fun i H v H' => ∃ T x, v = .ref T ∧ H T = none ∧ H' = upd H T (.tup [.int (i : Nat), x]) ∧ xs[i]? = some x) :=
  ⟨fun i _ hi q => ⟨xs, xs[i], q, by simp [hi]⟩, fun _ q => ⟨xs, q, Nat.le_refl _⟩, fun _ _ _ _ _ q y => let ⟨T, x, h1, h2, h3, h4⟩ := y; ⟨T, x, h1, h2, h3, h4 xs q⟩⟩

/-! ### sorted(zip(a, b)) -/
/-- the tuples that a zip has given out -/
structure ZMade (xs ys : Array Value) (lo : Addr) (h : Heap) (as : List Addr) : Prop where
  rise : as.Pairwise (· < ·)
  above : ∀ a ∈ as, lo < a
  pairs : ∀ (j : Nat) (a : Addr), as[j]? = some a → ∃ x y, xs[j]? = some x ∧ ys[j]? = some y ∧ IsPair h a x y
theorem ZMade.there {xs ys : Array Value} {lo : Addr} {h : Heap} {as : List Addr} (g : ZMade xs ys lo h as) {a : Addr} (ha : a ∈ as) : a < h.objs.size := by
  obtain ⟨j, hj⟩ := List.mem_iff_getElem?.mp ha
  obtain ⟨_, _, _, _, e⟩ := g.pairs j a hj
  exact Heap.lt_size e
/-- a zip in the middle of its walk, while a list grows at S -/
structure ZSt (h : Heap) (z TI TO i1 i2 l1 l2 S : Addr) (xs ys : Array Value) (i : Nat) : Prop where
  tin : IsPair h TI (.ref i1) (.ref i2)
  it1 : h.IsListIter i1 l1 i
  it2 : h.IsListIter i2 l2 i
  li1 : h.IsList l1 xs
  li2 : h.IsList l2 ys
  out : (IsZip h z TI TO .none ∧ ∃ a b, IsPair h TO a b) ∨ ∃ T f oT, IsZipHeld h z TI TO T f ∧ h.get? T = some oT ∧ T ≠ z ∧ T ≠ i1 ∧ T ≠ i2 ∧ T ≠ S
section
variable {prog : Program} {w : World} {A : Around} {E : Value → Shared → Prop} {s : Shared} {z TI TO i1 i2 l1 l2 S : Addr} {xs ys : Array Value}
theorem ZSt.keep {h h' : Heap} {i : Nat} (t : ZSt h z TI TO i1 i2 l1 l2 S xs ys i) (hS : ∀ b ∈ [z, TI, TO, i1, i2, l1, l2], b ≠ S) (k : ∀ b o, b ≠ S → h.get? b = some o → h'.get? b = some o) : ZSt h' z TI TO i1 i2 l1 l2 S xs ys i := by
  refine ⟨k _ _ (hS _ (by simp)) t.tin, t.it1.at fun o e => k _ o (hS _ (by simp)) e, t.it2.at fun o e => k _ o (hS _ (by simp)) e, t.li1.at fun o e => k _ o (hS _ (by simp)) e, t.li2.at fun o e => k _ o (hS _ (by simp)) e, ?_⟩
  rcases t.out with ⟨hz, a, b, hTO⟩ | ⟨T, f, oT, hz, hT, r1, r2, r3, r4⟩
  · exact .inl ⟨k _ _ (hS _ (by simp)) hz, a, b, k _ _ (hS _ (by simp)) hTO⟩
  · exact .inr ⟨T, f, oT, k _ _ (hS _ (by simp)) hz, k _ _ r4 hT, r1, r2, r3, r4⟩
theorem zst_next {i : Nat} {x y : Value} {Q : Option Value → Shared → Prop} (D : ZipApart z TI TO i1 i2 l1 l2) (t : ZSt s.heap z TI TO i1 i2 l1 l2 S xs ys i) (hSl : S < s.heap.objs.size) (hx : xs[i]? = some x) (hy : ys[i]? = some y)
    (hQ : ∀ h', ZSt h' z TI TO i1 i2 l1 l2 S xs ys (i + 1) → IsPair h' s.heap.objs.size x y → h'.objs.size = s.heap.objs.size + 1 → (∀ b o, b ≠ z → b ≠ TO → b ≠ i1 → b ≠ i2 → s.heap.get? b = some o → h'.get? b = some o) → Q (some (.ref s.heap.objs.size)) { s with heap := h' }) :
    wpAny (model prog w) A (pyNext (.ref z)) Q E s := by
  obtain ⟨hTI, h1, h2, hl1, hl2, hz⟩ := t
  have lt : ∀ {c o}, s.heap.get? c = some o → s.heap.objs.size ≠ c := fun e => Nat.ne_of_gt (Heap.lt_size e)
  have n1 : s.heap.objs.size ≠ i1 := let ⟨_, e, _⟩ := h1; lt e
  have n2 : s.heap.objs.size ≠ i2 := let ⟨_, e, _⟩ := h2; lt e
  rcases hz with ⟨hz, a, b, hTO⟩ | ⟨T, f, oT, hz, hT, r1, r2, r3, r4⟩
  · refine wpAny_pyNext_zip_item D hz hTI hTO h1 h2 hl1 hl2 hx hy fun h' a1 a2 a3 a4 a5 a6 hk => ?_
    exact hQ h' ⟨hk _ _ D.TIz D.TITO D.TIi1 D.TIi2 hTI, a3, a4, hl1.at fun o e => hk _ o D.l1z D.l1TO D.l1i1 D.l1i2 e, hl2.at fun o e => hk _ o D.l2z D.l2TO D.l2i1 D.l2i2 e,
      .inr ⟨s.heap.objs.size, false, _, a1, a5, lt hz, n1, n2, Nat.ne_of_gt hSl⟩⟩ a5 a6 hk
  · refine wpAny_pyNext_zip_item_held D hz hT hTI h1 h2 hl1 hl2 hx hy fun h' a1 a3 a4 a5 a6 hk => ?_
    exact hQ h' ⟨hk _ _ D.TIz D.TIi1 D.TIi2 hTI, a3, a4, hl1.at fun o e => hk _ o D.l1z D.l1i1 D.l1i2 e, hl2.at fun o e => hk _ o D.l2z D.l2i1 D.l2i2 e,
      .inr ⟨T, true, oT, a1, hk _ _ r1 r2 r3 hT, r1, r2, r3, r4⟩⟩ a5 a6 fun b o b1 _ b3 b4 e => hk b o b1 b3 b4 e
theorem zst_end {i : Nat} {Q : Option Value → Shared → Prop} (hh : A.handled = none) (D : ZipApart z TI TO i1 i2 l1 l2) (t : ZSt s.heap z TI TO i1 i2 l1 l2 S xs ys i) (hx : xs[i]? = none)
    (hQ : ∀ h', (∀ b o, b ≠ z → b ≠ TO → b ≠ i1 → b ≠ i2 → s.heap.get? b = some o → h'.get? b = some o) → Q none { s with heap := h' }) :
    wpAny (model prog w) A (pyNext (.ref z)) Q E s := by
  obtain ⟨hTI, h1, h2, hl1, hl2, hz⟩ := t
  rcases hz with ⟨hz, a, b, hTO⟩ | ⟨T, f, oT, hz, hT, r1, r2, r3, r4⟩
  · exact wpAny_pyNext_zip_end hh D hz hTI hTO h1 h2 hl1 hl2 (.inl hx) fun h' hk => hQ h' hk
  · exact wpAny_pyNext_zip_end_held hh D hz hT hTI h1 h2 hl1 hl2 (.inl hx) fun h' hk => hQ h' fun b o b1 _ b3 b4 e => hk b o b1 b3 b4 e
end
section
variable {prog : Program} {w : World} {A : Around} {s : Shared} {R : Result → Shared → Prop} {z TI TO i1 i2 l1 l2 S : Addr} {xs ys : Array Value}
theorem loopZ (hh : A.handled = none) (D : ZipApart z TI TO i1 i2 l1 l2) (hS : ∀ b ∈ [z, TI, TO, i1, i2, l1, l2], b < S) (hlen : ys.size = xs.size) (hn : xs.size ≤ sizeLine) (res : Value) {h₁ : Heap}
    (hR : ∀ h' tk acc c as, (∀ b o, b ≠ S → b ≠ z → b ≠ TO → b ≠ i1 → b ≠ i2 → h₁.get? b = some o → h'.get? b = some o) → h'.get? S = some { cls := .type "list", dict := none, data := .seq acc c, slots := #[] } → as.length = xs.size → ZMade xs ys S h' as →
      acc.toList = as.map Value.ref → R (.ok (.ret res)) { s with heap := h', toks := tk }) :
    ∀ (k i : Nat) (h : Heap) (tk c : Nat) (acc : Array Value) (as : List Addr), xs.size - i = k → i ≤ xs.size → ZSt h z TI TO i1 i2 l1 l2 S xs ys i → (∀ b o, b ≠ S → b ≠ z → b ≠ TO → b ≠ i1 → b ≠ i2 → h₁.get? b = some o → h.get? b = some o) →
      h.get? S = some { cls := .type "list", dict := none, data := .seq acc c, slots := #[] } → acc.toList = as.map Value.ref → as.length = i → ZMade xs ys S h as →
      codeAny (model prog w) A (.builtin "list.extend.loop" ⟨[.ref S, .ref z, res], []⟩) R { s with heap := h, toks := tk } := by
  have ne : ∀ b ∈ [z, TI, TO, i1, i2, l1, l2], b ≠ S := fun b hb => Nat.ne_of_lt (hS b hb)
  intro k
  induction k with
  | zero =>
    intro i h tk c acc as hk hi hst hkeep hSo hacc hal hG
    refine codeAny_builtin PySem.F.entry_extend_loop ?_
    rw [Around.under_plainId PySem.F.plain_extend_loop _]
    show wpAny _ A.in1 (pyNext (.ref z) >>= _) _ _ _
    refine wpAny_bind (zst_end (s := { s with heap := h, toks := tk }) (A := A.in1) hh D hst (Array.getElem?_eq_none (by omega)) fun h' he => ?_)
    refine wpAny_pure (hR h' tk acc c as (fun b o h1 h2 h3 h4 h5 e => he b o h2 h3 h4 h5 (hkeep b o h1 h2 h3 h4 h5 e)) (he S _ (ne z (by simp)).symm (ne TO (by simp)).symm (ne i1 (by simp)).symm (ne i2 (by simp)).symm hSo) (by omega) ⟨hG.rise, hG.above, fun j a hj => ?_⟩ hacc)
    obtain ⟨x, y, e1, e2, e3⟩ := hG.pairs j a hj
    have ha := hG.above a (List.mem_of_getElem? hj)
    exact ⟨x, y, e1, e2, he a _ (Nat.ne_of_gt (Nat.lt_trans (hS z (by simp)) ha)) (Nat.ne_of_gt (Nat.lt_trans (hS TO (by simp)) ha)) (Nat.ne_of_gt (Nat.lt_trans (hS i1 (by simp)) ha)) (Nat.ne_of_gt (Nat.lt_trans (hS i2 (by simp)) ha)) e3⟩
  | succ k ih =>
    intro i h tk c acc as hk hi hst hkeep hSo hacc hal hG
    have hlt : i < xs.size := by omega
    have hlt2 : i < ys.size := by omega
    have hsz : acc.size = i := by rw [← Array.length_toList, hacc, List.length_map, hal]
    have hSl : S < h.objs.size := Heap.lt_size hSo
    refine codeAny_builtin PySem.F.entry_extend_loop ?_
    rw [Around.under_plainId PySem.F.plain_extend_loop _]
    show wpAny _ A.in1 (pyNext (.ref z) >>= _) _ _ _
    refine wpAny_bind (zst_next (s := { s with heap := h, toks := tk }) (S := S) D hst hSl (Array.getElem?_eq_getElem hlt) (Array.getElem?_eq_getElem hlt2) fun h' hst' ht hz hkp => ?_)
    dsimp only at ht hz hkp ⊢
    have hS' := hkp S _ (ne z (by simp)).symm (ne TO (by simp)).symm (ne i1 (by simp)).symm (ne i2 (by simp)).symm hSo
    have up : ∀ b o, b ≠ S → h'.get? b = some o → (h'.update S (Obj.mapSeq (·.push (Value.ref h.objs.size)))).get? b = some o := fun b o hb e => (Heap.get?_update_other _ _ (Ne.symm hb)).trans e
    show wpAny _ A.in1 (updateSeq S (·.push (Value.ref h.objs.size)) >>= _) _ _ _
    refine wpAny_bind ?_
    refine wpAny_updateSeq hS' rfl (wpAny_pure ⟨plainId_quiet PySem.F.plain_extend_loop _, ih (i + 1) _ tk _ (acc.push (Value.ref h.objs.size)) (as ++ [h.objs.size]) (by omega) hlt (hst'.keep ne up)
      (fun b o h1 h2 h3 h4 h5 e => up b o h1 (hkp b o h2 h3 h4 h5 (hkeep b o h1 h2 h3 h4 h5 e))) (Heap.get?_update_self _ hS' rfl) (by rw [Array.toList_push, hacc, List.map_append]; rfl) (by rw [List.length_append, hal]; rfl) ⟨?_, ?_, ?_⟩⟩) (by rw [hsz]; omega) (by show (acc.push (Value.ref h.objs.size)).size ≤ sizeLine + 1; rw [Array.size_push, hsz]; omega)
    · refine List.pairwise_append.mpr ⟨hG.rise, List.pairwise_singleton _ _, fun a ha b hb => ?_⟩
      rw [List.mem_singleton.mp hb]
      exact hG.there ha
    · intro a ha
      rcases List.mem_append.mp ha with ha | ha
      · exact hG.above a ha
      · rw [List.mem_singleton.mp ha]; exact hSl
    · intro j b hj
      rcases Nat.lt_trichotomy j as.length with h1 | h1 | h1
      · rw [List.getElem?_append_left h1] at hj
        obtain ⟨x, y, e1, e2, e3⟩ := hG.pairs j b hj
        have hb := hG.above b (List.mem_of_getElem? hj)
        exact ⟨x, y, e1, e2, up b _ (Nat.ne_of_gt hb) (hkp b _ (Nat.ne_of_gt (Nat.lt_trans (hS z (by simp)) hb)) (Nat.ne_of_gt (Nat.lt_trans (hS TO (by simp)) hb)) (Nat.ne_of_gt (Nat.lt_trans (hS i1 (by simp)) hb)) (Nat.ne_of_gt (Nat.lt_trans (hS i2 (by simp)) hb)) e3)⟩
      · subst h1
        have hb : h.objs.size = b := by simpa using hj
        subst hb
        subst hal
        exact ⟨_, _, Array.getElem?_eq_getElem hlt, Array.getElem?_eq_getElem hlt2, up _ _ (Nat.ne_of_gt hSl) ht⟩
      · have hnone : (as ++ [h.objs.size])[j]? = none := List.getElem?_eq_none (by rw [List.length_append, List.length_singleton]; omega)
        rw [hnone] at hj; cases hj
end
theorem nolen_zip : typeLookup (.type "zip") "__len__" = pure none := am_miss_of_fast (by decide +kernel)
theorem nohint_zip : typeLookup (.type "zip") "__length_hint__" = pure none := am_miss_of_fast (by decide +kernel)
end K11

/-! sorted(zip(..)), the rule -/
namespace K11
open PySem PySem.Spec PyProof.Rows L2
open PySem.W (EachIs AllAlike Sortable dataLe dataLt alike)
open PySem.Calls
section
variable {prog : Program} {w : World} {A : Around} {E : Value → Shared → Prop} {s : Shared} {z TI TO i1 i2 l1 l2 : Addr} {xs ys : Array Value}
theorem collectZ {Q : List Value → Shared → Prop} (hh : A.handled = none) (D : ZipApart z TI TO i1 i2 l1 l2) (hz : IsZip s.heap z TI TO .none) (hTI : IsPair s.heap TI (.ref i1) (.ref i2)) (hTO : ∃ a b, IsPair s.heap TO a b)
    (hi1 : s.heap.IsListIter i1 l1 0) (hi2 : s.heap.IsListIter i2 l2 0) (hl1 : s.heap.IsList l1 xs) (hl2 : s.heap.IsList l2 ys) (hlen : ys.size = xs.size) (hn : xs.size ≤ sizeLine)
    (h : ∀ (h' : Heap) (tk : Nat) (as : List Addr), (∀ b o, b ≠ z → b ≠ TO → b ≠ i1 → b ≠ i2 → s.heap.get? b = some o → h'.get? b = some o) → s.heap.objs.size < h'.objs.size → as.length = xs.size → ZMade xs ys s.heap.objs.size h' as → Q (as.map Value.ref) { s with heap := h', toks := tk }) :
    wpAny (model prog w) A (collect (.ref z)) Q E s := by
  have hS : ∀ b ∈ [z, TI, TO, i1, i2, l1, l2], b < s.heap.objs.size := by
    obtain ⟨a, b, hTO⟩ := hTO
    obtain ⟨o1, g1, _⟩ := hi1
    obtain ⟨o2, g2, _⟩ := hi2
    obtain ⟨o3, g3, _⟩ := hl1
    obtain ⟨o4, g4, _⟩ := hl2
    intro b hb
    simp only [List.mem_cons, List.not_mem_nil, or_false] at hb
    rcases hb with e | e | e | e | e | e | e
    all_goals subst e
    · exact Heap.lt_size hz
    · exact Heap.lt_size hTI
    · exact Heap.lt_size hTO
    · exact Heap.lt_size g1
    · exact Heap.lt_size g2
    · exact Heap.lt_size g3
    · exact Heap.lt_size g4
  have hSz : s.heap.objs.size ≠ z := Nat.ne_of_gt (hS z (by simp))
  unfold collect
  refine wpAny_bind (wpAny_runValue (codeAny_builtin F.entry_proto_collect ?_))
  rw [Around.under_plainId F.plain_proto_collect _]
  show wpAny _ A.in1 (newList [] >>= fun l => again (.builtin "list.__iadd__" ⟨[l, .ref z], []⟩)) _ _ s
  refine wpAny_bind (wpAny_newObj_type ?_)
  refine wpAny_pure ⟨plainId_quiet F.plain_list_iadd _, codeAny_builtin F.entry_list_iadd ?_⟩
  rw [Around.under_plainId F.plain_list_iadd _]
  have up1 : ∀ b o, s.heap.get? b = some o → (s.heap.push { cls := .type "list", data := .seq ([] : List Value).toArray }).get? b = some o := fun b o e => Heap.get?_push_of_some _ e
  have hz1 := up1 _ _ hz
  have hT1 : Shared.TypeIs { s with heap := s.heap.push { cls := .type "list", data := .seq ([] : List Value).toArray } } (.ref z) "zip" := ⟨_, hz1, rfl⟩
  show wpAny _ A.in1 (Builtin.List.listExtendWith (.ref s.heap.objs.size) (.ref z) (.ref s.heap.objs.size)) _ _ _
  unfold Builtin.List.listExtendWith
  refine wpAny_bind (wpAny_typeOf hT1 ?_)
  have h1 : Builtin.List.listSameRef (.ref s.heap.objs.size) (.ref z) = false := by simp [Builtin.List.listSameRef, hSz]
  have h2 : (Value.type "zip" == Value.type "list") = false := by decide
  have h3 : (Value.type "zip" == Value.type "tuple") = false := by decide
  simp only [h1, h2, h3, Bool.or_false, Bool.false_eq_true, if_false]
  refine wpAny_bind (wpAny_pyIter_zip hz1 ?_)
  refine wpAny_bind (wpAny_holding ?_)
  unfold Builtin.List.listLengthHint
  refine wpAny_bind (wpAny_specialOf hT1 nolen_zip ?_)
  show wpAny _ A.in1 (specialOf (Value.ref z) (Str.ofString "__length_hint__") >>= _) _ _ _
  refine wpAny_bind (wpAny_specialOf hT1 nohint_zip ?_)
  refine wpAny_pure ?_
  show wpAny _ A.in1 (rule "list.extend.makes-room" >>= fun _ => Builtin.List.listTouch (.ref s.heap.objs.size) >>= fun _ =>
    again (.builtin "list.extend.loop" ⟨[.ref s.heap.objs.size, .ref z, .ref s.heap.objs.size], []⟩)) _ _ _
  refine wpAny_bind (wpAny_rule ?_)
  have hS₁ : (s.heap.push { cls := .type "list", data := .seq ([] : List Value).toArray }).get? s.heap.objs.size = some { cls := .type "list", data := .seq ([] : List Value).toArray } := Heap.get?_push_size _ rfl
  refine wpAny_bind ?_
  show wpAny _ A.in1 (updateSeq s.heap.objs.size (·.push .none) >>= fun _ => updateSeq s.heap.objs.size (·.pop)) _ _ _
  refine wpAny_bind (wpAny_updateSeq hS₁ rfl ?_)
  have hS₂ := Heap.get?_update_self (Obj.mapSeq (·.push Value.none)) hS₁ rfl
  refine wpAny_updateSeq hS₂ rfl ?_
  have hS₃ := Heap.get?_update_self (Obj.mapSeq (·.pop)) hS₂ rfl
  have oth : ∀ b o, b ≠ s.heap.objs.size → s.heap.get? b = some o →
      (((s.heap.push { cls := .type "list", data := .seq ([] : List Value).toArray }).update s.heap.objs.size (Obj.mapSeq (·.push Value.none))).update s.heap.objs.size (Obj.mapSeq (·.pop))).get? b = some o :=
    fun b o hb e => (Heap.get?_update_other _ _ (Ne.symm hb)).trans ((Heap.get?_update_other _ _ (Ne.symm hb)).trans (up1 b o e))
  have nS : ∀ b ∈ [z, TI, TO, i1, i2, l1, l2], b ≠ s.heap.objs.size := fun b hb => Nat.ne_of_lt (hS b hb)
  have st0 : ZSt s.heap z TI TO i1 i2 l1 l2 s.heap.objs.size xs ys 0 := ⟨hTI, hi1, hi2, hl1, hl2, .inl ⟨hz, hTO⟩⟩
  refine wpAny_pure ⟨plainId_quiet F.plain_extend_loop _, ?_⟩
  refine loopZ hh D hS hlen hn (.ref s.heap.objs.size) (h₁ := s.heap) (fun h' tk acc c as hk hS' hl hG hacc => ?_) xs.size 0 _ _ _ _ [] (Nat.sub_zero _) (Nat.zero_le _) (st0.keep nS oth) (fun b o b1 _ _ _ _ e => oth b o b1 e) hS₃ rfl rfl ⟨List.Pairwise.nil, (fun _ ha => nomatch ha), fun j a hj => by simp at hj⟩
  show wpAny _ A (load s.heap.objs.size >>= _) _ _ _
  refine wpAny_bind (wpAny_load hS' ?_)
  refine wpAny_pure ?_
  show Q acc.toList _
  rw [hacc]
  exact h h' tk as (fun b o b1 b2 b3 b4 e => hk b o (Nat.ne_of_lt (Heap.lt_size e)) b1 b2 b3 b4 e) (Heap.lt_size hS') hl hG
/-- sorted(zip) up to the sort of the pairs -/
theorem sortedZ {Q : Value → Shared → Prop} (hh : A.handled = none) (D : ZipApart z TI TO i1 i2 l1 l2) (hz : IsZip s.heap z TI TO .none) (hTI : IsPair s.heap TI (.ref i1) (.ref i2)) (hTO : ∃ a b, IsPair s.heap TO a b)
    (hi1 : s.heap.IsListIter i1 l1 0) (hi2 : s.heap.IsListIter i2 l2 0) (hl1 : s.heap.IsList l1 xs) (hl2 : s.heap.IsList l2 ys) (hlen : ys.size = xs.size) (hn : xs.size ≤ sizeLine)
    (h : ∀ (h' : Heap) (tk : Nat) (as : List Addr), (∀ b o, b ≠ z → b ≠ TO → b ≠ i1 → b ≠ i2 → s.heap.get? b = some o → h'.get? b = some o) → s.heap.objs.size < h'.objs.size → as.length = xs.size → ZMade xs ys s.heap.objs.size h' as →
      wpAny (model prog w) A.in1 (call (.builtin "list.sort") [.ref h'.objs.size]) (fun _ s' => Q (.ref h'.objs.size) s') E { s with heap := h'.push { cls := .type "list", data := .seq (as.map Value.ref).toArray }, toks := tk }) :
    wpAny (model prog w) A (call (.builtin "sorted") [.ref z]) Q E s := by
  refine Calls.call_function_entry kind_sorted plain_sorted entry_sorted (args_sorted1 _) ?_
  unfold Builtin.«sorted»
  refine wpAny_bind (m := checkCount "sorted" 1 1 _) (wpAny_pure ?_)
  refine wpAny_bind (collectZ (A := A.in1) hh D hz hTI hTO hi1 hi2 hl1 hl2 hlen hn fun h' tk as hk hlt hl hG => ?_)
  refine wpAny_bind (wpAny_newList ?_ (by rw [List.length_map, hl]; exact hn))
  have hg := h h' tk as hk hlt hl hG
  refine wpAny_bind (wpAny_holding (wpAny_mono hg (fun _ s' x => ?_) fun _ _ e => e))
  exact wpAny_pure ⟨_, rfl, x⟩
end
/-- a rank, the place's address, the place -/
abbrev ZI := Int × Addr × Int × Int
def zD (z : ZI) : PyData := .tuple [.int z.1, .tuple [.int z.2.2.1, .int z.2.2.2]]
theorem zD_depth (z : ZI) : (zD z).depth = 2 := by simp [zD, PyData.depth, PyData.depthAll]
theorem zD_alike (z u : ZI) : alike (zD z) (zD u) = true := by simp [zD, PySem.W.alike, PySem.W.alikeAll]
/-- sorted(zip(a, b)): a: ranks, b: places; a new list of new pairs -/
def tSortZip (K : PySem.W.Frag) (ta : TA) : TE := fun σ H Q => ta σ H fun vs H1 => ∃ (a b : Addr) (zs : List ZI), vs = [.ref a, .ref b] ∧ SqL K H1 a (zs.map fun z => V.int z.1) ∧ SqL K H1 b (zs.map fun z => V.ref z.2.1) ∧
  (∀ z ∈ zs, H1 z.2.1 = some (.tup [.int z.2.2.1, .int z.2.2.2])) ∧
  ∀ (H' : Hp) (p : Addr) (ts : List (Addr × ZI)), Same H1 H' → H1 p = none → ts.map Prod.snd = zs.mergeSort (dataLe false zD) → H' p = some (.lst (ts.map fun t => V.ref t.1)) → (∀ t ∈ ts, H' t.1 = some (.tup [.int t.2.1, .ref t.2.2.1])) → Q (.ref p) H'
theorem each_fst {α β : Type} {R : α → β → Prop} : ∀ {as : List α} {bs : List β}, EachIs R as bs → ∃ ps : List (α × β), ps.map Prod.fst = as ∧ ps.map Prod.snd = bs ∧ ∀ p ∈ ps, R p.1 p.2
  | _, _, .nil => ⟨[], rfl, rfl, fun _ h => nomatch h⟩
  | _, _, .cons (a := a) (b := b) h t => by
    obtain ⟨ps, e1, e2, e3⟩ := each_fst t
    refine ⟨(a, b) :: ps, by rw [List.map_cons, e1], by rw [List.map_cons, e2], fun p hp => ?_⟩
    rcases List.mem_cons.mp hp with rfl | hp
    · exact h
    · exact e3 p hp
theorem vals_refs {β : Type} {ts : List (Addr × β)} {out : List Value} (e : EachIs (fun v (t : Addr × β) => v = Value.ref t.1) out ts) : Vals (ts.map fun t => V.ref t.1) out := by
  induction e with
  | nil => exact .nil
  | cons h _ ih => exact .cons (by rw [h]; rfl) ih
theorem pe_sortZip {X : Cx} {e e2 : Expr} {ta : TA} {p p2 pos pos2 : Pos} (hc : X.calm = true) (hu : X.A.units + 64 < cLine) (hg : Gl X "sorted") (hm : X.mg "sorted" = none) (hg2 : Gl X "zip") (hm2 : X.mg "zip" = none) (ha : PA X [e, e2] ta)
    (hs : starEach [e, e2] X.env = (false, eval e X.env) :: starEach [e2] X.env := by rfl) (hpl : (backTo pos2 (starEach [e2] X.env)).any (·.1) = false := by rfl)
    (hs2 : starEach [.Call (.Name "zip" p2) [e, e2] [] pos2] X.env = (false, eval (.Call (.Name "zip" p2) [e, e2] [] pos2) X.env) :: starEach [] X.env := by rfl) :
    PE X (.Call (.Name "sorted" p) [.Call (.Name "zip" p2) [e, e2] [] pos2] [] pos) (tSortZip X.K ta) := by
  refine ⟨fun pins s σ H Q I h => ?_⟩
  refine Call_ (ld_blt I hg hm boot_sorted (PyProof.Rows.callWith_builtin1 (args_cons (Call_ (ld_blt I hg2 hm2 PyProof.Rows.boot_zip (PyProof.Rows.callWith_type1 (thn (ha.run pos2 pins s σ H _ I h) fun us s1 ⟨vs, H1, I1, r1, q1⟩ => ?_) hs hpl))) hs2) hs2 rfl))
  obtain ⟨a, b, zs, ev, hqx, hqy, hp, q⟩ := q1
  subst ev
  obtain ⟨v1, v2, rfl, r2, r3⟩ := vals2 r1
  obtain rfl : v1 = Value.ref a := r2
  obtain rfl : v2 = Value.ref b := r3
  obtain ⟨its, rv, p1, hz1⟩ := I1.list hqx
  obtain ⟨its2, rv2, p3, hz3⟩ := I1.list hqy
  have la : a < s1.heap.objs.size := p1.lt
  have lb : b < s1.heap.objs.size := p3.lt
  rw [List.length_map] at hz1
  have l1 : its.length = zs.length := by rw [← rv.length, List.length_map]
  have l2 : its2.length = zs.length := by rw [← rv2.length, List.length_map]
  refine call_zip_2 p1.isList p3.isList fun h' hz hTI hTO h1 h2 hsz hk => args_nil ?_
  have I2 : Inv X pins σ H1 { s1 with heap := h' } := I1.kept (t' := s1.toks) hk
  have D := PySem.W.ktu_apart s1.heap.objs.size a b la lb
  refine sortedZ (s := { s1 with heap := h' }) (I1.ok.hd hc) D hz hTI ⟨_, _, hTO⟩ h1 h2 (p1.isList.at fun o e => hk _ o e) (p3.isList.at fun o e => hk _ o e) (by simp [l1, l2]) (by rw [List.size_toArray, l1]; exact hz1) fun h3 tk as hk3 hlt hl hG => ?_
  have hl' : as.length = zs.length := by rw [hl, List.size_toArray, l1]
  have nd : as.Nodup := List.Pairwise.imp (fun h => Nat.ne_of_lt h) hG.rise
  have above : ∀ c ∈ as, s1.heap.objs.size < c := fun c hc' => by
    have := hG.above c hc'
    have e : ({ s1 with heap := h' } : Shared).heap.objs.size = s1.heap.objs.size + 5 := hsz
    rw [e] at this
    exact Nat.lt_of_le_of_lt (Nat.le_add_right _ 5) this
  have hlt' : s1.heap.objs.size < h3.objs.size := by
    have e : ({ s1 with heap := h' } : Shared).heap.objs.size = s1.heap.objs.size + 5 := hsz
    rw [e] at hlt
    exact Nat.lt_of_le_of_lt (Nat.le_add_right _ 5) hlt
  have kb : ∀ c o, s1.heap.get? c = some o → h3.get? c = some o := fun c o e => by
    have hc' : c < s1.heap.objs.size := Heap.lt_size e
    exact hk3 c o (Nat.ne_of_lt (Nat.lt_of_lt_of_le hc' (Nat.le_add_right _ _))) (Nat.ne_of_lt (Nat.lt_of_lt_of_le hc' (Nat.le_add_right _ _))) (Nat.ne_of_lt hc') (Nat.ne_of_lt (Nat.lt_of_lt_of_le hc' (Nat.le_add_right _ _))) (hk c o e)
  -- the pairs that were made
  have pr : ∀ (j : Nat) (c : Addr), as[j]? = some c → ∃ (z : ZI) (t : Tok), zs[j]? = some z ∧ h3.get? c = some { cls := .type "tuple", data := .seq #[Value.int z.1 t, Value.ref z.2.1] } := by
    intro j c hj
    obtain ⟨x, y, ex, ey, hg⟩ := hG.pairs j c hj
    rw [List.getElem?_toArray] at ex ey
    have hjl : j < zs.length := by rw [← l1]; exact (List.getElem?_eq_some_iff.mp ex).1
    have g1 : (zs.map fun z => V.int z.1)[j]? = some (.int zs[j].1) := by rw [List.getElem?_map, List.getElem?_eq_getElem hjl]; rfl
    have g2 : (zs.map fun z => V.ref z.2.1)[j]? = some (.ref zs[j].2.1) := by rw [List.getElem?_map, List.getElem?_eq_getElem hjl]; rfl
    obtain ⟨x', ex', rx⟩ := rv.get g1
    obtain ⟨y', ey', ry⟩ := rv2.get g2
    obtain rfl : x' = x := Option.some.inj (ex'.symm.trans ex)
    obtain rfl : y' = y := Option.some.inj (ey'.symm.trans ey)
    obtain ⟨t, rfl⟩ := rx
    obtain rfl : y' = Value.ref zs[j].2.1 := ry
    exact ⟨zs[j], t, List.getElem?_eq_getElem hjl, hg⟩
  have hob : (h3.push { cls := .type "list", data := .seq (as.map Value.ref).toArray }).get? h3.objs.size = some (seqObj "list" (as.map Value.ref).toArray 0) := Heap.get?_push_size _ rfl
  have kp : ∀ c o, h3.get? c = some o → (h3.push { cls := .type "list", data := .seq (as.map Value.ref).toArray }).get? c = some o := fun c o e => Heap.get?_push_of_some _ e
  have ne0 : ∀ c o, h3.get? c = some o → c ≠ h3.objs.size := fun c o e => Nat.ne_of_lt (Heap.lt_size e)
  generalize hh4 : h3.push { cls := .type "list", data := .seq (as.map Value.ref).toArray } = h4 at hob kp ⊢
  have e : EachIs (fun v (t : Addr × ZI) => v = Value.ref t.1) (as.map Value.ref) (as.zip zs) := by
    refine PySem.W.EachIs.of_zip (by rw [List.length_map, List.length_zip, hl', Nat.min_self]) fun p hp' => ?_
    obtain ⟨j, hj⟩ := List.mem_iff_getElem?.mp hp'
    obtain ⟨j1, j2⟩ := List.getElem?_zip_eq_some.mp hj
    obtain ⟨j3, _⟩ := List.getElem?_zip_eq_some.mp j2
    rw [List.getElem?_map, j3] at j1
    exact (Option.some.inj j1).symm
  have er : EachIs (fun v (t : Addr × ZI) => ∃ ls, Reads h4 v (zD t.2) ls ∧ h3.objs.size ∉ ls) (as.map Value.ref) (as.zip zs) := by
    refine PySem.W.EachIs.of_zip e.length fun p hp' => ?_
    have e1 := e.zip p hp'
    obtain ⟨j, hj⟩ := List.mem_iff_getElem?.mp hp'
    obtain ⟨_, j2⟩ := List.getElem?_zip_eq_some.mp hj
    obtain ⟨j3, j4⟩ := List.getElem?_zip_eq_some.mp j2
    obtain ⟨z, t, hz', hg⟩ := pr j p.2.1 j3
    obtain rfl : z = p.2.2 := Option.some.inj (hz'.symm.trans j4)
    obtain ⟨_, itp, rp, ot, hot, hct, nt, hdt⟩ := (show ObjOk X.prog X.w H1 s1.heap p.2.2.2.1 (.tup [.int p.2.2.2.2.1, .int p.2.2.2.2.2]) from I1.hok _ _ (hp _ (List.mem_of_getElem? j4)))
    obtain ⟨w1, w2, rfl, rw1, rw2⟩ := vals2 rp
    obtain ⟨t1, rfl⟩ := rw1
    obtain ⟨t2, rfl⟩ := rw2
    rw [e1]
    refine ⟨[], ?_, by simp⟩
    exact Reads.tuple (kp _ _ hg) rfl rfl (ReadsAll.cons (Reads.int _ _) (ReadsAll.cons (Reads.tuple (kp _ _ (kb _ _ hot)) hct hdt (ReadsAll.cons (Reads.int _ _) (ReadsAll.cons (Reads.int _ _) ReadsAll.nil))) ReadsAll.nil))
  refine PySem.W.list_sort_data (s := { s1 with heap := h4, toks := tk }) (R := fun v (t : Addr × ZI) => v = Value.ref t.1) (enc := fun t => zD t.2) hob e er (PySem.W.AllAlike.of fun t u => zD_alike _ _) (PySem.W.Sortable.tuples fun t => ⟨_, _, rfl⟩) (by rw [List.length_zip, hl', Nat.min_self]; exact hz1) (fun t _ => ?_) fun out ho eo => ?_
  · rw [zD_depth]
    show X.A.units + 1 + 1 + 2 < cLine
    omega
  · show EP X pins σ Q (.ref h3.objs.size) { s1 with heap := sortedHeap h4 h3.objs.size (as.map Value.ref) out.toArray, toks := tk }
    have kF : ∀ c o, c ≠ h3.objs.size → h4.get? c = some o → (sortedHeap h4 h3.objs.size (as.map Value.ref) out.toArray).get? c = some o := fun c o hb e => (PyProof.Rows.sortedHeap_old hb (Heap.lt_size e)).trans e
    have kS : ∀ c o, s1.heap.get? c = some o → (sortedHeap h4 h3.objs.size (as.map Value.ref) out.toArray).get? c = some o := fun c o e => kF c o (ne0 _ _ (kb c o e)) (kp _ _ (kb c o e))
    obtain ⟨eF, heF⟩ := PyProof.Rows.sortedHeap_at (vs := as.map Value.ref) (out := out.toArray) hob
    have I3 : Inv X pins σ H1 { s1 with heap := sortedHeap h4 h3.objs.size (as.map Value.ref) out.toArray, toks := tk } := I1.kept (t' := tk) kS
    have hn0 : H1 h3.objs.size = none := I1.hok.fresh (Nat.le_of_lt hlt')
    generalize hts : (as.zip zs).mergeSort (dataLe false fun t => zD t.2) = ts at eo
    have hperm : ts.Perm (as.zip zs) := by rw [← hts]; exact List.mergeSort_perm _ _
    have hlen : ts.length = zs.length := by rw [hperm.length_eq, List.length_zip, hl', Nat.min_self]
    have rvo : Vals (ts.map fun t => V.ref t.1) out := vals_refs eo
    have I4 : Inv X pins σ (upd H1 h3.objs.size (.lst (ts.map fun t => V.ref t.1))) { s1 with heap := sortedHeap h4 h3.objs.size (as.map Value.ref) out.toArray, toks := tk } :=
      I3.take (h' := sortedHeap h4 h3.objs.size (as.map Value.ref) out.toArray) (t' := tk) (fun b ob _ e => e) (I1.fpOk (Nat.le_of_lt hlt') hn0) ⟨by rw [List.length_map, hlen]; exact hz1, out, eF, rvo, heF⟩
    obtain ⟨H2, I5, g, qt⟩ := L2.DX.takeT (P := fun c vs => ∃ (j : Nat) (z : ZI), as[j]? = some c ∧ zs[j]? = some z ∧ vs = [.int z.1, .ref z.2.1]) I1 as _ I4 nd fun c hc' => by
      obtain ⟨j, hj⟩ := List.mem_iff_getElem?.mp hc'
      obtain ⟨z, t, hz', hg⟩ := pr j c hj
      have hcl : s1.heap.objs.size ≤ c := Nat.le_of_lt (above c hc')
      refine ⟨hcl, ?_, [.int z.1, .ref z.2.1], ⟨j, z, hj, hz', rfl⟩, fun H3 => ⟨(by rw [sizeLine_eq]; show 2 ≤ 16777216; omega), [Value.int z.1 t, Value.ref z.2.1], .cons ⟨t, rfl⟩ (.cons rfl .nil), ⟨_, kF _ _ (ne0 _ _ hg) (kp _ _ hg), rfl, 0, rfl⟩⟩⟩
      rw [upd_ne (ne0 _ _ hg)]
      exact I1.hok.fresh hcl
    refine ⟨.ref h3.objs.size, H2, I5, rfl, q H2 h3.objs.size ts (fun c o e => g c o (by rw [upd_ne (ne_of_none e hn0)]; exact e)) hn0 ?_ (g _ _ upd_same) fun t ht => ?_⟩
    · rw [← hts]
      refine (PySem.W.sort_maps (r := dataLe false fun t : Addr × ZI => zD t.2) (s := dataLe false zD) Prod.snd (fun a _ b _ => rfl)).trans ?_
      rw [List.map_snd_zip (by omega)]
    · obtain ⟨j, hj⟩ := List.mem_iff_getElem?.mp (hperm.mem_iff.mp ht)
      obtain ⟨j1, j2⟩ := List.getElem?_zip_eq_some.mp hj
      obtain ⟨vs, ⟨i, z, i1, i2, ev⟩, hH⟩ := qt t.1 (List.mem_of_getElem? j1)
      have eij : j = i := (List.getElem?_inj (List.getElem?_eq_some_iff.mp j1).1 nd).mp (j1.trans i1.symm)
      subst eij
      obtain rfl : z = t.2 := Option.some.inj (i2.symm.trans j2)
      rw [ev] at hH
      exact hH
end K11

/-! The text by places; the small checks. -/
namespace K11
open PySem PySem.Spec PyProof.Rows L2
def topS (i : Nat) : Stmt := PySem.Challenge.pw_everypiece_k11_whole_order_and_lengths.main.body.getD i (.Pass ⟨0, 0, 0, 0⟩)

/-! ### a def that may be called by its name -/
structure Dn (K : PySem.W.Frag) (mg : Str → Option Value) (x : Str) (st : Stmt) (ps : List Str) (f : Addr) (fd : FuncData) : Prop where
  F : L2.Fun K x x st f fd
  g : mg x = some (.ref f)
  b : Binds K fd ps []
structure Co (P : Program) (w : World) (K : PySem.W.Frag) (mg : Str → Option Value) (base : Heap) (k : Nat) (x : Str) (sp : Sp) : Prop where
  ex : ∃ (f : Addr) (fd : FuncData) (ps : List Str), FnOk P w K mg base L2.CX0 k f fd ps sp ∧ mg x = some (.ref f) ∧ PySem.W.keepIn K (.ref f) = true ∧ Binds K fd ps []
def tCo (sp : Sp) (t : TA) : TE := fun σ H Q => t σ H fun vs H1 => sp vs H1 Q L2.E0
theorem tCo_eq (sp : Sp) (t : TA) : tCo sp t = tCall sp [] L2.E0 t := by
  funext σ H Q
  unfold tCo tCall
  congr 1
  funext vs H1
  rw [List.append_nil]
theorem pe_co {X : Cx} {k j : Nat} {x : Str} {sp : Sp} {e : Expr} {es : List Expr} {t : TA} {p pos : Pos} (c : Co X.prog X.w X.K X.mg X.base k x sp) (hr : Room j X.A) (hk : k ≤ j) (hg : Gl X x) (ha : PA X (e :: es) t)
    (hd : (x == ("__debug__" : Str)) = false := by decide) (he : starEach (e :: es) X.env = (false, eval e X.env) :: starEach es X.env := by rfl) (hpl : (backTo pos (starEach es X.env)).any (·.1) = false := by rfl) :
    PE X (.Call (.Name x p) (e :: es) [] pos) (tCo sp t) := by
  obtain ⟨f, fd, ps, F, hm, hkp, hb⟩ := c.ex
  rw [tCo_eq]
  exact pe_call F (hr.mono hk) hg hm hkp hb .nil L2.pass0 ha hd he hpl
section
variable {P : Program} {w : World} {K : PySem.W.Frag} {mg : Str → Option Value} {base : Heap}
theorem Co.mk' {x : Str} {st : Stmt} {N ps : List Str} {f : Addr} {fd : FuncData} {k : Nat} {sp : Sp} (D : Dn K mg x st ps f fd) (Sc : FnScope N ps (defScope st)) (len : ∀ vs H Q E, sp vs H Q E → vs.length = ps.length)
    (hbody : ∀ (cdv : Value) (A : Around) (outer : List Env) (s : Shared) (H : Hp) (vs : List V) (Q : VK) (E : XK), Room k (A.deeper (envOfC x (defScope st) s.heap.objs.size f cdv)) → sp vs H Q E →
      ∃ t, PSs (cxOf L2.CX0 P w K mg base N x (defScope st) f cdv A outer s H E).nox (defBody st) t ∧ t { nx := fun _ H' => Q .non H', rt := Q } (start N vs) H) : Co P w K mg base (k + 1) x sp :=
  ⟨f, fd, ps, D.F.ok Sc len hbody, D.g, D.F.kp, D.b⟩
theorem Co.mono {j k : Nat} {x : Str} {sp : Sp} (c : Co P w K mg base j x sp) (h : j ≤ k) : Co P w K mg base k x sp :=
  let ⟨f, fd, ps, F, hm, hkp, hb⟩ := c.ex
  ⟨f, fd, ps, F.mono h, hm, hkp, hb⟩
end

/-! ### what the built-ins' names are -/
structure Blt (mg : Str → Option Value) : Prop where
  isi : mg "isinstance" = none
  int : mg "int" = none
  bool : mg "bool" = none
  tuple : mg "tuple" = none
  list : mg "list" = none
  str : mg "str" = none
  all : mg "all" = none
  len : mg "len" = none
  sum : mg "sum" = none
  enum : mg "enumerate" = none
  range : mg "range" = none
  sorted : mg "sorted" = none
  max : mg "max" = none
  min : mg "min" = none
  zip : mg "zip" = none
/-- the module's constants -/
structure Cst (mg : Str → Option Value) : Prop where
  signs : ∃ t, mg "MOST_SIGNS" = some (.int 2000 t)
  first : ∃ t, mg "FIRST_SIGN" = some (.str (Str.ofString " ") t)
  last : ∃ t, mg "LAST_SIGN" = some (.str (Str.ofString "~") t)
  texts : ∃ t, mg "MOST_TEXTS" = some (.int 8 t)

/-! ### heaps -/
theorem same_upd {H : Hp} {p : Addr} {o : HO} (h : H p = none) : Same H (upd H p o) := fun b x e => by
  rw [upd_ne (ne_of_none e h)]
  exact e
/-- an object that H does not know may change -/
theorem _root_.L2.Same.mut {H H' : Hp} {p : Addr} {o : HO} (e : Same H H') (h : H p = none) : Same H (upd H' p o) := fun a u ha => by
  rw [upd_ne (ne_of_none ha h)]
  exact e a u ha
theorem _root_.L2.Same.seqT {K : PySem.W.Frag} {H H' : Hp} {a : Addr} {xs : List V} (e : Same H H') (h : SqT K H a xs) : SqT K H' a xs := by
  rcases h with (h | ⟨o, h⟩) | h
  · exact .inl (.inl (e _ _ h))
  · exact .inl (.inr ⟨o, e _ _ h⟩)
  · exact .inr h
theorem small_le {n : Nat} (h : n ≤ 100000) : n ≤ sizeLine := Nat.le_trans h (by decide)
theorem small_lt {n : Nat} (h : n < 100000) : n < sizeLine := Nat.lt_of_lt_of_le h (by decide)
mutual
theorem same_dp {K : PySem.W.Frag} {H H' : Hp} (s : Same H H') : ∀ {d : PyData} {v : V}, Dp K H v d → Dp K H' v d
  | _, _, .non => .non
  | _, _, .bl b => .bl b
  | _, _, .int i => .int i
  | _, _, .str x => .str x
  | _, _, .lst h t => .lst (s.seq h) (same_dpAll s t)
  | _, _, .tup h t => .tup (s.seqT h) (same_dpAll s t)
theorem same_dpAll {K : PySem.W.Frag} {H H' : Hp} (s : Same H H') : ∀ {ds : List PyData} {vs : List V}, DpAll K H vs ds → DpAll K H' vs ds
  | _, _, .nil => .nil
  | _, _, .cons h t => .cons (same_dp s h) (same_dpAll s t)
end

/-! ### is_integer, is_within, is_below -/
section
variable {P : Program} {w : World} {K : PySem.W.Frag} {mg : Str → Option Value} {base : Heap}
abbrev s_is_integer : Stmt := topS 8
abbrev s_is_within : Stmt := topS 9
abbrev s_is_below : Stmt := topS 10
abbrev s_is_sized : Stmt := topS 11
abbrev s_is_pair : Stmt := topS 12
abbrev s_is_listed : Stmt := topS 13
abbrev s_are_signs : Stmt := topS 14
theorem sc_is_integer : FnScope ["thing"] ["thing"] (defScope s_is_integer) := ⟨rfl, rfl, rfl, by decide +kernel, rfl, by decide +kernel, by decide +kernel⟩
theorem sc_is_within : FnScope ["thing", "least", "most"] ["thing", "least", "most"] (defScope s_is_within) := ⟨rfl, rfl, rfl, by decide +kernel, rfl, by decide +kernel, by decide +kernel⟩
theorem sc_is_below : FnScope ["thing", "many"] ["thing", "many"] (defScope s_is_below) := ⟨rfl, rfl, rfl, by decide +kernel, rfl, by decide +kernel, by decide +kernel⟩
theorem sc_is_sized : FnScope ["thing", "least", "most"] ["thing", "least", "most"] (defScope s_is_sized) := ⟨rfl, rfl, rfl, by decide +kernel, rfl, by decide +kernel, by decide +kernel⟩
theorem sc_is_pair : FnScope ["thing"] ["thing"] (defScope s_is_pair) := ⟨rfl, rfl, rfl, by decide +kernel, rfl, by decide +kernel, by decide +kernel⟩
theorem sc_is_listed : FnScope ["thing"] ["thing"] (defScope s_is_listed) := ⟨rfl, rfl, rfl, by decide +kernel, rfl, by decide +kernel, by decide +kernel⟩
theorem sc_are_signs : FnScope ["thing", "sign"] ["thing"] (defScope s_are_signs) := ⟨rfl, rfl, rfl, by decide +kernel, rfl, by decide +kernel, by decide +kernel⟩
def sp_is_integer : Sp := fun vs H Q _ => ∃ i : Int, vs = [.int i] ∧ Q (.bl true) H
theorem co_is_integer {f : Addr} {fd : FuncData} (B : Blt mg) (D : Dn K mg "is_integer" s_is_integer ["thing"] f fd) : Co P w K mg base 1 "is_integer" sp_is_integer := by
  refine Co.mk' D sc_is_integer (fun vs H Q E h => ?_) (fun cdv A outer s H vs Q E hr h => ?_)
  · obtain ⟨i, rfl, _⟩ := h
    rfl
  · obtain ⟨i, rfl, q⟩ := h
    refine ⟨_, pss_one (ps_ret (pe_and (pe_callB call_isi (by rfl) B.isi boot_isinstance (pa_cons (pv 0) (pa_cons (pe_bltn (v := .ty "int") (by rfl) B.int PyProof.Rows.boot_int rfl) pa_nil)))
      (pe_one (pe_not (pe_callB call_isi (by rfl) B.isi boot_isinstance (pa_cons (pv 0) (pa_cons (pe_bltn (v := .ty "bool") (by rfl) B.bool PyProof.Rows.boot_bool rfl) pa_nil))))))), ?_⟩
    refine ⟨_, rfl, .int i, .ty "int", .type "int", .type "int", true, rfl, .ty "int", .base (.int i), kit_ty (by decide +kernel), true, rfl, iteT ?_⟩
    exact ⟨_, rfl, .int i, .ty "bool", .type "int", .type "bool", false, rfl, .ty "bool", .base (.int i), kit_ty (by decide +kernel), false, rfl, q⟩
def sp_is_within : Sp := fun vs H Q _ => ∃ i l m : Int, vs = [.int i, .int l, .int m] ∧ Q (.bl (decide (l ≤ i ∧ i ≤ m))) H
theorem co_is_within {f : Addr} {fd : FuncData} (C1 : Co P w K mg base 1 "is_integer" sp_is_integer) (D : Dn K mg "is_within" s_is_within ["thing", "least", "most"] f fd) : Co P w K mg base 2 "is_within" sp_is_within := by
  refine Co.mk' D sc_is_within (fun vs H Q E h => ?_) (fun cdv A outer s H vs Q E hr h => ?_)
  · obtain ⟨i, l, m, rfl, _⟩ := h
    rfl
  · obtain ⟨i, l, m, rfl, q⟩ := h
    refine ⟨_, pss_one (ps_ret (pe_and (pe_co C1 hr (by decide) (by rfl) (pa_cons (pv 0) pa_nil)) (pe_one (pe_chain op_le op_le (pv 1) (pv 0) (pv 2))))), ?_⟩
    refine ⟨_, rfl, i, rfl, true, rfl, iteT ?_⟩
    refine ⟨_, rfl, _, rfl, l, i, rfl, rfl, _, rfl, ?_⟩
    by_cases h1 : l ≤ i
    · rw [if_pos (decide_eq_true h1)]
      refine ⟨_, rfl, i, m, rfl, rfl, ?_⟩
      show Q (.bl (decide (i ≤ m))) H
      have e : decide (i ≤ m) = decide (l ≤ i ∧ i ≤ m) := by simp [h1]
      rw [e]
      exact q
    · rw [if_neg (by simp [h1])]
      show Q (.bl false) H
      have e : false = decide (l ≤ i ∧ i ≤ m) := by simp [h1]
      rw [e]
      exact q
def sp_is_below : Sp := fun vs H Q _ => ∃ i n : Int, vs = [.int i, .int n] ∧ Q (.bl (decide (0 ≤ i ∧ i < n))) H
theorem co_is_below {f : Addr} {fd : FuncData} (C1 : Co P w K mg base 2 "is_within" sp_is_within) (D : Dn K mg "is_below" s_is_below ["thing", "many"] f fd) : Co P w K mg base 3 "is_below" sp_is_below := by
  refine Co.mk' D sc_is_below (fun vs H Q E h => ?_) (fun cdv A outer s H vs Q E hr h => ?_)
  · obtain ⟨i, n, rfl, _⟩ := h
    rfl
  · obtain ⟨i, n, rfl, q⟩ := h
    refine ⟨_, pss_one (ps_ret (pe_co C1 hr (by decide) (by rfl) (pa_cons (pv 0) (pa_cons pe_int (pa_cons (pe_op op_sub (pv 1) pe_int) pa_nil))))), ?_⟩
    refine ⟨_, rfl, _, rfl, n, 1, rfl, rfl, i, 0, n - 1, rfl, ?_⟩
    have e : decide (0 ≤ i ∧ i ≤ n - 1) = decide (0 ≤ i ∧ i < n) := by
      congr 1
      apply propext
      omega
    rw [e]
    exact q
/-! ### is_sized, is_pair, is_listed -/
def sp_is_sized : Sp := fun vs H Q _ => ∃ (a : Addr) (xs : List V) (l m : Int), vs = [.ref a, .int l, .int m] ∧ H a = some (.tup xs) ∧ Q (.bl (decide (l ≤ xs.length ∧ (xs.length : Int) ≤ m))) H
theorem co_is_sized {f : Addr} {fd : FuncData} (B : Blt mg) (D : Dn K mg "is_sized" s_is_sized ["thing", "least", "most"] f fd) : Co P w K mg base 1 "is_sized" sp_is_sized := by
  refine Co.mk' D sc_is_sized (fun vs H Q E h => ?_) (fun cdv A outer s H vs Q E hr h => ?_)
  · obtain ⟨a, xs, l, m, rfl, _⟩ := h
    rfl
  · obtain ⟨a, xs, l, m, rfl, ha, q⟩ := h
    refine ⟨_, pss_one (ps_ret (pe_and (pe_callB call_isi (by rfl) B.isi boot_isinstance (pa_cons (pv 0) (pa_cons (pe_bltn (v := .ty "tuple") (by rfl) B.tuple PyProof.Rows.boot_tuple rfl) pa_nil)))
      (pe_one (pe_chain op_le op_le (pv 1) (pe_callB call_len_seq (by rfl) B.len PySem.boot_len (pa_cons (pv 0) pa_nil)) (pv 2))))), ?_⟩
    refine ⟨_, rfl, .ref a, .ty "tuple", .type "tuple", .type "tuple", true, rfl, .ty "tuple", .base (.tup ha), kit_ty (by decide +kernel), true, rfl, iteT ?_⟩
    refine ⟨_, rfl, _, rfl, a, xs, rfl, .inr (SqT.of ha), l, (xs.length : Int), rfl, rfl, _, rfl, ?_⟩
    by_cases h1 : l ≤ (xs.length : Int)
    · rw [if_pos (decide_eq_true h1)]
      refine ⟨_, rfl, (xs.length : Int), m, rfl, rfl, ?_⟩
      show Q (.bl (decide ((xs.length : Int) ≤ m))) H
      have e : decide ((xs.length : Int) ≤ m) = decide (l ≤ xs.length ∧ (xs.length : Int) ≤ m) := by simp [h1]
      rw [e]
      exact q
    · rw [if_neg (by simp [h1])]
      show Q (.bl false) H
      have e : false = decide (l ≤ xs.length ∧ (xs.length : Int) ≤ m) := by simp [h1]
      rw [e]
      exact q
def sp_is_pair : Sp := fun vs H Q _ => ∃ (a : Addr) (x y : V), vs = [.ref a] ∧ H a = some (.tup [x, y]) ∧ Q (.bl true) H
theorem co_is_pair {f : Addr} {fd : FuncData} (C1 : Co P w K mg base 1 "is_sized" sp_is_sized) (D : Dn K mg "is_pair" s_is_pair ["thing"] f fd) : Co P w K mg base 2 "is_pair" sp_is_pair := by
  refine Co.mk' D sc_is_pair (fun vs H Q E h => ?_) (fun cdv A outer s H vs Q E hr h => ?_)
  · obtain ⟨a, x, y, rfl, _⟩ := h
    rfl
  · obtain ⟨a, x, y, rfl, ha, q⟩ := h
    refine ⟨_, pss_one (ps_ret (pe_co C1 hr (by decide) (by rfl) (pa_cons (pv 0) (pa_cons pe_int (pa_cons pe_int pa_nil))))), ?_⟩
    exact ⟨_, rfl, a, _, 2, 2, rfl, ha, q⟩
def sp_is_listed : Sp := fun vs H Q _ => ∃ (a : Addr) (xs : List V), vs = [.ref a] ∧ H a = some (.lst xs) ∧ ∀ H', Same H H' → Q (.bl true) H'
theorem co_is_listed {f : Addr} {fd : FuncData} (B : Blt mg) (D : Dn K mg "is_listed" s_is_listed ["thing"] f fd) : Co P w K mg base 1 "is_listed" sp_is_listed := by
  refine Co.mk' D sc_is_listed (fun vs H Q E h => ?_) (fun cdv A outer s H vs Q E hr h => ?_)
  · obtain ⟨a, xs, rfl, _⟩ := h
    rfl
  · obtain ⟨a, xs, rfl, ha, q⟩ := h
    refine ⟨_, pss_one (ps_ret (pe_callB call_isiT (by rfl) B.isi boot_isinstance (pa_cons (pv 0) (pa_cons (pe_tup (pa_cons (pe_bltn (v := .ty "list") (by rfl) B.list PyProof.Rows.boot_list rfl) (pa_cons (pe_bltn (v := .ty "tuple") (by rfl) B.tuple PyProof.Rows.boot_tuple rfl) pa_nil))) pa_nil)))), ?_⟩
    refine ⟨_, rfl, (by show 2 ≤ sizeLine; decide), fun p hp => ?_⟩
    have s1 : Same H (upd H p (.tup [.ty "list", .ty "tuple"])) := same_upd hp
    exact ⟨.ref a, p, [.ty "list", .ty "tuple"], .type "list", [.type "list", .type "tuple"], true, rfl, upd_same, .cons (.ty _) (.cons (.ty _) .nil), .base (.lst (s1 _ _ ha)),
      kitAny_cons (b := true) (kit_ty (by decide +kernel)) (fun z => nomatch z) (fun _ => rfl), q _ s1⟩
end
end K11

/-! are_signs, first_wrong, Library, is_place, check_place, ending_at. -/
namespace K11
open PySem PySem.Spec PyProof.Rows L2
section
variable {P : Program} {w : World} {K : PySem.W.Frag} {mg : Str → Option Value} {base : Heap}
/-- a test's not, where the test is true -/
theorem iteNT {c : Bool} {A B : Prop} (hc : c = true) (h : B) : if (!c) = true then A else B := by
  rw [hc]
  exact iteF h
theorem iteIs {c : Bool} {A B : Prop} (hc : c = true) (h : A) : if c = true then A else B := by
  rw [hc]
  exact iteT h
theorem iteIsn {c : Bool} {A B : Prop} (hc : c = false) (h : B) : if c = true then A else B := by
  rw [hc]
  exact iteF h
/-- a sign of the package -/
def isSign (c : Nat) : Prop := 32 ≤ c ∧ c ≤ 126
theorem sp_list : (Str.ofString " ").cps.toList = [32] := by decide +kernel
theorem ti_list : (Str.ofString "~").cps.toList = [126] := by decide +kernel
theorem sign_ge {c : Nat} (h : isSign c) : (!decide (([c] : List Nat) < [32])) = true := by
  have : ¬ ([c] : List Nat) < [32] := by
    rw [List.cons_lt_cons_iff]
    unfold isSign at h
    simp
    omega
  simp [this]
theorem sign_le {c : Nat} (h : isSign c) : (!decide (([126] : List Nat) < [c])) = true := by
  have : ¬ ([126] : List Nat) < [c] := by
    rw [List.cons_lt_cons_iff]
    unfold isSign at h
    simp
    omega
  simp [this]
def sp_are_signs : Sp := fun vs H Q _ => ∃ t : List Nat, vs = [.str (S t)] ∧ t.length ≤ 2000 ∧ (∀ c ∈ t, isSign c) ∧ ∀ H', Same H H' → Q (.bl true) H'
theorem co_are_signs {f : Addr} {fd : FuncData} (B : Blt mg) (C : Cst mg) (D : Dn K mg "are_signs" s_are_signs ["thing"] f fd) : Co P w K mg base 1 "are_signs" sp_are_signs := by
  obtain ⟨t1, c1⟩ := C.first
  obtain ⟨t2, c2⟩ := C.last
  refine Co.mk' D sc_are_signs (fun vs H Q E h => ?_) (fun cdv A outer s H vs Q E hr h => ?_)
  · obtain ⟨t, rfl, _⟩ := h
    rfl
  · obtain ⟨t, rfl, hl, hs, q⟩ := h
    refine ⟨_, pss_one (ps_ret (pe_and (pe_callB call_isi (by rfl) B.isi boot_isinstance (pa_cons (pv 0) (pa_cons (pe_bltn (v := .ty "str") (by rfl) B.str PyProof.Rows.boot_str rfl) pa_nil)))
      (pe_one (pe_callB (cr_all rfl) (by rfl) B.all boot_all (pa_cons (pe_lc (own := [("sign", 1)]) (g := gName 1) (tt := tYes) rfl sc_are_signs.nd (pi_str (pv 0)) (blkOk_by (own := [("sign", 1)]) (N := ["thing", "sign"]) (sc := defScope s_are_signs) (by decide +kernel)) (fun _ _ _ _ _ => pg_name (i := 1) sc_are_signs.nd rfl (Or.inl rfl)) (fun _ _ _ _ _ => pts_nil)
        (fun _ _ _ _ _ => pe_chain op_le_str op_le_str (pe_glob (v := .str (Str.ofString " ")) rfl c1 ⟨_, rfl⟩) (pv 1) (pe_glob (v := .str (Str.ofString "~")) rfl c2 ⟨_, rfl⟩))) pa_nil))))), ?_⟩
    refine ⟨_, rfl, .str (S t), .ty "str", .type "str", .type "str", true, rfl, .ty "str", .base (.str (S t)), kit_ty (by decide +kernel), true, rfl, iteT ?_⟩
    refine ⟨_, rfl, S t, rfl, fun D nD => lc_it walk_str (fun i H1 => Same H H1 ∧ H1 D = some (.lst ((List.replicate i true).map V.bl))) ⟨same_upd nD, upd_same⟩ (fun _ _ _ _ => True.intro) ?_ ?_⟩
    · rintro i x H1 H2 hi ⟨s1, hD⟩ ⟨rfl, c, hc, rfl⟩
      have hcs : isSign c := hs c (by
        have : t.toArray[i]? = some c := hc
        rw [List.getElem?_toArray] at this
        exact List.mem_of_getElem? this)
      have hi' : i < t.length := by
        have : i < t.toArray.size := hi
        simpa using this
      refine ⟨rfl, _, rfl, Str.ofString " ", ⟨#[c]⟩, rfl, rfl, _, rfl, ?_⟩
      rw [sp_list]
      show (if (!decide (([c] : List Nat) < [32])) = true then _ else _)
      rw [sign_ge hcs]
      refine iteT ⟨⟨#[c]⟩, Str.ofString "~", rfl, rfl, ?_⟩
      rw [ti_list]
      show ∃ acc, _ ∧ _ ∧ (fun i H1 => Same H H1 ∧ H1 D = some (.lst ((List.replicate i true).map V.bl))) (i + 1) (upd _ D (.lst (acc ++ [.bl (!decide (([126] : List Nat) < [c]))])))
      rw [sign_le hcs]
      refine ⟨_, hD, ?_, ?_, ?_⟩
      · rw [List.length_map, List.length_replicate]
        exact small_lt (by omega)
      · exact s1.mut nD
      · rw [upd_same, List.replicate_succ', List.map_append]
        rfl
    · rintro H1 ⟨s1, hD⟩
      refine ⟨D, _, rfl, SqL.of hD, ?_⟩
      have e : (List.replicate (S t).cps.size true).all id = true := by simp
      rw [e]
      exact q _ s1

/-! ### texts -/
/-- the values of texts -/
abbrev tv (ts : List (List Nat)) : List V := ts.map fun t => V.str (S t)
/-- texts that a library may have -/
structure Okt (ts : List (List Nat)) : Prop where
  many : ts.length ≤ 8
  sum : (ts.map List.length).sum ≤ 2000
  signs : ∀ t ∈ ts, ∀ c ∈ t, isSign c
theorem le_sum : ∀ {l : List Nat} {x : Nat}, x ∈ l → x ≤ l.sum
  | y :: l, x, h => by
    rw [List.sum_cons]
    rcases List.mem_cons.mp h with e | h
    · omega
    · have := le_sum h
      omega
theorem Okt.len {ts : List (List Nat)} (o : Okt ts) {t : List Nat} (h : t ∈ ts) : t.length ≤ 2000 := Nat.le_trans (le_sum (List.mem_map.mpr ⟨t, h, rfl⟩)) o.sum
theorem cast_sum : ∀ l : List Nat, (l.map fun n : Nat => (n : Int)).sum = ((l.sum : Nat) : Int)
  | [] => rfl
  | x :: l => by
    rw [List.map_cons, List.sum_cons, List.sum_cons, cast_sum l]
    omega
abbrev s_first_wrong : Stmt := topS 17
theorem sc_first_wrong : FnScope ["thing", "number", "text"] ["thing"] (defScope s_first_wrong) := ⟨rfl, rfl, rfl, by decide +kernel, rfl, by decide +kernel, by decide +kernel⟩
def sp_first_wrong : Sp := fun vs H Q _ => ∃ (a : Addr) (ts : List (List Nat)), vs = [.ref a] ∧ H a = some (.tup (tv ts)) ∧ Okt ts ∧ ∀ H', Same H H' → Q .non H'
theorem co_first_wrong {f : Addr} {fd : FuncData} (B : Blt mg) (C : Cst mg) (C1 : Co P w K mg base 1 "is_sized" sp_is_sized) (C2 : Co P w K mg base 1 "are_signs" sp_are_signs) (D : Dn K mg "first_wrong" s_first_wrong ["thing"] f fd) : Co P w K mg base 2 "first_wrong" sp_first_wrong := by
  obtain ⟨t1, c1⟩ := C.texts
  obtain ⟨t2, c2⟩ := C.signs
  refine Co.mk' D sc_first_wrong (fun vs H Q E h => ?_) (fun cdv A outer s H vs Q E hr h => ?_)
  · obtain ⟨a, ts, rfl, _⟩ := h
    rfl
  · obtain ⟨a, ts, rfl, ha, ok, q⟩ := h
    refine ⟨_, pss_cons (ps_if (pt_not (pt_val (pe_co C1 hr (by decide) (by rfl) (pa_cons (pv 0) (pa_cons pe_int (pa_cons (pe_glob (v := .int 8) rfl c1 ⟨_, rfl⟩) pa_nil)))))) pss_never pss_nil)
      (pss_cons (ps_for PassesOwn.never rfl (pi_enumT (by rfl) B.enum (pa_cons (pv 0) pa_nil)) (pg_tup rfl (pgs_cons (pg_name (i := 1) sc_first_wrong.nd rfl (.inl rfl)) (pgs_cons (pg_name (i := 2) sc_first_wrong.nd rfl (.inl rfl)) pgs_nil)))
        (pss_one (ps_if (pt_not (pt_val (pe_co C2 hr (by decide) (by rfl) (pa_cons (pv 2) pa_nil)))) pss_never pss_nil)))
      (pss_one (ps_ret (pe_ifExp (pt_cmpR op_gt (pe_callB (cr_sum rfl) (by rfl) B.sum boot_sum (pa_cons (pe_lc (own := [("text", 2)]) (g := gName 2) (tt := tYes) rfl sc_first_wrong.nd (pi_tup (pv 0)) (blkOk_by (own := [("text", 2)]) (N := ["thing", "number", "text"]) (sc := defScope s_first_wrong) (by decide +kernel)) (fun _ _ _ _ _ => pg_name (i := 2) sc_first_wrong.nd rfl (Or.inl rfl)) (fun _ _ _ _ _ => pts_nil)
        (fun _ _ _ _ _ => pe_callB call_len_str (by rfl) B.len PySem.boot_len (pa_cons (pv 2) pa_nil))) pa_nil)) (pe_glob (v := .int 2000) rfl c2 ⟨_, rfl⟩) (nomark _)) pe_str pe_non)))), ?_⟩
    -- is_sized
    refine ⟨_, rfl, a, tv ts, 0, 8, rfl, ha, _, rfl, ?_⟩
    refine iteNT (decide_eq_true ?_) ?_
    · have := ok.many
      rw [List.length_map]
      omega
    -- the loop
    refine ⟨_, rfl, a, tv ts, rfl, SqT.of ha, for_it walk_enumT (fun i σ H1 => ∃ y1 y2, σ = [some (.ref a), y1, y2] ∧ Same H H1) ⟨none, none, rfl, Same.refl _⟩ (fun i σ H1 _ ⟨_, _, _, s1⟩ => SqT.of (s1 _ _ ha)) ?_ ?_⟩
    · rintro i x σ H1 H2 hi ⟨y1, y2, rfl, s1⟩ ⟨T, v, rfl, nT, rfl, hv⟩
      rw [List.getElem?_map] at hv
      obtain ⟨t, ht, rfl⟩ : ∃ t, ts[i]? = some t ∧ V.str (S t) = v := by
        cases e : ts[i]? with
        | none => rw [e] at hv; cases hv
        | some t => rw [e] at hv; exact ⟨t, rfl, Option.some.inj hv⟩
      have hm := List.mem_of_getElem? ht
      refine ⟨T, _, rfl, SqT.of upd_same, rfl, _, _, rfl, _, _, rfl, rfl, ?_⟩
      refine ⟨_, rfl, t, rfl, ok.len hm, ok.signs t hm, fun H3 s3 => ⟨true, rfl, iteF ?_⟩⟩
      exact ⟨_, _, rfl, (s1.trans (same_upd nT)).trans s3⟩
    · rintro σ H1 ⟨y1, y2, rfl, s1⟩
      refine ⟨_, rfl, a, rfl, ⟨_, SqT.of (s1 _ _ ha)⟩, fun D nD => lc_tup (xs := tv ts) (fun i H2 => Same H1 H2 ∧ H2 D = some (.lst (((ts.take i).map fun t => (t.length : Int)).map V.int))) ⟨same_upd nD, upd_same⟩ (fun i H2 _ ⟨s2, _⟩ => SqT.of (s2 _ _ (s1 _ _ ha))) ?_ ?_⟩
      · rintro i x H2 hx ⟨s2, hD⟩
        rw [List.getElem?_map] at hx
        obtain ⟨t, ht, rfl⟩ : ∃ t, ts[i]? = some t ∧ V.str (S t) = x := by
          cases e : ts[i]? with
          | none => rw [e] at hx; cases hx
          | some t => rw [e] at hx; exact ⟨t, rfl, Option.some.inj hx⟩
        have hm := List.mem_of_getElem? ht
        have hil := (List.getElem?_eq_some_iff.mp ht).1
        refine ⟨rfl, _, rfl, S t, rfl, small_le (by have := ok.len hm; rw [S_len]; omega), _, hD, ?_, s2.mut nD, ?_⟩
        · rw [List.length_map, List.length_map, List.length_take]
          have := ok.many
          exact small_lt (by omega)
        · rw [upd_same, List.take_add_one, ht, S_len]
          simp
      · rintro H2 ⟨s2, hD⟩
        have e0 : ts.take (tv ts).length = ts := by rw [List.length_map]; exact List.take_length
        rw [e0] at hD
        refine ⟨D, _, rfl, SqL.of hD, _, 2000, rfl, rfl, _, rfl, ?_⟩
        have e2 : decide ((2000 : Int) < (ts.map fun t => (t.length : Int)).sum) = false := by
          have h1 : (ts.map fun t => (t.length : Int)).sum = (((ts.map List.length).sum : Nat) : Int) := by
            rw [← cast_sum, List.map_map]
            rfl
          rw [h1]
          have := ok.sum
          exact decide_eq_false (by omega)
        rw [e2]
        exact iteF (q _ (s1.trans s2))
end
end K11

/-! Library, is_place, check_place, ending_at, all_places. -/
namespace K11
open PySem PySem.Spec PyProof.Rows L2
section
variable {P : Program} {w : World} {K : PySem.W.Frag} {mg : Str → Option Value} {base : Heap}
/-! ### Library -/
/-- what is known of the class -/
structure LC (K : PySem.W.Frag) (mg : Str → Option Value) (C : Addr) : Prop where
  cl : Cls K C
  n : NoAttr K C "texts"
  g : mg "Library" = some (.ref C)
def lf (tt : Addr) : List (Str × V) := putF "texts" (.ref tt) []
theorem lf_texts (tt : Addr) : (lf tt).lookup ("texts" : Str) = some (.ref tt) := by
  unfold lf
  rw [lookup_putF, if_pos rfl]
/-- a library at l of the texts ts (the tuple at tt) -/
structure Lib (C : Addr) (H : Hp) (l tt : Addr) (ts : List (List Nat)) : Prop where
  ob : ∃ dx, H l = some (.ins C dx (lf tt))
  tx : H tt = some (.tup (tv ts))
  ok : Okt ts
theorem Lib.same {C l tt : Addr} {H H' : Hp} {ts : List (List Nat)} (L : Lib C H l tt ts) (s : Same H H') : Lib C H' l tt ts :=
  let ⟨dx, h⟩ := L.ob
  ⟨⟨dx, s _ _ h⟩, s _ _ L.tx, L.ok⟩
abbrev s_init : Stmt := inClass (topS 18) 0
theorem sc_init : FnScope ["self", "texts", "part"] ["self", "texts"] (defScope s_init) := ⟨rfl, rfl, rfl, by decide +kernel, rfl, by decide +kernel, by decide +kernel⟩
def sp_init (C : Addr) : Sp := fun vs H Q _ => ∃ (p dx tt : Addr) (ts : List (List Nat)), vs = [.ref p, .ref tt] ∧ H p = some (.ins C dx []) ∧ H tt = some (.tup (tv ts)) ∧ Okt ts ∧
  ∀ H', Lib C H' p tt ts → (∀ b o, H b = some o → b ≠ p → H' b = some o) → Q .non H'
theorem ok_init {f C : Addr} {fd : FuncData} (F : L2.Fun K "__init__" "Library.__init__" s_init f fd) (T : LC K mg C) (C1 : Co P w K mg base 2 "first_wrong" sp_first_wrong) : FnOk P w K mg base L2.CX0 3 f fd ["self", "texts"] (sp_init C) := by
  refine F.ok sc_init (fun vs H Q E h => ?_) (fun cdv A outer s H vs Q E hr h => ?_)
  · obtain ⟨p, dx, tt, ts, rfl, _⟩ := h
    rfl
  · obtain ⟨p, dx, tt, ts, rfl, hp, ht, ok, q⟩ := h
    refine ⟨_, pss_cons (ps_set (i := 2) sc_init.nd rfl (.inl rfl) (pe_co C1 hr (by decide) (by rfl) (pa_cons (pv 1) pa_nil)))
      (pss_cons (ps_if (pt_cmpR op_notN (pv 2) pe_non (nomark _)) pss_never pss_nil)
      (pss_one (ps_fld (pv 0) (pv 1) rfl))), ?_⟩
    refine ⟨_, rfl, tt, ts, rfl, ht, ok, fun H1 s1 => ?_⟩
    refine ⟨_, rfl, rfl, _, rfl, ?_⟩
    refine ⟨_, rfl, _, rfl, p, C, dx, [], rfl, s1 _ _ hp, T.cl, T.n, (by show 0 < 1000; decide), ?_⟩
    have hne : tt ≠ p := ne_of ht hp (by intro z; cases z)
    refine q _ ⟨⟨dx, upd_same⟩, by rw [upd_ne hne]; exact s1 _ _ ht, ok⟩ fun b o e hb => ?_
    rw [upd_ne hb]
    exact s1 _ _ e

/-! ### is_place, check_place, ending_at -/
abbrev s_is_place : Stmt := topS 19
abbrev s_check_place : Stmt := topS 20
abbrev s_all_places : Stmt := topS 21
abbrev s_ending_at : Stmt := topS 22
theorem sc_is_place : FnScope ["library", "thing"] ["library", "thing"] (defScope s_is_place) := ⟨rfl, rfl, rfl, by decide +kernel, rfl, by decide +kernel, by decide +kernel⟩
theorem sc_check_place : FnScope ["library", "thing"] ["library", "thing"] (defScope s_check_place) := ⟨rfl, rfl, rfl, by decide +kernel, rfl, by decide +kernel, by decide +kernel⟩
theorem sc_ending_at : FnScope ["library", "place"] ["library", "place"] (defScope s_ending_at) := ⟨rfl, rfl, rfl, by decide +kernel, rfl, by decide +kernel, by decide +kernel⟩
/-- a place as it stands in the heap -/
abbrev plV (p : KM.Pl) : HO := .tup [.int (p.1 : Int), .int (p.2 : Int)]
theorem txt_get {ts : List (List Nat)} {p : KM.Pl} (h : KM.IsPl ts p) : (tv ts)[p.1]? = some (.str (S (KM.txt ts p.1))) := by
  unfold KM.txt
  rw [List.getElem?_map, List.getElem?_eq_getElem h.1, List.getD_eq_getElem?_getD, List.getElem?_eq_getElem h.1]
  rfl
theorem txt_mem {ts : List (List Nat)} {p : KM.Pl} (h : KM.IsPl ts p) : KM.txt ts p.1 ∈ ts := by
  unfold KM.txt
  rw [List.getD_eq_getElem?_getD, List.getElem?_eq_getElem h.1]
  exact List.getElem_mem h.1
def sp_is_place (C : Addr) : Sp := fun vs H Q _ => ∃ (l tt a : Addr) (ts : List (List Nat)) (p : KM.Pl), vs = [.ref l, .ref a] ∧ Lib C H l tt ts ∧ H a = some (plV p) ∧ KM.IsPl ts p ∧ Q (.bl true) H
theorem co_is_place {f C : Addr} {fd : FuncData} (B : Blt mg) (T : LC K mg C) (C1 : Co P w K mg base 2 "is_pair" sp_is_pair) (C2 : Co P w K mg base 3 "is_below" sp_is_below) (D : Dn K mg "is_place" s_is_place ["library", "thing"] f fd) : Co P w K mg base 4 "is_place" (sp_is_place C) := by
  refine Co.mk' D sc_is_place (fun vs H Q E h => ?_) (fun cdv A outer s H vs Q E hr h => ?_)
  · obtain ⟨l, tt, a, ts, p, rfl, _⟩ := h
    rfl
  · obtain ⟨l, tt, a, ts, p, rfl, L, ha, hp, q⟩ := h
    obtain ⟨dx, ho⟩ := L.ob
    refine ⟨_, pss_cons (ps_if (PW.pt (pw_or (pt_not (pt_val (pe_co C1 hr (by decide) (by rfl) (pa_cons (pv 1) pa_nil)))) (pw_or1 (pt_not (pt_val (pe_co C2 hr (by decide) (by rfl) (pa_cons (pe_ix ix_tup (pv 1) pe_int (fun _ _ => rfl)) (pa_cons (pe_callB call_len_seq (by rfl) B.len PySem.boot_len (pa_cons (pe_fld (pv 0) rfl) pa_nil)) pa_nil)))))))) (pss_one (ps_ret pe_bl)) pss_nil)
      (pss_one (ps_ret (pe_co C2 hr (by decide) (by rfl) (pa_cons (pe_ix ix_tup (pv 1) pe_int (fun _ _ => rfl)) (pa_cons (pe_callB call_len_str (by rfl) B.len PySem.boot_len (pa_cons (pe_ix ix_tup (pe_fld (pv 0) rfl) (pe_ix ix_tup (pv 1) pe_int (fun _ _ => rfl)) (fun _ _ => rfl)) pa_nil)) pa_nil))))), ?_⟩
    refine ⟨_, rfl, a, _, _, rfl, ha, true, rfl, iteF ?_⟩
    refine ⟨_, rfl, a, _, 0, .int (p.1 : Int), rfl, rfl, SqT.of ha, atI_nat (j := 0) rfl, ?_⟩
    refine ⟨_, rfl, l, C, dx, lf tt, .ref tt, rfl, ho, T.cl, T.n, lf_texts tt, tt, tv ts, rfl, .inr (SqT.of L.tx), _, _, rfl, _, rfl, ?_⟩
    refine iteNT (decide_eq_true ?_) ?_
    · have := hp.1
      rw [List.length_map]
      omega
    · refine ⟨_, rfl, a, _, 1, .int (p.2 : Int), rfl, rfl, SqT.of ha, atI_nat (j := 1) rfl, ?_⟩
      refine ⟨_, rfl, l, C, dx, lf tt, .ref tt, rfl, ho, T.cl, T.n, lf_texts tt, ?_⟩
      refine ⟨_, rfl, a, _, 0, .int (p.1 : Int), rfl, rfl, SqT.of ha, atI_nat (j := 0) rfl, ?_⟩
      refine ⟨tt, tv ts, (p.1 : Int), _, rfl, rfl, SqT.of L.tx, atI_nat (txt_get hp), ?_⟩
      refine ⟨S (KM.txt ts p.1), rfl, small_le (by have := L.ok.len (txt_mem hp); rw [S_len]; omega), _, _, rfl, ?_⟩
      have e : decide (0 ≤ (p.2 : Int) ∧ (p.2 : Int) < ((S (KM.txt ts p.1)).length : Int)) = true := by
        have := hp.2
        rw [S_len]
        exact decide_eq_true (by omega)
      rw [e]
      exact q
def sp_check_place (C : Addr) : Sp := fun vs H Q _ => ∃ (l tt a : Addr) (ts : List (List Nat)) (p : KM.Pl), vs = [.ref l, .ref a] ∧ Lib C H l tt ts ∧ H a = some (plV p) ∧ KM.IsPl ts p ∧ Q .non H
theorem co_check_place {f C : Addr} {fd : FuncData} (C1 : Co P w K mg base 4 "is_place" (sp_is_place C)) (D : Dn K mg "check_place" s_check_place ["library", "thing"] f fd) : Co P w K mg base 5 "check_place" (sp_check_place C) := by
  refine Co.mk' D sc_check_place (fun vs H Q E h => ?_) (fun cdv A outer s H vs Q E hr h => ?_)
  · obtain ⟨l, tt, a, ts, p, rfl, _⟩ := h
    rfl
  · obtain ⟨l, tt, a, ts, p, rfl, L, ha, hp, q⟩ := h
    refine ⟨_, pss_one (ps_if (pt_not (pt_val (pe_co C1 hr (by decide) (by rfl) (pa_cons (pv 0) (pa_cons (pv 1) pa_nil))))) pss_never pss_nil), ?_⟩
    exact ⟨_, rfl, _, rfl, l, tt, a, ts, p, rfl, L, ha, hp, true, rfl, iteF q⟩
theorem cut_from (t : List Nat) {k : Nat} (h : k ≤ t.length) : cutS (S t) (some (k : Int)) none = S (t.drop k) := by
  unfold cutS
  rw [HT.sIx_nat, HT.sIx_none, S_len, Nat.min_eq_left h, S_list]
  show S ((t.drop k).take (t.length - k)) = _
  rw [List.take_of_length_le (by rw [List.length_drop]; exact Nat.le_refl _)]
def sp_ending_at (C : Addr) : Sp := fun vs H Q _ => ∃ (l tt a : Addr) (ts : List (List Nat)) (p : KM.Pl), vs = [.ref l, .ref a] ∧ Lib C H l tt ts ∧ H a = some (plV p) ∧ KM.IsPl ts p ∧ Q (.str (S (KM.suf ts p))) H
theorem co_ending_at {f C : Addr} {fd : FuncData} (T : LC K mg C) (D : Dn K mg "ending_at" s_ending_at ["library", "place"] f fd) : Co P w K mg base 1 "ending_at" (sp_ending_at C) := by
  refine Co.mk' D sc_ending_at (fun vs H Q E h => ?_) (fun cdv A outer s H vs Q E hr h => ?_)
  · obtain ⟨l, tt, a, ts, p, rfl, _⟩ := h
    rfl
  · obtain ⟨l, tt, a, ts, p, rfl, L, ha, hp, q⟩ := h
    obtain ⟨dx, ho⟩ := L.ob
    refine ⟨_, pss_one (ps_ret (pe_slice sl_str (pe_ix ix_tup (pe_fld (pv 0) rfl) (pe_ix ix_tup (pv 1) pe_int (fun _ _ => rfl)) (fun _ _ => rfl)) (po_some (pe_ix ix_tup (pv 1) pe_int (fun _ _ => rfl))) po_none)), ?_⟩
    refine ⟨_, rfl, l, C, dx, lf tt, .ref tt, rfl, ho, T.cl, T.n, lf_texts tt, ?_⟩
    refine ⟨_, rfl, a, _, 0, .int (p.1 : Int), rfl, rfl, SqT.of ha, atI_nat (j := 0) rfl, ?_⟩
    refine ⟨tt, tv ts, (p.1 : Int), _, rfl, rfl, SqT.of L.tx, atI_nat (txt_get hp), ?_⟩
    refine ⟨_, rfl, a, _, 1, .int (p.2 : Int), rfl, rfl, SqT.of ha, atI_nat (j := 1) rfl, _, rfl, ?_⟩
    refine ⟨S (KM.txt ts p.1), rfl, small_le (by have := L.ok.len (txt_mem hp); rw [S_len]; omega), ?_⟩
    rw [cut_from _ (Nat.le_of_lt hp.2)]
    exact q
end
end K11

/-! all_places -/
namespace K11
open PySem PySem.Spec PyProof.Rows L2
/-- places as they stand in the heap -/
abbrev Pls (H : Hp) : List Addr → List KM.Pl → Prop := Paired fun a p => H a = some (plV p)
theorem paired_app {α β : Type} {R : α → β → Prop} : ∀ {as : List α} {bs : List β} {cs : List α} {ds : List β}, Paired R as bs → Paired R cs ds → Paired R (as ++ cs) (bs ++ ds)
  | _, _, _, _, .nil, h => h
  | _, _, _, _, .cons r t, h => .cons r (paired_app t h)
theorem paired_get {α β : Type} {R : α → β → Prop} : ∀ {as : List α} {bs : List β} {i : Nat} {b : β}, Paired R as bs → bs[i]? = some b → ∃ a, as[i]? = some a ∧ R a b
  | _, _, i, b, .nil, h => by simp at h
  | _, _, 0, b, .cons (a := a) r t, h => by
    have e := Option.some.inj h
    exact ⟨a, rfl, by rw [← e]; exact r⟩
  | _, _, i + 1, b, .cons r t, h => by
    rw [List.getElem?_cons_succ] at h
    obtain ⟨a, h1, h2⟩ := paired_get t h
    exact ⟨a, by rw [List.getElem?_cons_succ]; exact h1, h2⟩
theorem paired_getL {α β : Type} {R : α → β → Prop} : ∀ {as : List α} {bs : List β} {i : Nat} {a : α}, Paired R as bs → as[i]? = some a → ∃ b, bs[i]? = some b ∧ R a b
  | _, _, i, b, .nil, h => by simp at h
  | _, _, 0, b, .cons (b := c) r t, h => by
    have e := Option.some.inj h
    exact ⟨c, rfl, by rw [← e]; exact r⟩
  | _, _, i + 1, b, .cons r t, h => by
    rw [List.getElem?_cons_succ] at h
    obtain ⟨a, h1, h2⟩ := paired_getL t h
    exact ⟨a, by rw [List.getElem?_cons_succ]; exact h1, h2⟩
theorem Pls.same {H H' : Hp} {as : List Addr} {ps : List KM.Pl} (h : Pls H as ps) (s : Same H H') : Pls H' as ps := Paired.mapP h fun _ _ e => s _ _ e
theorem Pls.mut {H : Hp} {as : List Addr} {ps : List KM.Pl} {F : Addr} {xs : List V} {o : HO} (h : Pls H as ps) (hF : H F = some (.lst xs)) : Pls (upd H F o) as ps := Paired.mapP h fun a p e => by
  rw [upd_ne (ne_of e hF (by intro z; cases z))]
  exact e
theorem row_snoc (n m : Nat) : KM.row n (m + 1) = KM.row n m ++ [(n, m)] := by
  unfold KM.row
  rw [List.range_succ, List.map_append]
  rfl
theorem length_take_places (ts : List (List Nat)) (i : Nat) : (KM.places (ts.take i)).length ≤ (ts.map List.length).sum := by
  rw [KM.length_places]
  have e : ts.map List.length = (ts.take i).map List.length ++ (ts.drop i).map List.length := by rw [← List.map_append, List.take_append_drop]
  rw [e, List.sum_append]
  omega
section
variable {P : Program} {w : World} {K : PySem.W.Frag} {mg : Str → Option Value} {base : Heap}
theorem sc_all_places : FnScope ["library", "found", "number", "text", "at"] ["library"] (defScope s_all_places) := ⟨rfl, rfl, rfl, by decide +kernel, rfl, by decide +kernel, by decide +kernel⟩
def sp_all_places (C : Addr) : Sp := fun vs H Q _ => ∃ (l tt : Addr) (ts : List (List Nat)), vs = [.ref l] ∧ Lib C H l tt ts ∧
  ∀ H' F as, Same H H' → H F = none → H' F = some (.lst (as.map V.ref)) → Pls H' as (KM.places ts) → Q (.ref F) H'
theorem co_all_places {f C : Addr} {fd : FuncData} (B : Blt mg) (T : LC K mg C) (D : Dn K mg "all_places" s_all_places ["library"] f fd) : Co P w K mg base 1 "all_places" (sp_all_places C) := by
  refine Co.mk' D sc_all_places (fun vs H Q E h => ?_) (fun cdv A outer s H vs Q E hr h => ?_)
  · obtain ⟨l, tt, ts, rfl, _⟩ := h
    rfl
  · obtain ⟨l, tt, ts, rfl, L, q⟩ := h
    obtain ⟨dx, ho⟩ := L.ob
    refine ⟨_, pss_cons (ps_set (i := 1) sc_all_places.nd rfl (.inl rfl) (pe_lst pa_nil))
      (pss_cons (ps_for PassesOwn.never rfl (pi_enumT (by rfl) B.enum (pa_cons (pe_fld (pv 0) rfl) pa_nil)) (pg_tup rfl (pgs_cons (pg_name (i := 2) sc_all_places.nd rfl (.inr rfl)) (pgs_cons (pg_name (i := 3) sc_all_places.nd rfl (.inl rfl)) pgs_nil)))
        (pss_one (ps_expr (pe_bm PySem.F.plainAttrs_list PySem.F.slot_list_extend PySem.F.type_list_extend mt_extend (pv 1)
          (pa_cons (pe_lc (own := [("at", 4)]) (g := gName 4) (tt := tYes) rfl sc_all_places.nd (pi_range1 rfl B.range (pa_cons (pe_callB call_len_str (by rfl) B.len PySem.boot_len (pa_cons (pv 3) pa_nil)) pa_nil)) (blkOk_by (own := [("at", 4)]) (N := ["library", "found", "number", "text", "at"]) (sc := defScope s_all_places) (by decide +kernel))
            (fun _ _ _ _ _ => pg_name (i := 4) sc_all_places.nd rfl (Or.inl rfl)) (fun _ _ _ _ _ => pts_nil) (fun _ _ _ _ _ => pe_tup (pa_cons (pv 2) (pa_cons (pv 4) pa_nil)))) pa_nil)))))
      (pss_one (ps_ret (pv 1)))), ?_⟩
    refine ⟨Nat.zero_le _, fun F nF => ?_⟩
    have s0 : Same H (upd H F (.lst [])) := same_upd nF
    refine ⟨_, rfl, l, C, dx, lf tt, .ref tt, rfl, s0 _ _ ho, T.cl, T.n, lf_texts tt, tt, tv ts, rfl, SqT.of (s0 _ _ L.tx), ?_⟩
    refine for_it walk_enumT (fun i σ H1 => ∃ y2 y3 y4 as, σ = [some (.ref l), some (.ref F), y2, y3, y4] ∧ Same H H1 ∧ H1 F = some (.lst (as.map V.ref)) ∧ Pls H1 as (KM.places (ts.take i))) ⟨none, none, none, [], rfl, s0, upd_same, .nil⟩ (fun i σ H1 _ ⟨_, _, _, _, _, s1, _⟩ => SqT.of (s1 _ _ L.tx)) ?_ ?_
    · rintro i x σ H1 H2 hi ⟨y2, y3, y4, as, rfl, s1, hF, hP⟩ ⟨U, v, rfl, nU, rfl, hv⟩
      rw [List.getElem?_map] at hv
      obtain ⟨t, ht, rfl⟩ : ∃ t, ts[i]? = some t ∧ V.str (S t) = v := by
        cases e : ts[i]? with
        | none => rw [e] at hv; cases hv
        | some t => rw [e] at hv; exact ⟨t, rfl, Option.some.inj hv⟩
      have hm := List.mem_of_getElem? ht
      have htl := L.ok.len hm
      have s2 : Same H1 (upd H1 U (.tup [.int (i : Nat), .str (S t)])) := same_upd nU
      refine ⟨U, _, rfl, SqT.of upd_same, rfl, _, _, rfl, _, _, rfl, rfl, ?_⟩
      generalize hH2 : upd H1 U (.tup [.int (i : Nat), .str (S t)]) = H2 at s2
      refine ⟨_, rfl, .inl ⟨rfl, _, SqL.of (s2 _ _ hF)⟩, ?_⟩
      refine ⟨_, rfl, S t, rfl, small_le (by rw [S_len]; omega), (t.length : Int), rfl, by omega, by omega, fun D nD => ?_⟩
      rw [Int.toNat_natCast]
      refine lc_range (fun k H3 => Same H2 H3 ∧ ∃ bs, H3 D = some (.lst (bs.map V.ref)) ∧ Pls H3 bs (KM.row i k)) ⟨same_upd nD, [], upd_same, .nil⟩ ?_ ?_
      · rintro k H3 hk ⟨s3, bs, hD, hB⟩
        refine ⟨rfl, _, rfl, _, rfl, (by show 2 ≤ sizeLine; decide), fun p hp => ?_⟩
        have s4 : Same H3 (upd H3 p (.tup [.int (i : Nat), .int (0 + (k : Int))])) := same_upd hp
        refine ⟨_, s4 _ _ hD, ?_, (s3.trans s4).mut nD, bs ++ [p], ?_, ?_⟩
        · have := Paired.length hB
          rw [List.length_map, this, KM.row, List.length_map, List.length_range]
          exact small_lt (by omega)
        · rw [upd_same, List.map_append]
          rfl
        · rw [row_snoc]
          refine Pls.mut (xs := bs.map V.ref) (paired_app (Pls.same hB s4) (.cons ?_ .nil)) (s4 _ _ hD)
          rw [upd_same, Int.zero_add]
      · rintro H3 ⟨s3, bs, hD, hB⟩
        have hF3 := s3 _ _ (s2 _ _ hF)
        refine ⟨F, D, _, _, rfl, rfl, hF3, hD, ?_, ?_⟩
        · have e1 := Paired.length hP
          have e2 := Paired.length hB
          have e3 := length_take_places ts i
          have e4 := L.ok.sum
          rw [List.length_map, List.length_map, e1, e2, KM.row, List.length_map, List.length_range]
          exact small_le (by omega)
        · refine ⟨_, _, _, as ++ bs, rfl, ((s1.trans s2).trans s3).mut nF, ?_, ?_⟩
          · rw [upd_same, List.map_append]
          · rw [KM.places_take ht]
            exact Pls.mut (paired_app (Pls.same hP (s2.trans s3)) hB) hF3
    · rintro σ H1 ⟨y2, y3, y4, as, rfl, s1, hF, hP⟩
      have e : ts.take (tv ts).length = ts := by rw [List.length_map]; exact List.take_length
      rw [e] at hP
      exact ⟨_, rfl, q H1 F as s1 nF hF hP⟩
end
end K11

/-! numbered: the numbers of keys that are texts, or pairs of ints. -/
namespace K11
open PySem PySem.Spec PyProof.Rows L2
open PySem.W (EachIs AllAlike Sortable dataLe dataLt alike)

/-! ### the orders in plain words -/
theorem dataLt_ints (a b c d : Int) : dataLt (.tuple [.int a, .int b]) (.tuple [.int c, .int d]) = decide (a < c ∨ (a = c ∧ b < d)) := PySem.W.dataLt_ii a b c d
theorem dataLt_S (t u : List Nat) : dataLt (.str (S t)) (.str (S u)) = decide (t < u) := PySem.W.dataLt_str _ _
theorem not_dataLe {β : Type} {e : β → PyData} {a b : β} : dataLe false e a b = !dataLt (e b) (e a) := rfl
theorem dataLe_total {β : Type} (e : β → PyData) : PySem.W.TotalLe (dataLe false e) := PySem.W.sortLe_total _ _ _

/-! ### dicts by keys of a kind -/
section
variable {κ κ' : Type} [DecidableEq κ] [DecidableEq κ']
abbrev viaK (f : κ → κ') (kvs : List (κ × V)) : List (κ' × V) := kvs.map fun p => (f p.1, p.2)
theorem valV_via {f : κ → κ'} (inj : ∀ a b, f a = f b → a = b) (k : κ) : ∀ kvs : List (κ × V), valV (viaK f kvs) (f k) = valV kvs k
  | [] => rfl
  | p :: r => by
    have ih := valV_via inj k r
    by_cases h : p.1 = k
    · rw [valV_pos h]
      exact valV_pos (p := (f p.1, p.2)) (congrArg f h)
    · rw [valV_neg h, ← ih]
      exact valV_neg (p := (f p.1, p.2)) (fun e => h (inj _ _ e))
theorem putK_via {f : κ → κ'} (inj : ∀ a b, f a = f b → a = b) (k : κ) (x : V) (kvs : List (κ × V)) : putK (viaK f kvs) (f k) x = viaK f (putK kvs k x) := by
  have h : (viaK f kvs).any (fun kv => decide (kv.1 = f k)) = kvs.any fun kv => decide (kv.1 = k) := by
    rw [valV_any, valV_any, valV_via inj]
  unfold putK
  rw [h]
  split
  · unfold viaK
    rw [List.map_map, List.map_map]
    refine List.map_congr_left fun p _ => ?_
    show (if f p.1 = f k then (f p.1, x) else (f p.1, p.2)) = (f (if p.1 = k then (p.1, x) else p).1, (if p.1 = k then (p.1, x) else p).2)
    by_cases e : p.1 = k
    · rw [if_pos e, if_pos (congrArg f e)]
    · rw [if_neg e, if_neg (fun z => e (inj _ _ z))]
  · unfold viaK
    rw [List.map_append]
    rfl
/-- keys with their numbers -/
def mkD (D : List κ) : List (κ × V) := D.zipIdx.map fun z => (z.1, V.int (z.2 : Int))
theorem mkD_len (D : List κ) : (mkD D).length = D.length := by unfold mkD; rw [List.length_map, List.length_zipIdx]
theorem mkD_snoc (D : List κ) (k : κ) : mkD (D ++ [k]) = mkD D ++ [(k, V.int (D.length : Int))] := by
  unfold mkD
  rw [List.zipIdx_append, List.map_append]
  simp
theorem mkD_none {D : List κ} {k : κ} (h : k ∉ D) : valV (mkD D) k = none := by
  have : ((mkD D).any fun kv => decide (kv.1 = k)) = false := by
    rw [List.any_eq_false]
    intro p hp
    unfold mkD at hp
    obtain ⟨z, hz, rfl⟩ := List.mem_map.mp hp
    have := List.mem_zipIdx hz
    simp only [decide_eq_true_eq]
    intro e
    exact h (by rw [← e]; rw [this.2.2]; exact List.getElem_mem _)
  rw [valV_any] at this
  cases e : valV (mkD D) k with
  | none => rfl
  | some v => rw [e] at this; cases this
theorem mkD_some_from {k : κ} : ∀ {D : List κ} {n : Nat}, k ∈ D → valV ((D.zipIdx n).map fun z => (z.1, V.int (z.2 : Int))) k = some (V.int ((n + D.idxOf k : Nat) : Int))
  | x :: D, n, h => by
    rw [List.zipIdx_cons, List.map_cons]
    by_cases e : x = k
    · rw [valV_pos (p := (x, V.int (n : Int))) e]
      subst e
      simp
    · rw [valV_neg (p := (x, V.int (n : Int))) e]
      have hm : k ∈ D := (List.mem_cons.mp h).resolve_left fun z => e z.symm
      rw [mkD_some_from hm, List.idxOf_cons]
      have : (x == k) = false := by simpa using e
      rw [this]
      congr 2
      simp only [cond_false]
      omega
theorem mkD_some {D : List κ} {k : κ} (h : k ∈ D) : valV (mkD D) k = some (V.int (D.idxOf k : Int)) := by
  have := mkD_some_from (n := 0) h
  rw [Nat.zero_add] at this
  exact this
theorem mkD_put {D : List κ} {k : κ} (h : k ∉ D) : putK (mkD D) k (V.int (D.length : Int)) = mkD (D ++ [k]) := by
  rw [putK_new _ (mkD_none h), mkD_snoc]
end
/-- a kind of keys: how a dict of them stands in the heap, how a key is a value, what it reads as -/
structure KRep (K : PySem.W.Frag) (κ : Type) [DecidableEq κ] where
  dict : List (κ × V) → HO
  val : Hp → V → κ → Prop
  enc : κ → PyData
  lt : κ → κ → Prop
  isd : ∀ kvs, (∃ l, dict kvs = .dK l ∧ l.length = kvs.length) ∨ ∃ l, dict kvs = .dT l ∧ l.length = kvs.length
  get : ∀ {H : Hp} {d : Addr} {kvs : List (κ × V)} {v : V} {k : κ}, H d = some (dict kvs) → val H v k → DGet H d v (valV kvs k)
  put : ∀ {H : Hp} {d : Addr} {kvs : List (κ × V)} {v x : V} {k : κ}, H d = some (dict kvs) → val H v k → kvs.length < sizeLine → DPut H d v x (upd H d (dict (putK kvs k x)))
  same : ∀ {H H' : Hp} {v : V} {k : κ}, Same H H' → val H v k → val H' v k
  dp : ∀ {H : Hp} {v : V} {k : κ}, val H v k → Dp K H v (enc k)
  al : ∀ a b, alike (enc a) (enc b) = true
  so : (∀ k, ∃ x r, enc k = .tuple (x :: r)) ∨ ∀ k, enc k ≠ .none ∧ ∀ xs, enc k ≠ .tuple xs
  de : ∀ k, (enc k).depth ≤ 8
  ord : ∀ a b, dataLt (enc a) (enc b) = true ↔ lt a b
  irr : ∀ a, ¬ lt a a
  asym : ∀ a b, lt a b → ¬ lt b a
  tot : ∀ a b, lt a b ∨ a = b ∨ lt b a
theorem KRep.so' {K : PySem.W.Frag} {κ β : Type} [DecidableEq κ] (R : KRep K κ) (g : β → κ) (l : List β) : Sortable (l.map fun b => R.enc (g b)) := by
  rcases R.so with h | h
  · exact PySem.W.Sortable.tuples fun b => h (g b)
  · exact PySem.W.Sortable.others fun b => h (g b)
/-- texts -/
def RS (K : PySem.W.Frag) : KRep K (List Nat) where
  dict kvs := .dK (viaK (fun t => (Sum.inr (S t) : Key)) kvs)
  val _ v k := v = .str (S k)
  enc k := .str (S k)
  lt a b := a < b
  isd kvs := .inl ⟨_, rfl, by rw [List.length_map]⟩
  get := fun {H d kvs v k} h hv => by
    subst hv
    rw [← valV_via (f := fun t => (Sum.inr (S t) : Key)) (fun a b e => S_inj (Sum.inr.inj e)) k kvs]
    exact DGet.k (k := Sum.inr (S k)) h
  put := fun {H d kvs v x k} h hv hl => by
    subst hv
    rw [← putK_via (f := fun t => (Sum.inr (S t) : Key)) (fun a b e => S_inj (Sum.inr.inj e)) k x kvs]
    exact DPut.k (k := Sum.inr (S k)) h (by rw [List.length_map]; exact hl)
  same := fun _ h => h
  dp := fun h => by subst h; exact .str _
  al a b := by simp [PySem.W.alike]
  so := .inr fun k => ⟨by simp, by simp⟩
  de k := by simp [PyData.depth]
  ord a b := by rw [dataLt_S, decide_eq_true_eq]
  irr := KM.lt_irr
  asym := fun a b => KM.lt_asym
  tot := KM.lt_or
/-- pairs of ints -/
def RP (K : PySem.W.Frag) : KRep K (Int × Int) where
  dict kvs := .dT (viaK (fun k => [(Sum.inl k.1 : Key), Sum.inl k.2]) kvs)
  val H v k := ∃ a, v = .ref a ∧ H a = some (.tup [.int k.1, .int k.2])
  enc k := .tuple [.int k.1, .int k.2]
  lt := KM.zlt
  isd kvs := .inr ⟨_, rfl, by rw [List.length_map]⟩
  get := fun {H d kvs v k} h hv => by
    obtain ⟨a, rfl, ha⟩ := hv
    rw [← valV_via (f := fun k : Int × Int => [(Sum.inl k.1 : Key), Sum.inl k.2]) (fun a b e => by
      injection e with e1 e2
      injection e2 with e3 _
      exact Prod.ext (Sum.inl.inj e1) (Sum.inl.inj e3)) k kvs]
    exact DGet.t (k := [Sum.inl k.1, Sum.inl k.2]) h ha
  put := fun {H d kvs v x k} h hv hl => by
    obtain ⟨a, rfl, ha⟩ := hv
    rw [← putK_via (f := fun k : Int × Int => [(Sum.inl k.1 : Key), Sum.inl k.2]) (fun a b e => by
      injection e with e1 e2
      injection e2 with e3 _
      exact Prod.ext (Sum.inl.inj e1) (Sum.inl.inj e3)) k x kvs]
    exact DPut.t (k := [Sum.inl k.1, Sum.inl k.2]) h ha (by rw [List.length_map]; exact hl)
  same := fun s h => let ⟨a, e, ha⟩ := h; ⟨a, e, s _ _ ha⟩
  dp := fun h => by
    obtain ⟨a, rfl, ha⟩ := h
    exact .tup (SqT.of ha) (.cons (.int _) (.cons (.int _) .nil))
  al a b := by simp [PySem.W.alike, PySem.W.alikeAll]
  so := .inl fun k => ⟨_, _, rfl⟩
  de k := by simp [PyData.depth, PyData.depthAll]
  ord a b := by
    rw [dataLt_ints, decide_eq_true_eq]
    exact Iff.rfl
  irr := fun a h => by unfold KM.zlt at h; omega
  asym := fun a b h h' => by unfold KM.zlt at h h'; omega
  tot := fun a b => by
    unfold KM.zlt
    by_cases h : a.1 = b.1
    · by_cases h2 : a.2 = b.2
      · exact .inr (.inl (Prod.ext h h2))
      · omega
    · omega

/-! ### rules for either kind -/
section
variable {X : Cx}
theorem pe_dnewE {pos : Pos} : PE X (.Dict [] [] pos) (fun _ H Q => ∃ o, (o = .dK [] ∨ o = .dT []) ∧ ∀ p, H p = none → Q (.ref p) (upd H p o)) := by
  refine ⟨fun pins s σ H Q I h => ?_⟩
  obtain ⟨o, e | e, h⟩ := h
  · subst e
    exact pe_dnewK.run pins s σ H Q I h
  · subst e
    exact pe_dnewT.run pins s σ H Q I h
theorem call_lenE : CallR X (.builtin "len") (fun xs H Q => ∃ (d : Addr) (o : HO) (n : Nat), xs = [.ref d] ∧ H d = some o ∧ ((∃ l, o = .dK l ∧ l.length = n) ∨ ∃ l, o = .dT l ∧ l.length = n) ∧ Q (.int (n : Int)) H) := by
  intro pins s σ H xs us Q I r h
  obtain ⟨d, o, n, rfl, hd, ⟨l, rfl, rfl⟩ | ⟨l, rfl, rfl⟩, q⟩ := h
  · exact call_lenD pins s σ H _ us Q I r ⟨d, l, rfl, hd, q⟩
  · exact call_len_dT pins s σ H _ us Q I r ⟨d, l, rfl, hd, q⟩
end

/-! ### numbered -/
section
variable {P : Program} {w : World} {K : PySem.W.Frag} {mg : Str → Option Value} {base : Heap}
abbrev s_numbered : Stmt := topS 24
theorem sc_numbered : FnScope ["keys", "numbers", "key"] ["keys"] (defScope s_numbered) := ⟨rfl, rfl, rfl, by decide +kernel, rfl, by decide +kernel, by decide +kernel⟩
def sp_numbered {κ : Type} [DecidableEq κ] (R : KRep K κ) : Sp := fun vs H Q _ => ∃ (a : Addr) (zs : List (V × κ)), vs = [.ref a] ∧ H a = some (.lst (zs.map Prod.fst)) ∧ (∀ z ∈ zs, R.val H z.1 z.2) ∧ zs.length ≤ 2000 ∧
  ∀ (H' : Hp) (p : Addr) (rs : List Int), Same H H' → H p = none → H' p = some (.lst (rs.map V.int)) → KM.Numb R.lt (zs.map Prod.snd) rs → Q (.ref p) H'
theorem co_numbered {κ : Type} [DecidableEq κ] (R : KRep K κ) {f : Addr} {fd : FuncData} (B : Blt mg) (D : Dn K mg "numbered" s_numbered ["keys"] f fd) : Co P w K mg base 1 "numbered" (sp_numbered R) := by
  refine Co.mk' D sc_numbered (fun vs H Q E h => ?_) (fun cdv A outer s H vs Q E hr h => ?_)
  · obtain ⟨a, zs, rfl, _⟩ := h
    rfl
  · obtain ⟨a, zs, rfl, ha, hv, hz, q⟩ := h
    have hu := hu_of hr
    refine ⟨_, pss_cons (ps_set (i := 1) sc_numbered.nd rfl (.inr rfl) pe_dnewE)
      (pss_cons (ps_for PassesOwn.never rfl (pi_list (pe_callB (cr_sortedD hr.units) (by rfl) B.sorted boot_sorted (pa_cons (pv 0) pa_nil))) (pg_name (i := 2) sc_numbered.nd rfl (.inl rfl))
        (pss_one (ps_if (pt_cmp (pc_dnotin hu (pv 2) (pv 1))) (pss_one (ps_dput hu (pv 1) (pv 2) (pe_callB call_lenE (by rfl) B.len PySem.boot_len (pa_cons (pv 1) pa_nil)) rfl)) pss_nil)))
      (pss_one (ps_ret (pe_lc (own := [("key", 2)]) (g := gName 2) (tt := tYes) rfl sc_numbered.nd (pi_list (pv 0)) (blkOk_by (own := [("key", 2)]) (N := ["keys", "numbers", "key"]) (sc := defScope s_numbered) (by decide +kernel)) (fun _ _ _ _ _ => pg_name (i := 2) sc_numbered.nd rfl (Or.inl rfl)) (fun _ _ _ _ _ => pts_nil)
        (fun _ _ _ _ _ => pe_dget hu (pv 1) (pv 2) (fun _ _ => rfl)))))), ?_⟩
    -- numbers = {}
    have hd0 : R.dict [] = .dK [] ∨ R.dict [] = .dT [] := by
      rcases R.isd [] with ⟨l, e, hl⟩ | ⟨l, e, hl⟩
      · rw [e, List.eq_nil_of_length_eq_zero hl]
        exact .inl rfl
      · rw [e, List.eq_nil_of_length_eq_zero hl]
        exact .inr rfl
    refine ⟨R.dict [], hd0, fun d nd => ?_⟩
    have s0 : Same H (upd H d (R.dict [])) := same_upd nd
    have nl : ∀ kvs xs, (R.dict kvs : HO) ≠ .lst xs := fun kvs xs e => by
      rcases R.isd kvs with ⟨l, e', _⟩ | ⟨l, e', _⟩ <;> (rw [e'] at e; cases e)
    -- sorted(keys)
    refine ⟨_, rfl, a, zs.map (fun z => (z.1, R.enc z.2)), rfl, ?_, ?_, ?_, ?_, ?_, fun p np => ?_⟩
    · rw [List.map_map]
      exact SqL.of (s0 _ _ ha)
    · intro z hz'
      obtain ⟨u, hu', rfl⟩ := List.mem_map.mp hz'
      exact R.dp (R.same s0 (hv u hu'))
    · rw [List.map_map]
      exact PySem.W.AllAlike.of (enc := fun z : V × κ => R.enc z.2) fun u v => R.al _ _
    · rw [List.map_map]
      exact R.so' (fun z : V × κ => z.2) zs
    · intro z hz'
      obtain ⟨u, _, rfl⟩ := List.mem_map.mp hz'
      exact R.de _
    have es : ((zs.map fun z => (z.1, R.enc z.2)).mergeSort (dataLe false Prod.snd)).map Prod.fst = (zs.mergeSort (dataLe false fun z => R.enc z.2)).map Prod.fst := by
      rw [← PySem.W.sort_maps (r := dataLe false fun z : V × κ => R.enc z.2) (s := dataLe false Prod.snd) (fun z : V × κ => (z.1, R.enc z.2)) (fun _ _ _ _ => rfl), List.map_map]
      rfl
    rw [es]
    have hperm : (zs.mergeSort (dataLe false fun z => R.enc z.2)).Perm zs := List.mergeSort_perm _ _
    have hpw := PySem.W.sort_pairwise (dataLe_total fun z : V × κ => R.enc z.2) zs
    generalize zs.mergeSort (dataLe false fun z => R.enc z.2) = ss at hperm hpw
    have hsl : ss.length = zs.length := hperm.length_eq
    have s1 : Same H (upd (upd H d (R.dict [])) p (.lst (ss.map Prod.fst))) := s0.trans (same_upd np)
    have ndp : d ≠ p := fun e => by
      rw [← e, upd_same] at np
      cases np
    have nHp : H p = none := s0.free np
    -- the loop
    refine ⟨p, rfl, ⟨_, SqL.of upd_same⟩, for_list (xs := ss.map Prod.fst) (fun i σ H1 => ∃ y D, σ = [some (.ref a), some (.ref d), y] ∧ Same H H1 ∧ H1 p = some (.lst (ss.map Prod.fst)) ∧ H1 d = some (R.dict (mkD D)) ∧ KM.Met R.lt ((ss.take i).map Prod.snd) D ∧ D.length ≤ i)
      ⟨none, [], rfl, s1, upd_same, by rw [upd_ne ndp, upd_same]; rfl, KM.Met.nil _, Nat.le_refl _⟩ (fun i σ H1 _ ⟨_, _, _, _, hp, _⟩ => SqL.of hp) ?_ ?_⟩
    · rintro i x σ H1 hx ⟨y, D, rfl, s1, hp, hd, met, hD⟩
      rw [List.getElem?_map] at hx
      obtain ⟨z, hz', rfl⟩ : ∃ z, ss[i]? = some z ∧ z.1 = x := by
        cases e : ss[i]? with
        | none => rw [e] at hx; cases hx
        | some z => rw [e] at hx; exact ⟨z, rfl, Option.some.inj hx⟩
      have hil : i < ss.length := (List.getElem?_eq_some_iff.mp hz').1
      have hval : R.val H1 z.1 z.2 := R.same s1 (hv z (hperm.mem_iff.mp (List.mem_of_getElem? hz')))
      have etake : (ss.take (i + 1)).map Prod.snd = (ss.take i).map Prod.snd ++ [z.2] := by
        rw [List.take_add_one, hz', List.map_append]
        rfl
      refine ⟨_, rfl, _, rfl, d, _, rfl, R.get hd hval, _, rfl, ?_⟩
      by_cases hm : z.2 ∈ D
      · rw [mkD_some hm]
        refine iteF ⟨some z.1, D, rfl, s1, hp, hd, ?_, by omega⟩
        rw [etake]
        exact met.old hm
      · rw [mkD_none hm]
        refine iteT ?_
        refine ⟨_, rfl, d, _, D.length, rfl, hd, by rw [← mkD_len D]; exact R.isd _, ?_⟩
        refine ⟨_, rfl, _, rfl, d, _, rfl, R.put hd hval (by rw [mkD_len]; exact small_lt (by omega)), ?_⟩
        rw [mkD_put hm]
        refine ⟨some z.1, D ++ [z.2], rfl, s1.mut nd, ?_, upd_same, ?_, by rw [List.length_append]; exact Nat.add_le_add_right hD 1⟩
        · rw [upd_ne (ne_of hp hd (fun e => nl _ _ e.symm))]
          exact hp
        · rw [etake]
          refine met.new fun k hk => ?_
          obtain ⟨u, hu', rfl⟩ := List.mem_map.mp hk
          obtain ⟨j, hj⟩ := List.mem_iff_getElem?.mp hu'
          have hji : j < i := by
            have := (List.getElem?_eq_some_iff.mp hj).1
            rw [List.length_take] at this
            omega
          rw [List.getElem?_take_of_lt hji] at hj
          have hjl : j < ss.length := by omega
          have e1 : ss[j] = u := by rw [List.getElem?_eq_getElem hjl] at hj; exact Option.some.inj hj
          have e2 : ss[i] = z := by rw [List.getElem?_eq_getElem hil] at hz'; exact Option.some.inj hz'
          have le := List.pairwise_iff_getElem.mp hpw j i hjl hil hji
          rw [e1, e2, not_dataLe, Bool.not_eq_true'] at le
          have nlt : ¬ R.lt z.2 u.2 := fun h => by
            have := (R.ord _ _).mpr h
            rw [le] at this
            cases this
          rcases R.tot u.2 z.2 with h | h | h
          · exact h
          · exact absurd ((met.mem _).mpr (by rw [← h]; exact hk)) hm
          · exact absurd h nlt
    · rintro σ H1 ⟨y, D, rfl, s1, hp, hd, met, hD⟩
      rw [List.length_map, List.take_length] at met
      have hall : ∀ z ∈ zs, z.2 ∈ D := fun z hz' => (met.mem _).mpr (List.mem_map.mpr ⟨z, hperm.mem_iff.mpr hz', rfl⟩)
      refine ⟨_, rfl, a, rfl, ⟨_, SqL.of (s1 _ _ ha)⟩, fun L nL => lc_list (xs := zs.map Prod.fst) (fun i H2 => Same H1 H2 ∧ H2 L = some (.lst (((zs.take i).map fun z => (D.idxOf z.2 : Int)).map V.int))) ⟨same_upd nL, upd_same⟩ (fun i H2 _ ⟨s2, _⟩ => SqL.of (s2 _ _ (s1 _ _ ha))) ?_ ?_⟩
      · rintro i x H2 hx ⟨s2, hL⟩
        rw [List.getElem?_map] at hx
        obtain ⟨z, hz', rfl⟩ : ∃ z, zs[i]? = some z ∧ z.1 = x := by
          cases e : zs[i]? with
          | none => rw [e] at hx; cases hx
          | some z => rw [e] at hx; exact ⟨z, rfl, Option.some.inj hx⟩
        have hil : i < zs.length := (List.getElem?_eq_some_iff.mp hz').1
        have hm := List.mem_of_getElem? hz'
        have g := R.get (s2 _ _ hd) (R.same (s1.trans s2) (hv z hm))
        rw [mkD_some (hall z hm)] at g
        refine ⟨rfl, _, rfl, _, rfl, d, _, rfl, g, _, hL, ?_, s2.mut nL, ?_⟩
        · rw [List.length_map, List.length_map, List.length_take]
          exact small_lt (by omega)
        · rw [upd_same, List.take_add_one, hz', List.map_append, List.map_append]
          rfl
      · rintro H2 ⟨s2, hL⟩
        rw [List.length_map, List.take_length] at hL
        have e : zs.map (fun z => (D.idxOf z.2 : Int)) = (zs.map Prod.snd).map fun k => (D.idxOf k : Int) := by
          rw [List.map_map]
          rfl
        rw [e] at hL
        refine q H2 L _ (s1.trans s2) (s1.free nL) hL (KM.numb_of R.irr R.asym met.rise fun k hk => ?_)
        obtain ⟨z, hz', rfl⟩ := List.mem_map.mp hk
        exact hall z hz'
end
end K11

/-! tails_of -/
namespace K11
open PySem PySem.Spec PyProof.Rows L2
/-- a place as a key -/
def cP (p : KM.Pl) : Int × Int := ((p.1 : Int), (p.2 : Int))
theorem cP_inj (p q : KM.Pl) (h : cP p = cP q) : p = q := by
  unfold cP at h
  injection h with h1 h2
  exact Prod.ext (by omega) (by omega)
def tlV : Option Nat → V
  | none => .non
  | some j => .int (j : Int)
theorem mem_cP {p : KM.Pl} {ps : List KM.Pl} : cP p ∈ ps.map cP ↔ p ∈ ps := by
  rw [List.mem_map]
  exact ⟨fun ⟨q, h, e⟩ => cP_inj _ _ e ▸ h, fun h => ⟨p, h, rfl⟩⟩
theorem idx_map {α β : Type} {i1 : BEq α} {i2 : BEq β} [LawfulBEq α] [LawfulBEq β] {f : α → β} (inj : ∀ x y, f x = f y → x = y) (p : α) : ∀ ps : List α, (ps.map f).idxOf (f p) = ps.idxOf p
  | [] => rfl
  | q :: r => by
    rw [List.map_cons, List.idxOf_cons, List.idxOf_cons, idx_map inj p r]
    by_cases h : q = p
    · subst h
      simp
    · have h1 : (q == p) = false := by simpa using h
      have h2 : (f q == f p) = false := by simpa using fun e => h (inj _ _ e)
      rw [h1, h2]
theorem tail_val (ps : List KM.Pl) (q : KM.Pl) (m : Nat) : (valV (mkD (ps.map cP)) (cP (q.1, q.2 + m))).getD .non = tlV (KM.tailOf ps m q) := by
  unfold KM.tailOf
  by_cases h : (q.1, q.2 + m) ∈ ps
  · rw [if_pos h, mkD_some (mem_cP.mpr h)]
    exact congrArg (fun n : Nat => V.int (n : Int)) (@idx_map _ _ _ instBEqOfDecidableEq _ _ cP cP_inj (q.1, q.2 + m) ps)
  · rw [if_neg h, mkD_none (fun z => h (mem_cP.mp z))]
    rfl
section
variable {P : Program} {w : World} {K : PySem.W.Frag} {mg : Str → Option Value} {base : Heap}
abbrev s_tails_of : Stmt := topS 25
theorem sc_tails_of : FnScope ["library", "places", "many", "begins", "number", "place", "text", "at"] ["library", "places", "many"] (defScope s_tails_of) := ⟨rfl, rfl, rfl, by decide +kernel, rfl, by decide +kernel, by decide +kernel⟩
def sp_tails_of : Sp := fun vs H Q _ => ∃ (l : V) (F : Addr) (m : Nat) (as : List Addr) (ps : List KM.Pl), vs = [l, .ref F, .int (m : Int)] ∧ H F = some (.lst (as.map V.ref)) ∧ Pls H as ps ∧ ps.Nodup ∧ ps.length ≤ 2000 ∧
  ∀ (H' : Hp) (L : Addr), Same H H' → H L = none → H' L = some (.lst (ps.map fun p => tlV (KM.tailOf ps m p))) → Q (.ref L) H'
theorem co_tails_of {f : Addr} {fd : FuncData} (B : Blt mg) (D : Dn K mg "tails_of" s_tails_of ["library", "places", "many"] f fd) : Co P w K mg base 1 "tails_of" sp_tails_of := by
  refine Co.mk' D sc_tails_of (fun vs H Q E h => ?_) (fun cdv A outer s H vs Q E hr h => ?_)
  · obtain ⟨l, F, m, as, ps, rfl, _⟩ := h
    rfl
  · obtain ⟨l, F, m, as, ps, rfl, hF, hP, nd, hz, q⟩ := h
    have hu := hu_of hr
    have hlen := Paired.length hP
    refine ⟨_, pss_cons (ps_set (i := 3) sc_tails_of.nd rfl (.inr rfl) pe_dnewT)
      (pss_cons (ps_for PassesOwn.never rfl (pi_enum (by rfl) B.enum (pa_cons (pv 1) pa_nil)) (pg_tup rfl (pgs_cons (pg_name (i := 4) sc_tails_of.nd rfl (.inl rfl)) (pgs_cons (pg_name (i := 5) sc_tails_of.nd rfl (.inl rfl)) pgs_nil)))
        (pss_one (ps_dput hu (pv 3) (pv 5) (pv 4) rfl)))
      (pss_one (ps_ret (pe_lc (own := [("text", 6), ("at", 7)]) (g := gTup K 2 (gCons (gName 6) (gCons (gName 7) gNil))) (tt := tYes) rfl sc_tails_of.nd (pi_list (pv 1)) (blkOk_by (own := [("text", 6), ("at", 7)]) (N := ["library", "places", "many", "begins", "number", "place", "text", "at"]) (sc := defScope s_tails_of) (by decide +kernel))
        (fun _ _ _ _ _ => pg_tup rfl (pgs_cons (pg_name (i := 6) sc_tails_of.nd rfl (Or.inl rfl)) (pgs_cons (pg_name (i := 7) sc_tails_of.nd rfl (Or.inl rfl)) pgs_nil))) (fun _ _ _ _ _ => pts_nil)
        (fun _ _ _ _ _ => pe_dget1 hu (pv 3) (pe_tup (pa_cons (pv 6) (pa_cons (pe_op op_add (pv 7) (pv 2)) pa_nil))) ⟨by rfl, by rfl, by rfl, by rfl⟩))))), ?_⟩
    refine fun d nd0 => ?_
    have s0 : Same H (upd H d (.dT [])) := same_upd nd0
    refine ⟨_, rfl, F, _, rfl, SqL.of (s0 _ _ hF), ?_⟩
    have hK : ∀ (H1 : Hp) (p : KM.Pl) (a : Addr), H1 a = some (plV p) → (RP K).val H1 (.ref a) (cP p) := fun H1 p a h => ⟨a, rfl, h⟩
    refine for_it walk_enum (fun i σ H1 => ∃ y4 y5, σ = [some l, some (.ref F), some (.int (m : Int)), some (.ref d), y4, y5, none, none] ∧ Same H H1 ∧ H1 d = some ((RP K).dict (mkD ((ps.take i).map cP)))) ⟨none, none, rfl, s0, upd_same⟩ (fun i σ H1 _ ⟨_, _, _, s1, _⟩ => SqL.of (s1 _ _ hF)) ?_ ?_
    · rintro i x σ H1 H2 hi ⟨y4, y5, rfl, s1, hd⟩ ⟨U, u, v, rfl, nU, rfl, hu', hv⟩
      obtain rfl : V.int (i : Nat) = u := Option.some.inj hu'
      replace hv : (as.map V.ref)[i]? = some v := hv
      rw [List.getElem?_map] at hv
      obtain ⟨a, ha, rfl⟩ : ∃ a, as[i]? = some a ∧ V.ref a = v := by
        cases e : as[i]? with
        | none => rw [e] at hv; cases hv
        | some t => rw [e] at hv; exact ⟨t, rfl, Option.some.inj hv⟩
      obtain ⟨p, hp, hap⟩ := paired_getL hP ha
      have hil : i < ps.length := (List.getElem?_eq_some_iff.mp hp).1
      have s2 : Same H1 (upd H1 U (.tup [.int (i : Nat), .ref a])) := same_upd nU
      refine ⟨U, _, rfl, SqT.of upd_same, rfl, _, _, rfl, _, _, rfl, rfl, ?_⟩
      generalize hH2 : upd H1 U (.tup [.int (i : Nat), .ref a]) = H2 at s2
      have hnot : cP p ∉ (ps.take i).map cP := by
        rw [mem_cP]
        intro hm
        obtain ⟨j, hj⟩ := List.mem_iff_getElem?.mp hm
        have hji : j < i := by
          have := (List.getElem?_eq_some_iff.mp hj).1
          rw [List.length_take] at this
          omega
        rw [List.getElem?_take_of_lt hji] at hj
        have := (List.getElem?_inj (List.getElem?_eq_some_iff.mp hj).1 nd).mp (hj.trans hp.symm)
        omega
      refine ⟨_, rfl, _, rfl, _, rfl, d, _, rfl, (RP K).put (s2 _ _ hd) (hK _ _ _ (s2 _ _ (s1 _ _ hap))) (by rw [mkD_len, List.length_map, List.length_take]; exact small_lt (by omega)), ?_⟩
      have el : (i : Int) = (((ps.take i).map cP).length : Int) := by rw [List.length_map, List.length_take]; omega
      refine ⟨_, _, rfl, (s1.trans s2).mut nd0, ?_⟩
      rw [upd_same, List.take_add_one, hp, List.map_append]
      show some ((RP K).dict (putK (mkD ((ps.take i).map cP)) (cP p) (.int (i : Int)))) = _
      rw [el, mkD_put hnot]
      rfl
    · rintro σ H1 ⟨y4, y5, rfl, s1, hd⟩
      have e0 : ps.take (as.map V.ref).length = ps := by rw [List.length_map, hlen]; exact List.take_length
      rw [e0] at hd
      refine ⟨_, rfl, F, rfl, ⟨_, SqL.of (s1 _ _ hF)⟩, fun L nL => lc_list (xs := as.map V.ref) (fun i H2 => Same H1 H2 ∧ H2 L = some (.lst ((ps.take i).map fun p => tlV (KM.tailOf ps m p)))) ⟨same_upd nL, upd_same⟩ (fun i H2 _ ⟨s2, _⟩ => SqL.of (s2 _ _ (s1 _ _ hF))) ?_ ?_⟩
      · rintro i x H2 hx ⟨s2, hL⟩
        rw [List.getElem?_map] at hx
        obtain ⟨a, ha, rfl⟩ : ∃ a, as[i]? = some a ∧ V.ref a = x := by
          cases e : as[i]? with
          | none => rw [e] at hx; cases hx
          | some t => rw [e] at hx; exact ⟨t, rfl, Option.some.inj hx⟩
        obtain ⟨p, hp, hap⟩ := paired_getL hP ha
        have hil : i < ps.length := (List.getElem?_eq_some_iff.mp hp).1
        have hd2 := s2 _ _ hd
        refine ⟨a, _, rfl, SqT.of (s2 _ _ (s1 _ _ hap)), rfl, _, _, rfl, _, _, rfl, rfl, ?_⟩
        refine ⟨rfl, _, rfl, d, rfl, .inr ⟨_, .inl hd2⟩, _, rfl, _, rfl, _, rfl, _, _, rfl, rfl, (by show 2 ≤ sizeLine; decide), fun c nc => ?_⟩
        have s3 := same_upd (o := .tup [.int (p.1 : Int), .int ((p.2 : Int) + (m : Int))]) nc
        have g := (RP K).get (d := d) (v := .ref c) (k := cP (p.1, p.2 + m)) (s3 _ _ hd2) ⟨c, rfl, by rw [upd_same]; rfl⟩
        refine ⟨_, g, _, s3 _ _ hL, ?_, (s2.trans s3).mut nL, ?_⟩
        · rw [List.length_map, List.length_take]
          exact small_lt (by omega)
        · rw [tail_val, upd_same, List.take_add_one, hp, List.map_append]
          rfl
      · rintro H2 ⟨s2, hL⟩
        rw [e0] at hL
        exact q H2 L (s1.trans s2) (s1.free nL) hL
end
end K11

/-! The order of endings in plain words. -/
namespace K11
open PySem PySem.Spec PyProof.Rows L2
open PySem.W (EachIs AllAlike Sortable dataLe dataLt alike)
abbrev Tx := List Nat
theorem uniq_sorted {α : Type} {lt : α → α → Prop} (asym : ∀ a b, lt a b → ¬ lt b a) : ∀ {l m : List α}, l.Perm m → l.Pairwise lt → m.Pairwise lt → l = m
  | [], m, h, _, _ => (List.Perm.nil_eq h)
  | a :: l, [], h, _, _ => absurd h.length_eq (by simp)
  | a :: l, b :: m, h, h1, h2 => by
    have e : a = b := by
      rcases List.mem_cons.mp (h.mem_iff.mp List.mem_cons_self) with q | q
      · exact q
      · rcases List.mem_cons.mp (h.mem_iff.mpr List.mem_cons_self) with r | r
        · exact r.symm
        · exact absurd ((List.pairwise_cons.mp h1).1 b r) (asym _ _ ((List.pairwise_cons.mp h2).1 a q))
    subst e
    rw [uniq_sorted asym (List.Perm.cons_inv h) (List.pairwise_cons.mp h1).2 (List.pairwise_cons.mp h2).2]
/-- the order of places by their endings -/
def olt (ts : List Tx) (p q : KM.Pl) : Prop := KM.suf ts p < KM.suf ts q ∨ (KM.suf ts p = KM.suf ts q ∧ KM.plt p q)
theorem olt_asym (ts : List Tx) (p q : KM.Pl) (h : olt ts p q) : ¬ olt ts q p := by
  rintro (k | ⟨e, k⟩)
  · rcases h with h | ⟨e, h⟩
    · exact KM.lt_asym h k
    · rw [e] at k
      exact KM.lt_irr _ k
  · rcases h with h | ⟨e', h⟩
    · rw [e] at h
      exact KM.lt_irr _ h
    · unfold KM.plt at h k
      omega
/-- o is the places of ts in the order of their endings -/
structure IsOrd (ts : List Tx) (o : List KM.Pl) : Prop where
  perm : o.Perm (KM.places ts)
  rise : o.Pairwise (olt ts)
theorem IsOrd.uniq {ts : List Tx} {o o' : List KM.Pl} (h : IsOrd ts o) (k : IsOrd ts o') : o = o' := uniq_sorted (olt_asym ts) (h.perm.trans k.perm.symm) h.rise k.rise
theorem IsOrd.nodup {ts : List Tx} {o : List KM.Pl} (h : IsOrd ts o) : o.Nodup := h.perm.nodup_iff.mpr (KM.places_nodup ts)
theorem IsOrd.mem {ts : List Tx} {o : List KM.Pl} (h : IsOrd ts o) {p : KM.Pl} : p ∈ o ↔ KM.IsPl ts p := by rw [h.perm.mem_iff, KM.mem_places]
theorem IsOrd.len {ts : List Tx} {o : List KM.Pl} (h : IsOrd ts o) : o.length = (ts.map List.length).sum := by rw [h.perm.length_eq, KM.length_places]
/-- not in order the other way round: in order -/
theorem olt_of_not {ts : List Tx} {p q : KM.Pl} (h : ¬ (KM.suf ts q < KM.suf ts p ∨ (KM.suf ts q = KM.suf ts p ∧ KM.plt q p))) (hn : p ≠ q) : olt ts p q := by
  unfold olt
  rcases KM.lt_or (KM.suf ts p) (KM.suf ts q) with k | k | k
  · exact .inl k
  · refine .inr ⟨k, ?_⟩
    have : ¬ KM.plt q p := fun z => h (.inr ⟨k.symm, z⟩)
    unfold KM.plt at this ⊢
    by_cases e : p.1 = q.1
    · by_cases e2 : p.2 = q.2
      · exact absurd (Prod.ext e e2) hn
      · omega
    · omega
  · exact absurd (.inl k) h
theorem zlt_cP (p q : KM.Pl) : KM.zlt (cP p) (cP q) ↔ KM.plt p q := by
  unfold KM.zlt KM.plt cP
  simp only
  omega
theorem S_eq {t u : Tx} : S t = S u ↔ t = u := ⟨S_inj, fun h => by rw [h]⟩

/-! ### data in order -/
theorem eqv_ii (a b c d : Int) : PyData.eqv (.tuple [.int a, .int b]) (.tuple [.int c, .int d]) = decide (a = c ∧ b = d) := by
  simp only [PyData.eqv, PyData.eqvAll]
  by_cases h1 : a = c <;> by_cases h2 : b = d <;> simp [h1, h2]
theorem dataLt_zD (z u : ZI) : dataLt (zD z) (zD u) = true ↔ z.1 < u.1 ∨ (z.1 = u.1 ∧ KM.zlt z.2.2 u.2.2) := by
  unfold zD
  rw [PySem.W.dataLt_pair (by simp [alike]) (by simp [alike, PySem.W.alikeAll]), eqv_ii, dataLt_ints, PySem.W.dataLt_int]
  unfold KM.zlt
  simp only [PyData.eqv, beq_iff_eq]
  by_cases h1 : z.1 = u.1
  · rw [if_pos h1]
    by_cases h2 : z.2.2.1 = u.2.2.1 ∧ z.2.2.2 = u.2.2.2
    · simp [h1, h2]
    · simp [h1, h2]
  · rw [if_neg h1]
    simp [h1]
/-- (ending, place) -/
def kD (t : Tx) (k : Int × Int) : PyData := .tuple [.str (S t), .tuple [.int k.1, .int k.2]]
/-- (ending, number, at) -/
def lD (t : Tx) (k : Int × Int) : PyData := .tuple [.str (S t), .int k.1, .int k.2]
theorem eqv_S (t u : Tx) : PyData.eqv (.str (S t)) (.str (S u)) = decide (t = u) := by
  simp only [PyData.eqv]
  by_cases h : t = u
  · simp [h]
  · have : ¬ S t = S u := fun e => h (S_inj e)
    simp [h, this]
theorem dataLt_kD (t u : Tx) (k m : Int × Int) : dataLt (kD t k) (kD u m) = true ↔ t < u ∨ (t = u ∧ KM.zlt k m) := by
  unfold kD
  rw [PySem.W.dataLt_pair (by simp [alike]) (by simp [alike, PySem.W.alikeAll]), eqv_ii, dataLt_ints, dataLt_S, eqv_S]
  unfold KM.zlt
  by_cases h1 : t = u
  · subst h1
    by_cases h2 : k.1 = m.1 ∧ k.2 = m.2
    · simp [h2, KM.lt_irr]
    · simp [h2, KM.lt_irr]
  · simp [h1]
theorem dataLt_lD (t u : Tx) (k m : Int × Int) : dataLt (lD t k) (lD u m) = true ↔ t < u ∨ (t = u ∧ KM.zlt k m) := by
  unfold lD
  rw [PySem.W.dataLt_tuple, PySem.W.dataLt_cons (by simp [alike]), ← PySem.W.dataLt_tuple, dataLt_ints, dataLt_S, eqv_S]
  unfold KM.zlt
  by_cases h1 : t = u
  · subst h1
    simp [KM.lt_irr]
  · simp [h1]
theorem zD_pw {α : Type} {e : α → PyData} {l : List α} : (l.mergeSort (dataLe false e)).Pairwise fun a b => ¬ dataLt (e b) (e a) = true := by
  refine (PySem.W.sort_pairwise (dataLe_total e) l).imp fun {a b} h => ?_
  rw [not_dataLe, Bool.not_eq_true'] at h
  rw [h]
  exact Bool.false_ne_true
/-- sorting what tells the places' order sorts the places -/
theorem ord_of_sort {α : Type} {ts : List Tx} {e : α → PyData} {g : α → KM.Pl} {zs : List α} (hg : zs.map g = KM.places ts)
    (he : ∀ a ∈ zs, ∀ b ∈ zs, (dataLt (e b) (e a) = true ↔ olt ts (g b) (g a))) : IsOrd ts ((zs.mergeSort (dataLe false e)).map g) := by
  have hp : (zs.mergeSort (dataLe false e)).Perm zs := List.mergeSort_perm _ _
  have pp : ((zs.mergeSort (dataLe false e)).map g).Perm (KM.places ts) := by
    rw [← hg]
    exact hp.map g
  refine ⟨pp, ?_⟩
  have nd : ((zs.mergeSort (dataLe false e)).map g).Nodup := pp.nodup_iff.mpr (KM.places_nodup ts)
  unfold List.Nodup at nd
  rw [List.pairwise_map] at nd ⊢
  refine List.Pairwise.imp_of_mem ?_ ((zD_pw (e := e) (l := zs)).and nd)
  rintro a b ha hb ⟨h1, h2⟩
  rw [he a (hp.mem_iff.mp ha) b (hp.mem_iff.mp hb)] at h1
  exact olt_of_not h1 h2
end K11

/-! order_of, endings -/
namespace K11
open PySem PySem.Spec PyProof.Rows L2
open PySem.W (EachIs AllAlike Sortable dataLe dataLt alike)
/-- keys as they stand in the heap -/
abbrev Pks (H : Hp) : List Addr → List (Int × Int) → Prop := Paired fun a k => H a = some (.tup [.int k.1, .int k.2])
theorem Pks.same {H H' : Hp} {as : List Addr} {ks : List (Int × Int)} (h : Pks H as ks) (s : Same H H') : Pks H' as ks := Paired.mapP h fun _ _ e => s _ _ e
theorem Pks.mut {H : Hp} {as : List Addr} {ks : List (Int × Int)} {F : Addr} {xs : List V} {o : HO} (h : Pks H as ks) (hF : H F = some (.lst xs)) : Pks (upd H F o) as ks := Paired.mapP h fun a p e => by
  rw [upd_ne (ne_of e hF (by intro z; cases z))]
  exact e
theorem Pks.zs {K : PySem.W.Frag} {H : Hp} : ∀ {as : List Addr} {ks : List (Int × Int)}, Pks H as ks → ∃ zs : List (V × (Int × Int)), zs.map Prod.fst = as.map V.ref ∧ zs.map Prod.snd = ks ∧ ∀ z ∈ zs, (RP K).val H z.1 z.2
  | _, _, .nil => ⟨[], rfl, rfl, fun _ h => nomatch h⟩
  | _, _, .cons (a := a) (b := k) h t => by
    obtain ⟨zs, e1, e2, e3⟩ := Pks.zs t
    refine ⟨(.ref a, k) :: zs, by rw [List.map_cons, e1]; rfl, by rw [List.map_cons, e2], fun z hz => ?_⟩
    rcases List.mem_cons.mp hz with rfl | hz
    · exact ⟨a, rfl, h⟩
    · exact e3 z hz
theorem map_get {α β : Type} {f : α → β} {xs : List α} {i : Nat} {y : β} (h : (xs.map f)[i]? = some y) : ∃ x, xs[i]? = some x ∧ f x = y := by
  rw [List.getElem?_map] at h
  cases e : xs[i]? with
  | none => rw [e] at h; cases h
  | some x => rw [e] at h; exact ⟨x, rfl, Option.some.inj h⟩
theorem get_lt {α : Type} {xs : List α} {i : Nat} {x : α} (h : xs[i]? = some x) : i < xs.length := (List.getElem?_eq_some_iff.mp h).1
theorem take_succ {α : Type} {xs : List α} {i : Nat} {x : α} (h : xs[i]? = some x) : xs.take (i + 1) = xs.take i ++ [x] := by
  rw [List.take_add_one, h]
  rfl
theorem first_sign {ts : List Tx} {p : KM.Pl} (h : KM.IsPl ts p) : ∃ c, (KM.txt ts p.1)[p.2]? = some c ∧ (KM.suf ts p).take 1 = [c] := by
  refine ⟨(KM.txt ts p.1)[p.2]'h.2, List.getElem?_eq_getElem h.2, ?_⟩
  unfold KM.suf
  rw [List.drop_eq_getElem_cons h.2]
  rfl
/-- the list that goes to the sort -/
def zsOf (rs : List Int) (as : List Addr) (ps : List KM.Pl) : List ZI := (rs.zip (as.zip ps)).map fun t => (t.1, t.2.1, cP t.2.2)
theorem zsOf_get {rs : List Int} {as : List Addr} {ps : List KM.Pl} {z : ZI} (h : z ∈ zsOf rs as ps) : ∃ (i : Nat) (r : Int) (a : Addr) (p : KM.Pl), rs[i]? = some r ∧ as[i]? = some a ∧ ps[i]? = some p ∧ z = (r, a, cP p) := by
  obtain ⟨t, ht, rfl⟩ := List.mem_map.mp h
  obtain ⟨i, hi⟩ := List.mem_iff_getElem?.mp ht
  obtain ⟨h1, h2⟩ := List.getElem?_zip_eq_some.mp hi
  obtain ⟨h3, h4⟩ := List.getElem?_zip_eq_some.mp h2
  exact ⟨i, _, _, _, h1, h3, h4, rfl⟩
theorem zsOf_rank {rs : List Int} {as : List Addr} {ps : List KM.Pl} (h1 : rs.length = ps.length) (h2 : as.length = ps.length) : (zsOf rs as ps).map (fun z => z.1) = rs := by
  unfold zsOf
  rw [List.map_map]
  show (rs.zip (as.zip ps)).map Prod.fst = rs
  exact List.map_fst_zip (by rw [List.length_zip]; omega)
theorem zsOf_ref {rs : List Int} {as : List Addr} {ps : List KM.Pl} (h1 : rs.length = ps.length) (h2 : as.length = ps.length) : (zsOf rs as ps).map (fun z => z.2.1) = as := by
  unfold zsOf
  rw [List.map_map]
  have e : (fun z : ZI => z.2.1) ∘ (fun t : Int × Addr × KM.Pl => ((t.1, t.2.1, cP t.2.2) : ZI)) = Prod.fst ∘ Prod.snd := rfl
  rw [e, ← List.map_map, List.map_snd_zip (by rw [List.length_zip]; omega), List.map_fst_zip (by omega)]
def unP (k : Int × Int) : KM.Pl := (k.1.toNat, k.2.toNat)
theorem unP_cP (p : KM.Pl) : unP (cP p) = p := rfl
theorem zsOf_pl {rs : List Int} {as : List Addr} {ps : List KM.Pl} (h1 : rs.length = ps.length) (h2 : as.length = ps.length) : (zsOf rs as ps).map (fun z => unP z.2.2) = ps := by
  unfold zsOf
  rw [List.map_map]
  have e : (fun z : ZI => unP z.2.2) ∘ (fun t : Int × Addr × KM.Pl => ((t.1, t.2.1, cP t.2.2) : ZI)) = Prod.snd ∘ Prod.snd := rfl
  rw [e, ← List.map_map, List.map_snd_zip (by rw [List.length_zip]; omega), List.map_snd_zip (by omega)]
/-- sorting by rank and place -/
theorem ord_ranks {ts : List Tx} {rs : List Int} {as : List Addr} {m : Nat} (k : KM.Rk ts (KM.places ts) m rs) (hm : ∀ t ∈ ts, t.length ≤ m) (h2 : as.length = (KM.places ts).length) :
    IsOrd ts (((zsOf rs as (KM.places ts)).mergeSort (dataLe false zD)).map fun z => unP z.2.2) := by
  refine ord_of_sort (zsOf_pl k.len h2) fun z hz u hu => ?_
  obtain ⟨i, r, a, p, e1, _, e3, rfl⟩ := zsOf_get hz
  obtain ⟨j, s, b, q, f1, _, f3, rfl⟩ := zsOf_get hu
  rw [dataLt_zD]
  obtain ⟨w1, w2⟩ := KM.rk_whole k hm f3 e3 f1 e1
  show (s < r ∨ (s = r ∧ KM.zlt (cP q) (cP p))) ↔ olt ts (unP (cP q)) (unP (cP p))
  rw [w1, w2, zlt_cP, unP_cP, unP_cP]
  exact Iff.rfl
theorem paired_map {α β γ : Type} {R : β → γ → Prop} {f : α → β} {g : α → γ} : ∀ {l : List α}, (∀ x ∈ l, R (f x) (g x)) → Paired R (l.map f) (l.map g)
  | [], _ => .nil
  | x :: l, h => .cons (h x List.mem_cons_self) (paired_map fun y hy => h y (List.mem_cons_of_mem _ hy))
section
variable {P : Program} {w : World} {K : PySem.W.Frag} {mg : Str → Option Value} {base : Heap}
abbrev s_order_of : Stmt := topS 26
abbrev s_endings : Stmt := topS 27
theorem sc_order_of : FnScope ["library", "places", "ranks", "many", "longest", "tails", "keys", "text", "at", "rank", "tail", "place"] ["library"] (defScope s_order_of) := ⟨rfl, rfl, rfl, by decide +kernel, rfl, by decide +kernel, by decide +kernel⟩
def sp_order_of (C : Addr) : Sp := fun vs H Q _ => ∃ (l tt : Addr) (ts : List Tx), vs = [.ref l] ∧ Lib C H l tt ts ∧
  ∀ (H' : Hp) (F : Addr) (as : List Addr) (o : List KM.Pl), Same H H' → H F = none → H' F = some (.lst (as.map V.ref)) → IsOrd ts o → Pls H' as o → Q (.ref F) H'
theorem co_order_of {f C : Addr} {fd : FuncData} (B : Blt mg) (T : LC K mg C) (C1 : Co P w K mg base 1 "all_places" (sp_all_places C)) (C2 : Co P w K mg base 1 "numbered" (sp_numbered (RS K))) (C3 : Co P w K mg base 1 "numbered" (sp_numbered (RP K))) (C4 : Co P w K mg base 1 "tails_of" sp_tails_of)
    (D : Dn K mg "order_of" s_order_of ["library"] f fd) : Co P w K mg base 2 "order_of" (sp_order_of C) := by
  refine Co.mk' D sc_order_of (fun vs H Q E h => ?_) (fun cdv A outer s H vs Q E hr h => ?_)
  · obtain ⟨l, tt, ts, rfl, _⟩ := h
    rfl
  · obtain ⟨l, tt, ts, rfl, L, q⟩ := h
    obtain ⟨dx, ho⟩ := L.ob
    have hu := hu_of hr
    have nd := sc_order_of.nd
    refine ⟨_, pss_cons (ps_set (i := 1) nd rfl (.inl rfl) (pe_co C1 hr (by decide) (by rfl) (pa_cons (pv 0) pa_nil)))
      (pss_cons (ps_set (i := 2) nd rfl (.inr rfl) (pe_co C2 hr (by decide) (by rfl) (pa_cons (pe_lc (own := [("text", 7), ("at", 8)]) (te := tOp rIxS (tOp (rIxT K) (tFld K (tVar 0) "texts") (tVar 7)) (tVar 8)) (g := gTup K 2 (gCons (gName 7) (gCons (gName 8) gNil))) (tt := tYes) rfl nd (pi_list (pv 1)) (blkOk_by (own := [("text", 7), ("at", 8)]) (N := ["library", "places", "ranks", "many", "longest", "tails", "keys", "text", "at", "rank", "tail", "place"]) (sc := defScope s_order_of) (by decide +kernel))
          (fun _ _ _ _ _ => pg_tup rfl (pgs_cons (pg_name (i := 7) nd rfl (Or.inl rfl)) (pgs_cons (pg_name (i := 8) nd rfl (Or.inl rfl)) pgs_nil))) (fun _ _ _ _ _ => pts_nil)
          (fun _ _ _ _ _ => pe_ix ix_str (pe_ix (r := rIxT K) ix_tup (pe_fld (pv 0) rfl) (pv 7) (fun _ _ => rfl)) (pv 8) (fun _ _ => rfl))) pa_nil)))
      (pss_cons (ps_set (i := 3) nd rfl (.inl rfl) pe_int)
      (pss_cons (ps_set (i := 4) nd rfl (.inl rfl) (pe_callB (cr_max rfl) (by rfl) B.max boot_max (pa_cons (pe_op op_cat (pe_lst (pa_cons pe_int pa_nil)) (pe_lc (own := [("text", 7)]) (g := gName 7) (tt := tYes) rfl nd (pi_tup (pe_fld (pv 0) rfl)) (blkOk_by (own := [("text", 7)]) (N := ["library", "places", "ranks", "many", "longest", "tails", "keys", "text", "at", "rank", "tail", "place"]) (sc := defScope s_order_of) (by decide +kernel))
          (fun _ _ _ _ _ => pg_name (i := 7) nd rfl (Or.inl rfl)) (fun _ _ _ _ _ => pts_nil) (fun _ _ _ _ _ => pe_callB call_len_str (by rfl) B.len PySem.boot_len (pa_cons (pv 7) pa_nil)))) pa_nil)))
      (pss_cons (ps_while PassesOwn.never (pt_cmpR op_lt (pv 3) (pv 4) (nomark _))
        (pss_cons (ps_set (i := 5) nd rfl (.inl rfl) (pe_co C4 hr (by decide) (by rfl) (pa_cons (pv 0) (pa_cons (pv 1) (pa_cons (pv 3) pa_nil)))))
        (pss_cons (ps_setLc (i := 6) (own := [("rank", 9), ("tail", 10)]) (g := gTup K 2 (gCons (gName 9) (gCons (gName 10) gNil))) (tt := tYes) rfl nd rfl rfl (sw_true rfl rfl rfl rfl) (pi_zip (by rfl) B.zip (pa_cons (pv 2) (pa_cons (pv 5) pa_nil))) (blkOk_by (own := [("rank", 9), ("tail", 10)]) (N := ["library", "places", "ranks", "many", "longest", "tails", "keys", "text", "at", "rank", "tail", "place"]) (sc := defScope s_order_of) (by decide +kernel))
          (fun _ _ _ _ _ => pg_tup rfl (pgs_cons (pg_name (i := 9) nd rfl (Or.inl rfl)) (pgs_cons (pg_name (i := 10) nd rfl (Or.inl rfl)) pgs_nil))) (fun _ _ _ _ _ => pts_nil)
          (fun _ _ _ _ _ => pe_tup (pa_cons (pv 9) (pa_cons (pe_ifExp (pt_cmpR op_isN (pv 10) pe_non (nomark _)) (pe_un un_neg pe_int) (pe_ix (r := rIxL K) ix_list (pv 2) (pv 10) (fun _ _ => rfl))) pa_nil))))
        (pss_cons (ps_set (i := 2) nd rfl (.inr rfl) (pe_co C3 hr (by decide) (by rfl) (pa_cons (pv 6) pa_nil)))
        (pss_one (ps_set (i := 3) nd rfl (.inl rfl) (pe_op op_mul pe_int (pv 3))))))))
      (pss_one (ps_ret (pe_lc (own := [("rank", 9), ("place", 11)]) (g := gTup K 2 (gCons (gName 9) (gCons (gName 11) gNil))) (tt := tYes) rfl nd (pi_list (pe_sortZip rfl hr.units (by rfl) B.sorted (by rfl) B.zip (pa_cons (pv 2) (pa_cons (pv 1) pa_nil)))) (blkOk_by (own := [("rank", 9), ("place", 11)]) (N := ["library", "places", "ranks", "many", "longest", "tails", "keys", "text", "at", "rank", "tail", "place"]) (sc := defScope s_order_of) (by decide +kernel))
          (fun _ _ _ _ _ => pg_tup rfl (pgs_cons (pg_name (i := 9) nd rfl (Or.inl rfl)) (pgs_cons (pg_name (i := 11) nd rfl (Or.inl rfl)) pgs_nil))) (fun _ _ _ _ _ => pts_nil)
          (fun _ _ _ _ _ => pv 11)))))))), ?_⟩
    -- places
    refine ⟨_, rfl, l, tt, ts, rfl, L, fun H1 F as s1 nF hF hP => ?_⟩
    have hal := Paired.length hP
    have hpl : (KM.places ts).length ≤ 2000 := by rw [KM.length_places]; exact L.ok.sum
    -- the first signs
    refine ⟨_, rfl, F, rfl, ⟨_, SqL.of hF⟩, fun D0 nD0 => lc_list (xs := as.map V.ref) (fun i H2 => Same H1 H2 ∧ H2 D0 = some (.lst (((KM.places ts).take i).map fun p => V.str (S ((KM.suf ts p).take 1))))) ⟨same_upd nD0, upd_same⟩ (fun i H2 _ ⟨s2, _⟩ => SqL.of (s2 _ _ hF)) ?_ ?_⟩
    · rintro i x H2 hx ⟨s2, hD⟩
      obtain ⟨a, ha, rfl⟩ := map_get hx
      obtain ⟨p, hp, hap⟩ := paired_getL hP ha
      have hip := KM.mem_places.mp (List.mem_of_getElem? hp)
      have hil := get_lt hp
      have L2 := (L.same s1).same s2
      obtain ⟨dx2, ho2⟩ := L2.ob
      obtain ⟨c, hc, e1⟩ := first_sign hip
      refine ⟨a, _, rfl, SqT.of (s2 _ _ hap), rfl, _, _, rfl, _, _, rfl, rfl, ?_⟩
      refine ⟨rfl, _, rfl, l, C, dx2, lf tt, .ref tt, rfl, ho2, T.cl, T.n, lf_texts tt, _, rfl, tt, tv ts, _, _, rfl, rfl, SqT.of L2.tx, atI_nat (txt_get hip), _, rfl, S (KM.txt ts p.1), _, c, rfl, rfl, ?_, atI_nat hc, _, hD, ?_, s2.mut nD0, ?_⟩
      · exact small_le (by have := L.ok.len (txt_mem hip); rw [S_len]; omega)
      · rw [List.length_map, List.length_take]
        exact small_lt (by omega)
      · rw [upd_same, take_succ hp, List.map_append]
        show some (HO.lst (_ ++ [V.str (S [c])])) = some (HO.lst (_ ++ [V.str (S ((KM.suf ts p).take 1))]))
        rw [e1]
    rintro H2 ⟨s2, hD⟩
    have e0 : (KM.places ts).take (as.map V.ref).length = KM.places ts := by rw [List.length_map, hal]; exact List.take_length
    rw [e0] at hD
    refine ⟨D0, (KM.places ts).map fun p => (V.str (S ((KM.suf ts p).take 1)), (KM.suf ts p).take 1), rfl, ?_, ?_, by rw [List.length_map]; exact hpl, fun H3 R rs s3 nR hR num => ?_⟩
    · rw [List.map_map]
      exact hD
    · intro z hz
      obtain ⟨p, _, rfl⟩ := List.mem_map.mp hz
      exact rfl
    rw [List.map_map] at num
    have rk1 := KM.rk_first (ts := ts) (rs := rs) num
    -- longest
    have s13 := s2.trans s3
    have L3 := (L.same s1).same s13
    obtain ⟨dx3, ho3⟩ := L3.ob
    refine ⟨(by show 1 ≤ sizeLine; decide), fun Z nZ => ?_⟩
    have s4 : Same H3 (upd H3 Z (.lst [.int 0])) := same_upd nZ
    refine ⟨_, rfl, l, C, dx3, lf tt, .ref tt, rfl, s4 _ _ ho3, T.cl, T.n, lf_texts tt, tt, rfl, ⟨_, SqT.of (s4 _ _ L3.tx)⟩, fun D1 nD1 => lc_tup (xs := tv ts) (fun i H5 => Same (upd H3 Z (.lst [.int 0])) H5 ∧ H5 D1 = some (.lst (((ts.take i).map fun t => (t.length : Int)).map V.int))) ⟨same_upd nD1, upd_same⟩ (fun i H2 _ ⟨s5, _⟩ => SqT.of (s5 _ _ (s4 _ _ L3.tx))) ?_ ?_⟩
    · rintro i x H5 hx ⟨s5, hD1⟩
      obtain ⟨t, ht, rfl⟩ := map_get hx
      have hm := List.mem_of_getElem? ht
      have hil := get_lt ht
      refine ⟨rfl, _, rfl, S t, rfl, small_le (by have := L.ok.len hm; rw [S_len]; omega), _, hD1, ?_, s5.mut nD1, ?_⟩
      · rw [List.length_map, List.length_map, List.length_take]
        have := L.ok.many
        exact small_lt (by omega)
      · rw [upd_same, take_succ ht, S_len]
        simp
    rintro H5 ⟨s5, hD1⟩
    have e1 : ts.take (tv ts).length = ts := by rw [List.length_map]; exact List.take_length
    rw [e1] at hD1
    refine ⟨Z, D1, [.int 0], _, rfl, rfl, s5 _ _ upd_same, hD1, ?_, fun Y nY => ⟨Y, 0 :: (ts.map fun t => (t.length : Int)), rfl, SqL.of upd_same, Nat.succ_pos _, fun lo hlo1 hlo2 => ?_⟩⟩
    · rw [List.length_map, List.length_map]
      have := L.ok.many
      exact small_le (by show 1 + ts.length ≤ 100000; omega)
    have s35 : Same H3 (upd H5 Y (.lst ([.int 0] ++ (ts.map fun t => (t.length : Int)).map V.int))) := (s4.trans s5).trans (same_upd nY)
    generalize upd H5 Y (.lst ([.int 0] ++ (ts.map fun t => (t.length : Int)).map V.int)) = H6 at s35
    have hlong : ∀ t ∈ ts, (t.length : Int) ≤ lo := fun t ht => hlo2 _ (List.mem_cons_of_mem _ (List.mem_map.mpr ⟨t, ht, rfl⟩))
    have s16 : Same H1 H6 := s13.trans s35
    have hlo3 : lo ≤ 2000 := by
      rcases List.mem_cons.mp hlo1 with e | hm
      · omega
      · obtain ⟨t, ht, rfl⟩ := List.mem_map.mp hm
        have := L.ok.len ht
        omega
    -- the rounds
    refine while_by (fun σ H7 => ∃ y5 y6 R m rs, σ = [some (.ref l), some (.ref F), some (.ref R), some (.int (m : Nat)), some (.int lo), y5, y6, none, none, none, none, none] ∧ Same H6 H7 ∧ H7 R = some (.lst (rs.map V.int)) ∧ KM.Rk ts (KM.places ts) m rs ∧ 0 < m)
      (fun σ H7 => match σ with | [_, _, _, some (.int m), _, _, _, _, _, _, _, _] => (lo - m).toNat | _ => 0) ⟨none, none, R, 1, rs, rfl, Same.refl _, s35 _ _ hR, rk1, Nat.one_pos⟩ ?_ ?_
    · rintro σ H7 ⟨y5, y6, R1, m, rs1, rfl, s7, hR1, rk, hm0⟩
      have hkl : (KM.keysOf (KM.places ts) m rs1).length = (KM.places ts).length := by
        unfold KM.keysOf
        rw [List.length_map, List.length_zip, rk.len, Nat.min_self]
      refine ⟨_, rfl, _, rfl, (m : Int), lo, rfl, rfl, _, rfl, ?_⟩
      by_cases hml : (m : Int) < lo
      · refine iteIs (decide_eq_true hml) ?_
        refine ⟨_, rfl, _, rfl, _, rfl, _, F, m, as, KM.places ts, rfl, (s16.trans s7) _ _ hF, Pls.same hP (s16.trans s7), KM.places_nodup ts, hpl, fun H8 L8 s8 nL8 hL8 => ?_⟩
        have hR8 := s8 _ _ hR1
        refine ⟨_, rfl, _, rfl, R1, L8, rs1.map V.int, _, rfl, SqL.of hR8, SqL.of hL8, fun Dk nDk => lc_it (walk_zip (xs := rs1.map V.int) (ys := (KM.places ts).map fun p => tlV (KM.tailOf (KM.places ts) m p)) (n := (KM.places ts).length) (by rw [List.length_map, List.length_map, rk.len, Nat.min_self]))
          (fun i H9 => Same H8 H9 ∧ ∃ bs, H9 Dk = some (.lst (bs.map V.ref)) ∧ Pks H9 bs ((KM.keysOf (KM.places ts) m rs1).take i)) ⟨same_upd nDk, [], upd_same, .nil⟩ (fun i H9 _ ⟨s9, _⟩ => ⟨SqL.of (s9 _ _ hR8), SqL.of (s9 _ _ hL8)⟩) ?_ ?_⟩
        · rintro i x H9 H10 hi ⟨s9, bs, hDk, hB⟩ ⟨U, u, v, rfl, nU, rfl, hu', hv⟩
          obtain ⟨r, hr1, rfl⟩ := map_get (xs := rs1) (f := V.int) hu'
          obtain ⟨p, hp, rfl⟩ := map_get (xs := KM.places ts) (f := fun p => tlV (KM.tailOf (KM.places ts) m p)) hv
          have hil := get_lt hp
          have s10 := same_upd (o := .tup [.int r, tlV (KM.tailOf (KM.places ts) m p)]) nU
          refine ⟨U, _, rfl, SqT.of upd_same, rfl, _, _, rfl, _, _, rfl, rfl, ?_⟩
          generalize upd H9 U (.tup [.int r, tlV (KM.tailOf (KM.places ts) m p)]) = H10 at s10
          have hkey : (KM.keysOf (KM.places ts) m rs1)[i]? = some (r, KM.tailRank (KM.places ts) m rs1 p) := by
            unfold KM.keysOf
            have e : (rs1.zip (KM.places ts))[i]? = some (r, p) := List.getElem?_zip_eq_some.mpr ⟨hr1, hp⟩
            rw [List.getElem?_map, e]
            rfl
          have fin : ∀ k2 : Int, k2 = KM.tailRank (KM.places ts) m rs1 p → ∀ c, H10 c = none → ∃ acc, (upd H10 c (.tup [.int r, .int k2])) Dk = some (.lst acc) ∧ acc.length < sizeLine ∧
              (Same H8 (upd (upd H10 c (.tup [.int r, .int k2])) Dk (.lst (acc ++ [.ref c]))) ∧ ∃ bs, (upd (upd H10 c (.tup [.int r, .int k2])) Dk (.lst (acc ++ [.ref c]))) Dk = some (.lst (bs.map V.ref)) ∧ Pks (upd (upd H10 c (.tup [.int r, .int k2])) Dk (.lst (acc ++ [.ref c]))) bs ((KM.keysOf (KM.places ts) m rs1).take (i + 1))) := by
            rintro k2 rfl c nc
            have s11 := same_upd (o := .tup [.int r, .int (KM.tailRank (KM.places ts) m rs1 p)]) nc
            have hDk2 := s11 _ _ (s10 _ _ hDk)
            refine ⟨_, hDk2, ?_, ((s9.trans s10).trans s11).mut nDk, bs ++ [c], ?_, ?_⟩
            · have e1 := Paired.length hB
              rw [List.length_map, e1, List.length_take]
              exact small_lt (by omega)
            · rw [upd_same, List.map_append]
              rfl
            · rw [take_succ hkey]
              refine Pks.mut (xs := bs.map V.ref) (paired_app (Pks.same hB (s10.trans s11)) (.cons ?_ .nil)) hDk2
              rw [upd_same]
          refine ⟨rfl, _, rfl, _, rfl, rfl, _, rfl, ?_⟩
          cases et : KM.tailOf (KM.places ts) m p with
          | none =>
            refine iteIs (by simp [tlV]) ?_
            exact ⟨1, rfl, (by show 2 ≤ sizeLine; decide), fin (-1) (by unfold KM.tailRank; rw [et])⟩
          | some j =>
            refine iteIsn (by simp [tlV]) ?_
            have hj := get_lt (KM.tailOf_some et)
            have hjr : j < rs1.length := by rw [rk.len]; exact hj
            refine ⟨_, rfl, _, rfl, R1, _, (j : Int), .int rs1[j], rfl, rfl, SqL.of (s10 _ _ (s9 _ _ hR8)), atI_nat (by rw [List.getElem?_map, List.getElem?_eq_getElem hjr]; rfl), (by show 2 ≤ sizeLine; decide), fin rs1[j] ?_⟩
            unfold KM.tailRank
            rw [et]
            show rs1[j] = rs1.getD j 0
            rw [List.getD_eq_getElem?_getD, List.getElem?_eq_getElem hjr]
            rfl
        · rintro H9 ⟨s9, bs, hDk, hB⟩
          rw [← hkl, List.take_length] at hB
          obtain ⟨zs, z1, z2, z3⟩ := Pks.zs (K := K) hB
          have hzl : zs.length = (KM.places ts).length := by rw [← hkl, ← z2, List.length_map]
          refine ⟨_, rfl, Dk, zs, rfl, by rw [z1]; exact hDk, z3, by rw [hzl]; exact hpl, fun H11 R2 rs2 s11 nR2 hR2 num => ?_⟩
          rw [z2] at num
          refine ⟨_, rfl, 2, (m : Int), rfl, rfl, .inl ⟨by decide, by decide⟩, ?_⟩
          refine ⟨⟨some (.ref L8), some (.ref Dk), R2, 2 * m, rs2, ?_, ((s7.trans s8).trans s9).trans s11, hR2, KM.rk_next rk num hm0, by omega⟩, ?_⟩
          · rw [show ((2 * m : Nat) : Int) = 2 * (m : Int) by omega]
            rfl
          · show (lo - 2 * (m : Int)).toNat < (lo - (m : Int)).toNat
            omega
      · refine iteIsn (decide_eq_false hml) ?_
        -- the sort
        have hz1 : (zsOf rs1 as (KM.places ts)).map (fun z => V.int z.1) = rs1.map V.int := by
          conv => rhs; rw [← zsOf_rank (as := as) rk.len hal]
          rw [List.map_map]
          rfl
        have hz2 : (zsOf rs1 as (KM.places ts)).map (fun z => V.ref z.2.1) = as.map V.ref := by
          conv => rhs; rw [← zsOf_ref (rs := rs1) rk.len hal]
          rw [List.map_map]
          rfl
        have s17 := s16.trans s7
        have hpz : ∀ z ∈ zsOf rs1 as (KM.places ts), H7 z.2.1 = some (plV (unP z.2.2)) ∧ cP (unP z.2.2) = z.2.2 := fun z hz => by
          obtain ⟨i, r, a, p, _, e2, e3, rfl⟩ := zsOf_get hz
          obtain ⟨p', hp', hap⟩ := paired_getL hP e2
          obtain rfl : p' = p := Option.some.inj (hp'.symm.trans e3)
          exact ⟨s17 _ _ hap, rfl⟩
        refine ⟨_, rfl, _, rfl, R1, F, zsOf rs1 as (KM.places ts), rfl, by rw [hz1]; exact SqL.of hR1, by rw [hz2]; exact SqL.of (s17 _ _ hF), fun z hz => ?_, fun H8 p tz s8 np htz hp hpair => ?_⟩
        · obtain ⟨h1, h2⟩ := hpz z hz
          rw [h1, ← h2]
          rfl
        have htl : tz.length = (KM.places ts).length := by
          have := congrArg List.length htz
          rw [List.length_map, List.length_mergeSort, ← List.length_map (f := fun z : ZI => z.1), zsOf_rank rk.len hal, rk.len] at this
          exact this
        refine ⟨p, rfl, ⟨_, SqL.of hp⟩, fun Lf nLf => lc_list (xs := tz.map fun t => V.ref t.1) (fun i H9 => Same H8 H9 ∧ H9 Lf = some (.lst ((tz.take i).map fun t => V.ref t.2.2.1))) ⟨same_upd nLf, upd_same⟩ (fun i H9 _ ⟨s9, _⟩ => SqL.of (s9 _ _ hp)) ?_ ?_⟩
        · rintro i x H9 hx ⟨s9, hLf⟩
          obtain ⟨t, ht, rfl⟩ := map_get hx
          have hil := get_lt ht
          refine ⟨t.1, _, rfl, SqT.of (s9 _ _ (hpair t (List.mem_of_getElem? ht))), rfl, _, _, rfl, _, _, rfl, rfl, ?_⟩
          refine ⟨rfl, _, rfl, _, hLf, ?_, s9.mut nLf, ?_⟩
          · rw [List.length_map, List.length_take]
            exact small_lt (by omega)
          · rw [upd_same, take_succ ht, List.map_append]
            rfl
        · rintro H9 ⟨s9, hLf⟩
          rw [List.length_map, List.take_length] at hLf
          have et : tz.map (fun t => V.ref t.2.2.1) = ((((zsOf rs1 as (KM.places ts)).mergeSort (dataLe false zD)).map fun z => z.2.1)).map V.ref := by
            rw [← htz, List.map_map, List.map_map]
            rfl
          rw [et] at hLf
          refine q H9 Lf _ _ ((s1.trans s17).trans (s8.trans s9)) ((s1.trans s17).free (s8.free nLf)) hLf (ord_ranks rk (fun t ht => by have := hlong t ht; omega) hal) ?_
          refine paired_map fun z hz => ?_
          exact s9 _ _ (s8 _ _ (hpz z ((List.mergeSort_perm _ _).mem_iff.mp hz)).1)
    · rintro σ H Q Q' hq ⟨x, h1, y, h2, i, j, h3, h4, b, h5, h6⟩
      exact ⟨x, h1, y, h2, i, j, h3, h4, b, h5, hq _ _ h6⟩
def sp_endings (C : Addr) : Sp := sp_order_of C
theorem sc_endings : FnScope ["library"] ["library"] (defScope s_endings) := ⟨rfl, rfl, rfl, by decide +kernel, rfl, by decide +kernel, by decide +kernel⟩
theorem co_endings {f C : Addr} {fd : FuncData} (C1 : Co P w K mg base 2 "order_of" (sp_order_of C)) (D : Dn K mg "endings" s_endings ["library"] f fd) : Co P w K mg base 3 "endings" (sp_order_of C) := by
  refine Co.mk' D sc_endings (fun vs H Q E h => ?_) (fun cdv A outer s H vs Q E hr h => ?_)
  · obtain ⟨l, tt, ts, rfl, _⟩ := h
    rfl
  · obtain ⟨l, tt, ts, rfl, L, q⟩ := h
    refine ⟨_, pss_one (ps_ret (pe_co C1 hr (by decide) (by rfl) (pa_cons (pv 0) pa_nil))), ?_⟩
    exact ⟨_, rfl, l, tt, ts, rfl, L, q⟩
end
end K11

/-! ending, common_of, common_at, common, rank, lengths_of, lengths -/
namespace K11
open PySem PySem.Spec PyProof.Rows L2
open PySem.W (EachIs AllAlike Sortable dataLe dataLt alike)
def plD (p : KM.Pl) : PyData := .tuple [.int (p.1 : Int), .int (p.2 : Int)]
theorem dp_pl {K : PySem.W.Frag} {H : Hp} {a : Addr} {p : KM.Pl} (h : H a = some (plV p)) : Dp K H (.ref a) (plD p) := .tup (SqT.of h) (.cons (.int _) (.cons (.int _) .nil))
theorem dp_pls {K : PySem.W.Frag} {H : Hp} : ∀ {as : List Addr} {ps : List KM.Pl}, Pls H as ps → DpAll K H (as.map V.ref) (ps.map plD)
  | _, _, .nil => .nil
  | _, _, .cons h t => .cons (dp_pl h) (dp_pls t)
theorem eqv_pl (p q : KM.Pl) : PyData.eqv (plD p) (plD q) = decide (p = q) := by
  unfold plD
  rw [eqv_ii]
  congr 1
  apply propext
  constructor
  · rintro ⟨h1, h2⟩
    exact Prod.ext (by omega) (by omega)
  · rintro rfl
    exact ⟨rfl, rfl⟩
theorem eqv_pls : ∀ ps : List KM.Pl, PyData.eqvAll (ps.map plD) (ps.map plD) = true
  | [] => by simp [PyData.eqvAll]
  | p :: ps => by
    rw [List.map_cons]
    simp only [PyData.eqvAll]
    rw [eqv_pl, eqv_pls ps]
    simp
theorem depth_pls : ∀ ps : List KM.Pl, PyData.depthAll (ps.map plD) ≤ 1
  | [] => by simp [PyData.depthAll]
  | p :: ps => by
    have := depth_pls ps
    rw [List.map_cons]
    simp only [PyData.depthAll, plD, PyData.depth]
    omega
theorem can_pls : ∀ ps : List KM.Pl, PyData.canLayAll0 (ps.map plD) = true
  | [] => by simp [PyData.canLayAll0]
  | p :: ps => by
    rw [List.map_cons]
    simp only [PyData.canLayAll0, can_pls ps, plD, PyData.canLay0]
    decide
theorem shaped_pl (p : KM.Pl) : SeqAt.shaped (plD p) = true := by
  unfold SeqAt.shaped plD
  simp [PyData.canLay0, PyData.canLayAll0, PyData.depth, PyData.depthAll]
theorem shaped_pls (ps : List KM.Pl) : SeqAt.shaped (.list (ps.map plD)) = true := by
  have := depth_pls ps
  have h2 := can_pls ps
  unfold SeqAt.shaped
  simp only [PyData.canLay0, PyData.depth]
  rw [h2, Bool.true_and]
  exact decide_eq_true (by omega)
section
variable {P : Program} {w : World} {K : PySem.W.Frag} {mg : Str → Option Value} {base : Heap}
abbrev s_ending : Stmt := topS 28
abbrev s_common_of : Stmt := topS 29
abbrev s_common_at : Stmt := topS 30
abbrev s_rank : Stmt := topS 31
abbrev s_common : Stmt := topS 32
abbrev s_lengths_of : Stmt := topS 33
abbrev s_lengths : Stmt := topS 34
theorem sc_ending : FnScope ["library", "place"] ["library", "place"] (defScope s_ending) := ⟨rfl, rfl, rfl, by decide +kernel, rfl, by decide +kernel, by decide +kernel⟩
theorem sc_common_of : FnScope ["one", "other", "most", "many"] ["one", "other"] (defScope s_common_of) := ⟨rfl, rfl, rfl, by decide +kernel, rfl, by decide +kernel, by decide +kernel⟩
theorem sc_common_at : FnScope ["library", "one", "other"] ["library", "one", "other"] (defScope s_common_at) := ⟨rfl, rfl, rfl, by decide +kernel, rfl, by decide +kernel, by decide +kernel⟩
theorem sc_rank : FnScope ["library", "place"] ["library", "place"] (defScope s_rank) := ⟨rfl, rfl, rfl, by decide +kernel, rfl, by decide +kernel, by decide +kernel⟩
theorem sc_common : FnScope ["library", "one", "other"] ["library", "one", "other"] (defScope s_common) := ⟨rfl, rfl, rfl, by decide +kernel, rfl, by decide +kernel, by decide +kernel⟩
theorem sc_lengths_of : FnScope ["library", "order", "found", "at"] ["library", "order"] (defScope s_lengths_of) := ⟨rfl, rfl, rfl, by decide +kernel, rfl, by decide +kernel, by decide +kernel⟩
theorem sc_lengths : FnScope ["library"] ["library"] (defScope s_lengths) := ⟨rfl, rfl, rfl, by decide +kernel, rfl, by decide +kernel, by decide +kernel⟩
theorem co_ending {f C : Addr} {fd : FuncData} (C1 : Co P w K mg base 5 "check_place" (sp_check_place C)) (C2 : Co P w K mg base 1 "ending_at" (sp_ending_at C)) (D : Dn K mg "ending" s_ending ["library", "place"] f fd) : Co P w K mg base 6 "ending" (sp_ending_at C) := by
  refine Co.mk' D sc_ending (fun vs H Q E h => ?_) (fun cdv A outer s H vs Q E hr h => ?_)
  · obtain ⟨l, tt, a, ts, p, rfl, _⟩ := h
    rfl
  · obtain ⟨l, tt, a, ts, p, rfl, L, ha, hp, q⟩ := h
    refine ⟨_, pss_cons (ps_expr (pe_co C1 hr (by decide) (by rfl) (pa_cons (pv 0) (pa_cons (pv 1) pa_nil)))) (pss_one (ps_ret (pe_co C2 hr (by decide) (by rfl) (pa_cons (pv 0) (pa_cons (pv 1) pa_nil))))), ?_⟩
    exact ⟨_, rfl, _, rfl, l, tt, a, ts, p, rfl, L, ha, hp, _, rfl, _, rfl, l, tt, a, ts, p, rfl, L, ha, hp, q⟩
def sp_common_of : Sp := fun vs H Q _ => ∃ t u : Tx, vs = [.str (S t), .str (S u)] ∧ t.length ≤ 2000 ∧ u.length ≤ 2000 ∧ Q (.int (KM.lcp t u : Nat)) H
theorem co_common_of {f : Addr} {fd : FuncData} (B : Blt mg) (D : Dn K mg "common_of" s_common_of ["one", "other"] f fd) : Co P w K mg base 1 "common_of" sp_common_of := by
  refine Co.mk' D sc_common_of (fun vs H Q E h => ?_) (fun cdv A outer s H vs Q E hr h => ?_)
  · obtain ⟨t, u, rfl, _⟩ := h
    rfl
  · obtain ⟨t, u, rfl, h1, h2, q⟩ := h
    have nd := sc_common_of.nd
    refine ⟨_, pss_cons (ps_set (i := 2) nd rfl (.inl rfl) (pe_callB (call_min2 rfl) (by rfl) B.min boot_min (pa_cons (pe_callB call_len_str (by rfl) B.len PySem.boot_len (pa_cons (pv 0) pa_nil)) (pa_cons (pe_callB call_len_str (by rfl) B.len PySem.boot_len (pa_cons (pv 1) pa_nil)) pa_nil))))
      (pss_cons (ps_set (i := 3) nd rfl (.inl rfl) pe_int)
      (pss_cons (ps_while PassesOwn.never (PW.pt (pw_and (pt_cmpR op_lt (pv 3) (pv 2) (nomark _)) (pw_and1 (pt_cmpR op_eq (pe_ix ix_str (pv 0) (pv 3) (fun _ _ => rfl)) (pe_ix ix_str (pv 1) (pv 3) (fun _ _ => rfl)) (nomark _)))))
        (pss_one (ps_aug (i := 3) nd rfl (.inl rfl) pe_int ip_add)))
      (pss_one (ps_ret (pv 3))))), ?_⟩
    refine ⟨_, rfl, S t, rfl, small_le (by rw [S_len]; omega), _, rfl, S u, rfl, small_le (by rw [S_len]; omega), _, _, rfl, ?_⟩
    have em : (if ((S u).length : Int) < ((S t).length : Int) then ((S u).length : Int) else ((S t).length : Int)) = ((min t.length u.length : Nat) : Int) := by
      rw [S_len, S_len]
      split <;> omega
    rw [em]
    refine while_by (fun σ H1 => ∃ k : Nat, σ = [some (.str (S t)), some (.str (S u)), some (.int ((min t.length u.length : Nat) : Int)), some (.int (k : Int))] ∧ k ≤ KM.lcp t u ∧ H1 = H)
      (fun σ H1 => match σ with | [_, _, _, some (.int k)] => (2000 - k).toNat | _ => 0) ⟨0, rfl, Nat.zero_le _, rfl⟩ ?_ ?_
    · rintro σ H1 ⟨k, rfl, hk, rfl⟩
      refine ⟨_, rfl, _, rfl, (k : Int), _, rfl, rfl, _, rfl, ?_⟩
      by_cases hkm : k < min t.length u.length
      · refine iteIs (decide_eq_true (by omega)) ?_
        have ht : k < t.length := by omega
        have hu : k < u.length := by omega
        have gt : t[k]? = some t[k] := List.getElem?_eq_getElem ht
        have gu : u[k]? = some u[k] := List.getElem?_eq_getElem hu
        refine ⟨_, rfl, _, rfl, S t, _, t[k], rfl, rfl, small_le (by rw [S_len]; omega), atI_nat gt, _, rfl, _, rfl, S u, _, u[k], rfl, rfl, small_le (by rw [S_len]; omega), atI_nat gu, rfl, _, rfl, ?_⟩
        by_cases e : t[k] = u[k]
        · refine iteIs (decide_eq_true (by rw [e])) ?_
          refine ⟨_, rfl, _, _, rfl, rfl, ⟨k + 1, ?_, KM.lcp_more t u k t[k] hk gt (by rw [e]; exact gu), rfl⟩, ?_⟩
          · rfl
          · show (2000 - ((k : Int) + 1)).toNat < (2000 - (k : Int)).toNat
            omega
        · refine iteIsn (decide_eq_false (fun z => e ?_)) ?_
          · injection z with z
            have := congrArg (fun y : Str => y.cps.toList) z
            injection this
          · refine ⟨_, rfl, ?_⟩
            rw [← KM.lcp_stop t u k _ _ hk gt gu e]
            exact q
      · refine iteIsn (decide_eq_false (by omega)) ?_
        refine ⟨_, rfl, ?_⟩
        rw [← KM.lcp_end hk (by omega)]
        exact q
    · rintro σ H Q Q' hq ⟨x, h1, y, h2, i, j, h3, h4, b, h5, h6⟩
      refine ⟨x, h1, y, h2, i, j, h3, h4, b, h5, ?_⟩
      cases b with
      | false => exact hq _ _ h6
      | true =>
        obtain ⟨x1, g1, x2, g2, z1, i1, c1, g3, g4, g5, g6, x3, g7, x4, g8, z2, i2, c2, g9, g10, g11, g12, g13, b2, g14, h7⟩ := h6
        exact ⟨x1, g1, x2, g2, z1, i1, c1, g3, g4, g5, g6, x3, g7, x4, g8, z2, i2, c2, g9, g10, g11, g12, g13, b2, g14, hq _ _ h7⟩
end
end K11

/-! common_at, rank, common, lengths_of, lengths -/
namespace K11
open PySem PySem.Spec PyProof.Rows L2
open PySem.W (EachIs AllAlike Sortable dataLe dataLt alike)
theorem suf_len {ts : List Tx} (o : Okt ts) {p : KM.Pl} (h : KM.IsPl ts p) : (KM.suf ts p).length ≤ 2000 := by
  have := o.len (txt_mem h)
  unfold KM.suf
  rw [List.length_drop]
  omega
/-- what the neighbours have in common -/
def lenAt (ts : List Tx) (o : List KM.Pl) (k : Nat) : Nat := if k = 0 then 0 else KM.lcp (KM.suf ts (o.getD (k - 1) (0, 0))) (KM.suf ts (o.getD k (0, 0)))
def lens (ts : List Tx) (o : List KM.Pl) : List Int := (List.range o.length).map fun k => (lenAt ts o k : Int)
def lensTo (ts : List Tx) (o : List KM.Pl) (i : Nat) : List Int := (List.range o.length).map fun k => if k < i then (lenAt ts o k : Int) else 0
theorem lensTo_zero (ts : List Tx) (o : List KM.Pl) : lensTo ts o 1 = List.replicate o.length 0 := by
  unfold lensTo
  rw [← List.map_const, ← List.length_range (n := o.length)]
  refine List.ext_getElem (by simp) fun k h1 h2 => ?_
  rw [List.getElem_map, List.getElem_map, List.getElem_range]
  by_cases h : k < 1
  · rw [if_pos h]
    have : k = 0 := by omega
    subst this
    rfl
  · rw [if_neg h]
    rfl
theorem lensTo_all (ts : List Tx) (o : List KM.Pl) {i : Nat} (h : o.length ≤ i) : lensTo ts o i = lens ts o := by
  unfold lensTo lens
  refine List.map_congr_left fun k hk => ?_
  rw [List.mem_range] at hk
  rw [if_pos (by omega)]
theorem lensTo_set (ts : List Tx) (o : List KM.Pl) (i : Nat) : (lensTo ts o i).set i (lenAt ts o i : Int) = lensTo ts o (i + 1) := by
  unfold lensTo
  refine List.ext_getElem (by simp) fun k h1 h2 => ?_
  rw [List.getElem_set]
  rw [List.getElem_map, List.getElem_map, List.getElem_range]
  by_cases e : i = k
  · subst e
    rw [if_pos rfl, if_pos (by omega)]
  · rw [if_neg e]
    by_cases h : k < i
    · rw [if_pos h, if_pos (by omega)]
    · rw [if_neg h, if_neg (by omega)]
theorem lensTo_len (ts : List Tx) (o : List KM.Pl) (i : Nat) : (lensTo ts o i).length = o.length := by
  unfold lensTo
  rw [List.length_map, List.length_range]
theorem map_rep (n : Nat) : (List.replicate n [V.int 0]).flatten = (List.replicate n (0 : Int)).map V.int := by
  induction n with
  | zero => rfl
  | succ n ih =>
    rw [List.replicate_succ, List.replicate_succ, List.flatten_cons, ih]
    rfl
theorem ixN_at {n j : Nat} (hj : j < n) : ixN n (j : Int) = some j := by
  unfold ixN
  rw [if_pos (by omega), if_pos (by omega)]
  rfl
theorem getD_some {α : Type} {l : List α} {i : Nat} {d x : α} (h : l[i]? = some x) : l.getD i d = x := by
  rw [List.getD_eq_getElem?_getD, h]
  rfl
section
variable {P : Program} {w : World} {K : PySem.W.Frag} {mg : Str → Option Value} {base : Heap}
def sp_common_at (C : Addr) : Sp := fun vs H Q _ => ∃ (l tt a b : Addr) (ts : List Tx) (p q : KM.Pl), vs = [.ref l, .ref a, .ref b] ∧ Lib C H l tt ts ∧ H a = some (plV p) ∧ H b = some (plV q) ∧ KM.IsPl ts p ∧ KM.IsPl ts q ∧ Q (.int (KM.lcp (KM.suf ts p) (KM.suf ts q) : Nat)) H
theorem co_common_at {f C : Addr} {fd : FuncData} (C1 : Co P w K mg base 1 "ending_at" (sp_ending_at C)) (C2 : Co P w K mg base 1 "common_of" sp_common_of) (D : Dn K mg "common_at" s_common_at ["library", "one", "other"] f fd) : Co P w K mg base 2 "common_at" (sp_common_at C) := by
  refine Co.mk' D sc_common_at (fun vs H Q E h => ?_) (fun cdv A outer s H vs Q E hr h => ?_)
  · obtain ⟨l, tt, a, b, ts, p, q, rfl, _⟩ := h
    rfl
  · obtain ⟨l, tt, a, b, ts, p, q, rfl, L, ha, hb, hp, hq, k⟩ := h
    refine ⟨_, pss_one (ps_ret (pe_co C2 hr (by decide) (by rfl) (pa_cons (pe_co C1 hr (by decide) (by rfl) (pa_cons (pv 0) (pa_cons (pv 1) pa_nil))) (pa_cons (pe_co C1 hr (by decide) (by rfl) (pa_cons (pv 0) (pa_cons (pv 2) pa_nil))) pa_nil)))), ?_⟩
    exact ⟨_, rfl, _, rfl, l, tt, a, ts, p, rfl, L, ha, hp, _, rfl, _, rfl, l, tt, b, ts, q, rfl, L, hb, hq, _, _, rfl, suf_len L.ok hp, suf_len L.ok hq, k⟩
theorem co_common {f C : Addr} {fd : FuncData} (C1 : Co P w K mg base 5 "check_place" (sp_check_place C)) (C2 : Co P w K mg base 2 "common_at" (sp_common_at C)) (D : Dn K mg "common" s_common ["library", "one", "other"] f fd) : Co P w K mg base 6 "common" (sp_common_at C) := by
  refine Co.mk' D sc_common (fun vs H Q E h => ?_) (fun cdv A outer s H vs Q E hr h => ?_)
  · obtain ⟨l, tt, a, b, ts, p, q, rfl, _⟩ := h
    rfl
  · obtain ⟨l, tt, a, b, ts, p, q, rfl, L, ha, hb, hp, hq, k⟩ := h
    refine ⟨_, pss_cons (ps_expr (pe_co C1 hr (by decide) (by rfl) (pa_cons (pv 0) (pa_cons (pv 1) pa_nil)))) (pss_cons (ps_expr (pe_co C1 hr (by decide) (by rfl) (pa_cons (pv 0) (pa_cons (pv 2) pa_nil))))
      (pss_one (ps_ret (pe_co C2 hr (by decide) (by rfl) (pa_cons (pv 0) (pa_cons (pv 1) (pa_cons (pv 2) pa_nil))))))), ?_⟩
    exact ⟨_, rfl, _, rfl, l, tt, a, ts, p, rfl, L, ha, hp, _, rfl, _, rfl, l, tt, b, ts, q, rfl, L, hb, hq, _, rfl, _, rfl, _, rfl, l, tt, a, b, ts, p, q, rfl, L, ha, hb, hp, hq, k⟩
def sp_rank (C : Addr) : Sp := fun vs H Q _ => ∃ (l tt a : Addr) (ts : List Tx) (p : KM.Pl), vs = [.ref l, .ref a] ∧ Lib C H l tt ts ∧ H a = some (plV p) ∧ KM.IsPl ts p ∧
  ∀ (H' : Hp) (o : List KM.Pl) (i : Nat), Same H H' → IsOrd ts o → o[i]? = some p → Q (.int (i : Nat)) H'
theorem co_rank {f C : Addr} {fd : FuncData} (C1 : Co P w K mg base 5 "check_place" (sp_check_place C)) (C2 : Co P w K mg base 2 "order_of" (sp_order_of C)) (D : Dn K mg "rank" s_rank ["library", "place"] f fd) : Co P w K mg base 6 "rank" (sp_rank C) := by
  refine Co.mk' D sc_rank (fun vs H Q E h => ?_) (fun cdv A outer s H vs Q E hr h => ?_)
  · obtain ⟨l, tt, a, ts, p, rfl, _⟩ := h
    rfl
  · obtain ⟨l, tt, a, ts, p, rfl, L, ha, hp, q⟩ := h
    have h65 : (A.deeper (envOfC "rank" (defScope s_rank) s.heap.objs.size f cdv)).units + 65 < cLine := by
      have := hr.un
      omega
    refine ⟨_, pss_cons (ps_expr (pe_co C1 hr (by decide) (by rfl) (pa_cons (pv 0) (pa_cons (pv 1) pa_nil))))
      (pss_one (ps_ret (pe_bm PySem.F.plainAttrs_list PySem.F.slot_list_index PySem.F.type_list_index (mt_indexD h65) (pe_co C2 hr (by decide) (by rfl) (pa_cons (pv 0) pa_nil)) (pa_cons (pv 1) pa_nil)))), ?_⟩
    refine ⟨_, rfl, _, rfl, l, tt, a, ts, p, rfl, L, ha, hp, ?_⟩
    refine ⟨_, rfl, l, tt, ts, rfl, L, fun H1 F as o s1 nF hF ho hP => ?_⟩
    obtain ⟨i, hi⟩ := List.mem_iff_getElem?.mp (ho.mem.mpr hp)
    refine ⟨.inl ⟨rfl, _, SqL.of hF⟩, _, rfl, F, .ref a, plD p, o.map plD, i, plD p, rfl, rfl, .lst (SqL.of hF) (dp_pls hP), dp_pl (s1 _ _ ha), shaped_pls o, shaped_pl p, by rw [List.getElem?_map, hi]; rfl, by rw [eqv_pl]; simp, fun m z hm hz => ?_, q H1 o i s1 ho hi⟩
    obtain ⟨p', hp', rfl⟩ := map_get hz
    rw [eqv_pl]
    refine decide_eq_false fun e => ?_
    subst e
    have := (List.getElem?_inj (get_lt hp') ho.nodup).mp (hp'.trans hi.symm)
    omega
def sp_lengths_of (C : Addr) : Sp := fun vs H Q _ => ∃ (l tt F : Addr) (ts : List Tx) (as : List Addr) (o : List KM.Pl), vs = [.ref l, .ref F] ∧ Lib C H l tt ts ∧ H F = some (.lst (as.map V.ref)) ∧ Pls H as o ∧ (∀ p ∈ o, KM.IsPl ts p) ∧ o.length ≤ 2000 ∧
  ∀ (H' : Hp) (L : Addr), Same H H' → H L = none → H' L = some (.lst ((lens ts o).map V.int)) → Q (.ref L) H'
theorem co_lengths_of {f C : Addr} {fd : FuncData} (B : Blt mg) (C1 : Co P w K mg base 2 "common_at" (sp_common_at C)) (D : Dn K mg "lengths_of" s_lengths_of ["library", "order"] f fd) : Co P w K mg base 3 "lengths_of" (sp_lengths_of C) := by
  refine Co.mk' D sc_lengths_of (fun vs H Q E h => ?_) (fun cdv A outer s H vs Q E hr h => ?_)
  · obtain ⟨l, tt, F, ts, as, o, rfl, _⟩ := h
    rfl
  · obtain ⟨l, tt, F, ts, as, o, rfl, L, hF, hP, hpl, hn, q⟩ := h
    have nd := sc_lengths_of.nd
    have hal := Paired.length hP
    refine ⟨_, pss_cons (ps_set (i := 2) nd rfl (.inl rfl) (pe_op op_rep (pe_lst (pa_cons pe_int pa_nil)) (pe_callB call_len_seq (by rfl) B.len PySem.boot_len (pa_cons (pv 1) pa_nil))))
      (pss_cons (ps_for PassesOwn.never rfl (pi_range2 rfl B.range (pa_cons pe_int (pa_cons (pe_callB call_len_seq (by rfl) B.len PySem.boot_len (pa_cons (pv 1) pa_nil)) pa_nil))) (pg_name (i := 3) nd rfl (.inl rfl))
        (pss_one (ps_asg (pe_co C1 hr (by decide) (by rfl) (pa_cons (pv 0) (pa_cons (pe_ix ix_list (pv 1) (pe_op op_sub (pv 3) pe_int) (fun _ _ => rfl)) (pa_cons (pe_ix ix_list (pv 1) (pv 3) (fun _ _ => rfl)) pa_nil)))) (pg_sub (pv 2) (pv 3) set_list))))
      (pss_one (ps_ret (pv 2)))), ?_⟩
    refine ⟨(by show 1 ≤ sizeLine; decide), fun Z nZ => ?_⟩
    have s0 := same_upd (o := .lst [.int 0]) nZ
    refine ⟨_, rfl, F, as.map V.ref, rfl, .inl (SqL.of (s0 _ _ hF)), Z, _, [.int 0], rfl, rfl, upd_same, ?_, ?_, ?_, fun G nG => ?_⟩
    · rw [List.length_map]
      omega
    · rw [List.length_map]
      omega
    · rw [List.length_map, Int.toNat_natCast]
      exact small_le (by show 1 * as.length ≤ 100000; omega)
    rw [List.length_map, Int.toNat_natCast, map_rep, hal, ← lensTo_zero ts o]
    have nHG : H G = none := s0.free nG
    refine ⟨_, rfl, F, as.map V.ref, rfl, .inl (SqL.of ((s0.mut nHG) _ _ hF)), 1, _, rfl, ⟨by decide, by decide, by omega, ?_⟩, ?_⟩
    · rw [List.length_map]
      omega
    rw [List.length_map, hal]
    have hcnt : ((o.length : Int) - 1).toNat = o.length - 1 := by omega
    rw [hcnt]
    refine for_range (fun i σ H1 => ∃ y3, σ = [some (.ref l), some (.ref F), some (.ref G), y3] ∧ Same H H1 ∧ H1 G = some (.lst ((lensTo ts o (i + 1)).map V.int))) ⟨none, rfl, s0.mut nHG, upd_same⟩ ?_ ?_
    · rintro i σ H1 hi ⟨y3, rfl, s1, hG⟩
      have hi1 : i + 1 < o.length := by omega
      have gp : o[i]? = some o[i] := List.getElem?_eq_getElem (by omega)
      have gq : o[i + 1]? = some o[i + 1] := List.getElem?_eq_getElem hi1
      obtain ⟨a, ga, ha⟩ := paired_get hP gp
      obtain ⟨b, gb, hb⟩ := paired_get hP gq
      have e1 : (1 : Int) + (i : Int) = ((i + 1 : Nat) : Int) := by omega
      have e2 : ((i + 1 : Nat) : Int) - 1 = (i : Int) := by omega
      rw [e1]
      refine ⟨_, rfl, _, rfl, _, rfl, _, 1, rfl, rfl, F, as.map V.ref, _, .ref a, rfl, rfl, SqL.of (s1 _ _ hF), by rw [e2]; exact atI_nat (by rw [List.getElem?_map, ga]; rfl), _, rfl, _, rfl, F, as.map V.ref, _, .ref b, rfl, rfl, SqL.of (s1 _ _ hF), atI_nat (by rw [List.getElem?_map, gb]; rfl), ?_⟩
      refine ⟨l, tt, a, b, ts, _, _, rfl, L.same s1, s1 _ _ ha, s1 _ _ hb, hpl _ (List.mem_of_getElem? gp), hpl _ (List.mem_of_getElem? gq), ?_⟩
      refine ⟨_, rfl, _, rfl, G, _, _, i + 1, rfl, rfl, hG, ixN_at (by rw [List.length_map, lensTo_len]; exact hi1), ?_⟩
      refine ⟨_, rfl, s1.mut nHG, ?_⟩
      rw [upd_same, ← lensTo_set ts o (i + 1), List.map_set]
      have el : lenAt ts o (i + 1) = KM.lcp (KM.suf ts o[i]) (KM.suf ts o[i + 1]) := by
        unfold lenAt
        rw [if_neg (by omega), Nat.add_sub_cancel, getD_some gp, getD_some gq]
      rw [el]
    · rintro σ H1 ⟨y3, rfl, s1, hG⟩
      rw [lensTo_all ts o (by omega)] at hG
      exact ⟨_, rfl, q H1 G s1 nHG hG⟩
def sp_lengths (C : Addr) : Sp := fun vs H Q _ => ∃ (l tt : Addr) (ts : List Tx), vs = [.ref l] ∧ Lib C H l tt ts ∧
  ∀ (H' : Hp) (L : Addr) (o : List KM.Pl), Same H H' → H L = none → IsOrd ts o → H' L = some (.lst ((lens ts o).map V.int)) → Q (.ref L) H'
theorem co_lengths {f C : Addr} {fd : FuncData} (C1 : Co P w K mg base 2 "order_of" (sp_order_of C)) (C2 : Co P w K mg base 3 "lengths_of" (sp_lengths_of C)) (D : Dn K mg "lengths" s_lengths ["library"] f fd) : Co P w K mg base 4 "lengths" (sp_lengths C) := by
  refine Co.mk' D sc_lengths (fun vs H Q E h => ?_) (fun cdv A outer s H vs Q E hr h => ?_)
  · obtain ⟨l, tt, ts, rfl, _⟩ := h
    rfl
  · obtain ⟨l, tt, ts, rfl, L, q⟩ := h
    refine ⟨_, pss_one (ps_ret (pe_co C2 hr (by decide) (by rfl) (pa_cons (pv 0) (pa_cons (pe_co C1 hr (by decide) (by rfl) (pa_cons (pv 0) pa_nil)) pa_nil)))), ?_⟩
    refine ⟨_, rfl, _, rfl, l, tt, ts, rfl, L, fun H1 F as o s1 nF hF ho hP => ?_⟩
    refine ⟨l, tt, F, ts, as, o, rfl, L.same s1, hF, hP, fun p hp => ho.mem.mp hp, by rw [ho.len]; exact L.ok.sum, fun H2 G s2 nG hG => ?_⟩
    exact q H2 G o (s1.trans s2) (s1.free nG) ho hG
end
end K11

/-! key_of, order_fault, is_order -/
namespace K11
open PySem PySem.Spec PyProof.Rows L2
open PySem.W (EachIs AllAlike Sortable dataLe dataLt alike)
theorem plt_asym (p q : KM.Pl) (h : KM.plt p q) : ¬ KM.plt q p := by
  unfold KM.plt at h ⊢
  omega
theorem dataLt_pl (p q : KM.Pl) : dataLt (plD p) (plD q) = true ↔ KM.plt p q := by
  unfold plD
  rw [dataLt_ints, decide_eq_true_eq]
  exact zlt_cP p q
theorem sorted_places {α : Type} {ts : List Tx} {g : α → KM.Pl} {Z : List α} (h : (Z.map g).Perm (KM.places ts)) : (Z.mergeSort (dataLe false fun z => plD (g z))).map g = KM.places ts := by
  have hp : (Z.mergeSort (dataLe false fun z => plD (g z))).Perm Z := List.mergeSort_perm _ _
  have pp := (hp.map g).trans h
  refine uniq_sorted plt_asym pp ?_ (KM.rise_places ts)
  have nd : ((Z.mergeSort (dataLe false fun z => plD (g z))).map g).Nodup := pp.nodup_iff.mpr (KM.places_nodup ts)
  unfold List.Nodup at nd
  rw [List.pairwise_map] at nd ⊢
  refine List.Pairwise.imp ?_ ((zD_pw (e := fun z => plD (g z)) (l := Z)).and nd)
  rintro a b ⟨h1, h2⟩
  rw [dataLt_pl] at h1
  unfold KM.plt at h1 ⊢
  by_cases e : (g a).1 = (g b).1
  · by_cases e2 : (g a).2 = (g b).2
    · exact absurd (Prod.ext e e2) h2
    · omega
  · omega
section
variable {P : Program} {w : World} {K : PySem.W.Frag} {mg : Str → Option Value} {base : Heap}
abbrev s_key_of : Stmt := topS 35
abbrev s_order_fault : Stmt := topS 36
abbrev s_is_order : Stmt := topS 37
theorem sc_key_of : FnScope ["library", "place"] ["library", "place"] (defScope s_key_of) := ⟨rfl, rfl, rfl, by decide +kernel, rfl, by decide +kernel, by decide +kernel⟩
theorem sc_order_fault : FnScope ["library", "thing", "places", "at", "item"] ["library", "thing"] (defScope s_order_fault) := ⟨rfl, rfl, rfl, by decide +kernel, rfl, by decide +kernel, by decide +kernel⟩
theorem sc_is_order : FnScope ["library", "thing"] ["library", "thing"] (defScope s_is_order) := ⟨rfl, rfl, rfl, by decide +kernel, rfl, by decide +kernel, by decide +kernel⟩
def sp_key_of (C : Addr) : Sp := fun vs H Q _ => ∃ (l tt a : Addr) (ts : List Tx) (p : KM.Pl), vs = [.ref l, .ref a] ∧ Lib C H l tt ts ∧ H a = some (plV p) ∧ KM.IsPl ts p ∧
  ∀ k, H k = none → Q (.ref k) (upd H k (.tup [.str (S (KM.suf ts p)), .ref a]))
theorem co_key_of {f C : Addr} {fd : FuncData} (C1 : Co P w K mg base 1 "ending_at" (sp_ending_at C)) (D : Dn K mg "key_of" s_key_of ["library", "place"] f fd) : Co P w K mg base 2 "key_of" (sp_key_of C) := by
  refine Co.mk' D sc_key_of (fun vs H Q E h => ?_) (fun cdv A outer s H vs Q E hr h => ?_)
  · obtain ⟨l, tt, a, ts, p, rfl, _⟩ := h
    rfl
  · obtain ⟨l, tt, a, ts, p, rfl, L, ha, hp, q⟩ := h
    refine ⟨_, pss_one (ps_ret (pe_tup (pa_cons (pe_co C1 hr (by decide) (by rfl) (pa_cons (pv 0) (pa_cons (pv 1) pa_nil))) (pa_cons (pv 1) pa_nil)))), ?_⟩
    exact ⟨_, rfl, _, rfl, l, tt, a, ts, p, rfl, L, ha, hp, _, rfl, (by show 2 ≤ sizeLine; decide), q⟩
def sp_order_fault (C : Addr) (r : V) : Sp := fun vs H Q _ => ∃ (l tt F : Addr) (ts : List Tx) (as : List Addr) (o : List KM.Pl), vs = [.ref l, .ref F] ∧ Lib C H l tt ts ∧ H F = some (.lst (as.map V.ref)) ∧ Pls H as o ∧ IsOrd ts o ∧
  ∀ H', Same H H' → Q r H'
theorem co_order_fault {f C : Addr} {fd : FuncData} (B : Blt mg) (C1 : Co P w K mg base 1 "all_places" (sp_all_places C)) (C2 : Co P w K mg base 1 "is_listed" sp_is_listed) (C3 : Co P w K mg base 4 "is_place" (sp_is_place C)) (C4 : Co P w K mg base 2 "key_of" (sp_key_of C))
    (D : Dn K mg "order_fault" s_order_fault ["library", "thing"] f fd) : Co P w K mg base 5 "order_fault" (sp_order_fault C .non) := by
  refine Co.mk' D sc_order_fault (fun vs H Q E h => ?_) (fun cdv A outer s H vs Q E hr h => ?_)
  · obtain ⟨l, tt, F, ts, as, o, rfl, _⟩ := h
    rfl
  · obtain ⟨l, tt, F, ts, as, o, rfl, L, hF, hP, ho, q⟩ := h
    have nd := sc_order_fault.nd
    have hal := Paired.length hP
    have hol : o.length ≤ 2000 := by rw [ho.len]; exact L.ok.sum
    refine ⟨_, pss_cons (ps_set (i := 2) nd rfl (.inl rfl) (pe_co C1 hr (by decide) (by rfl) (pa_cons (pv 0) pa_nil)))
      (pss_cons (ps_if (PW.pt (pw_or (pt_not (pt_val (pe_co C2 hr (by decide) (by rfl) (pa_cons (pv 1) pa_nil)))) (pw_or (pt_cmpR op_ne (pe_callB call_len_seq (by rfl) B.len PySem.boot_len (pa_cons (pv 1) pa_nil)) (pe_callB call_len_seq (by rfl) B.len PySem.boot_len (pa_cons (pv 2) pa_nil)) (nomark _))
        (pw_or1 (pt_not (pt_val (pe_callB (cr_all rfl) (by rfl) B.all boot_all (pa_cons (pe_lc (own := [("item", 4)]) (g := gName 4) (tt := tYes) rfl nd (pi_list (pv 1)) (blkOk_by (own := [("item", 4)]) (N := ["library", "thing", "places", "at", "item"]) (sc := defScope s_order_fault) (by decide +kernel))
          (fun _ _ _ _ _ => pg_name (i := 4) nd rfl (Or.inl rfl)) (fun _ _ _ _ _ => pts_nil) (fun _ _ _ _ _ => pe_co C3 hr (by decide) (by rfl) (pa_cons (pv 0) (pa_cons (pv 4) pa_nil)))) pa_nil)))))))) pss_never pss_nil)
      (pss_cons (ps_if (pt_cmpR (op_neD hr.units) (pe_callB (cr_sortedD hr.units) (by rfl) B.sorted boot_sorted (pa_cons (pv 1) pa_nil)) (pv 2) (nomark _)) pss_never pss_nil)
      (pss_cons (ps_for PassesOwn.never rfl (pi_range2 rfl B.range (pa_cons pe_int (pa_cons (pe_callB call_len_seq (by rfl) B.len PySem.boot_len (pa_cons (pv 1) pa_nil)) pa_nil))) (pg_name (i := 3) nd rfl (.inl rfl))
        (pss_one (ps_if (pt_cmpR (op_ltD hr.units) (pe_co C4 hr (by decide) (by rfl) (pa_cons (pv 0) (pa_cons (pe_ix ix_list (pv 1) (pv 3) (fun _ _ => rfl)) pa_nil))) (pe_co C4 hr (by decide) (by rfl) (pa_cons (pv 0) (pa_cons (pe_ix ix_list (pv 1) (pe_op op_sub (pv 3) pe_int) (fun _ _ => rfl)) pa_nil))) (nomark _)) pss_never pss_nil)))
      (pss_one (ps_ret pe_non))))), ?_⟩
    refine ⟨_, rfl, l, tt, ts, rfl, L, fun H1 G bs s1 nG hG hB => ?_⟩
    have hF1 := s1 _ _ hF
    refine ⟨_, rfl, F, as.map V.ref, rfl, hF1, fun H2 s2 => ⟨true, rfl, iteF ?_⟩⟩
    have s12 := s1.trans s2
    refine ⟨_, rfl, F, as.map V.ref, rfl, .inl (SqL.of (s12 _ _ hF)), _, rfl, G, bs.map V.ref, rfl, .inl (SqL.of (s2 _ _ hG)), rfl, _, rfl, ?_⟩
    have hbl := Paired.length hB
    have elen : as.length = bs.length := by rw [hal, hbl, ho.perm.length_eq]
    refine iteNT (decide_eq_true (by rw [List.length_map, List.length_map, elen])) ?_
    refine ⟨_, rfl, F, rfl, ⟨_, SqL.of (s12 _ _ hF)⟩, fun D0 nD0 => lc_list (xs := as.map V.ref) (fun i H3 => Same H2 H3 ∧ H3 D0 = some (.lst ((List.replicate i true).map V.bl))) ⟨same_upd nD0, upd_same⟩ (fun i H3 _ ⟨s3, _⟩ => SqL.of (s3 _ _ (s12 _ _ hF))) ?_ ?_⟩
    · rintro i x H3 hx ⟨s3, hD⟩
      obtain ⟨a, ha, rfl⟩ := map_get hx
      obtain ⟨p, hp, hap⟩ := paired_getL hP ha
      have hil := get_lt hp
      refine ⟨rfl, _, rfl, _, rfl, l, tt, a, ts, p, rfl, (L.same s12).same s3, s3 _ _ (s12 _ _ hap), ho.mem.mp (List.mem_of_getElem? hp), _, hD, ?_, s3.mut nD0, ?_⟩
      · rw [List.length_map, List.length_replicate]
        exact small_lt (by omega)
      · rw [upd_same, List.replicate_succ', List.map_append]
        rfl
    rintro H3 ⟨s3, hD⟩
    have s13 := s12.trans s3
    refine ⟨D0, _, rfl, SqL.of hD, true, by simp, iteF ?_⟩
    -- sorted
    have hz1 : (as.zip o).map (fun z => V.ref z.1) = as.map V.ref := by
      conv => rhs; rw [← List.map_fst_zip (l₁ := as) (l₂ := o) (by omega)]
      rw [List.map_map]
      rfl
    have hzo : (as.zip o).map Prod.snd = o := List.map_snd_zip (by omega)
    have hzp : ∀ z ∈ as.zip o, H3 z.1 = some (plV z.2) := fun z hz => by
      obtain ⟨i, hi⟩ := List.mem_iff_getElem?.mp hz
      obtain ⟨e1, e2⟩ := List.getElem?_zip_eq_some.mp hi
      obtain ⟨p', hp', hap⟩ := paired_getL hP e1
      obtain rfl : p' = z.2 := Option.some.inj (hp'.symm.trans e2)
      exact s13 _ _ hap
    refine ⟨_, rfl, F, (as.zip o).map (fun z => (V.ref z.1, plD z.2)), rfl, ?_, ?_, ?_, ?_, ?_, fun G2 nG2 => ?_⟩
    · rw [List.map_map]
      show SqL _ _ _ ((as.zip o).map fun z => V.ref z.1)
      rw [hz1]
      exact SqL.of (s13 _ _ hF)
    · intro z hz
      obtain ⟨u, hu, rfl⟩ := List.mem_map.mp hz
      exact dp_pl (hzp u hu)
    · rw [List.map_map]
      exact PySem.W.AllAlike.of (enc := fun z : Addr × KM.Pl => plD z.2) fun u v => by simp [plD, alike, PySem.W.alikeAll]
    · rw [List.map_map]
      exact PySem.W.Sortable.tuples (enc := fun z : Addr × KM.Pl => plD z.2) fun z => ⟨_, _, rfl⟩
    · intro z hz
      obtain ⟨u, hu, rfl⟩ := List.mem_map.mp hz
      simp [plD, PyData.depth, PyData.depthAll]
    have es : (((as.zip o).map fun z => (V.ref z.1, plD z.2)).mergeSort (dataLe false Prod.snd)).map Prod.fst = (((as.zip o).mergeSort (dataLe false fun z => plD z.2)).map Prod.fst).map V.ref := by
      rw [← PySem.W.sort_maps (r := dataLe false fun z : Addr × KM.Pl => plD z.2) (s := dataLe false Prod.snd) (fun z : Addr × KM.Pl => (V.ref z.1, plD z.2)) (fun _ _ _ _ => rfl), List.map_map, List.map_map]
      rfl
    rw [es]
    have hsp : ((as.zip o).mergeSort (dataLe false fun z => plD z.2)).map Prod.snd = KM.places ts := sorted_places (g := Prod.snd) (by rw [hzo]; exact ho.perm)
    have hpp : Pls H3 (((as.zip o).mergeSort (dataLe false fun z => plD z.2)).map Prod.fst) (KM.places ts) := by
      rw [← hsp]
      exact paired_map fun z hz => hzp z ((List.mergeSort_perm _ _).mem_iff.mp hz)
    generalize ((as.zip o).mergeSort (dataLe false fun z => plD z.2)).map Prod.fst = cs at hpp
    have s4 := same_upd (o := .lst (cs.map V.ref)) nG2
    have hG3 := s3 _ _ (s2 _ _ hG)
    refine ⟨_, rfl, .list ((KM.places ts).map plD), .list ((KM.places ts).map plD), .lst (SqL.of upd_same) (dp_pls (Pls.same hpp s4)), .lst (SqL.of (s4 _ _ hG3)) (dp_pls (Pls.same (Pls.same (Pls.same hB s2) s3) s4)), shaped_pls _, shaped_pls _, false, ?_, iteF ?_⟩
    · simp only [PyData.eqv]
      rw [eqv_pls]
      rfl
    -- the loop
    have s14 := s13.trans s4
    generalize upd H3 G2 (.lst (cs.map V.ref)) = H4 at s14
    refine ⟨_, rfl, F, as.map V.ref, rfl, .inl (SqL.of (s14 _ _ hF)), 1, _, rfl, ⟨by decide, by decide, by omega, ?_⟩, ?_⟩
    · rw [List.length_map]
      omega
    rw [List.length_map, hal]
    have hcnt : ((o.length : Int) - 1).toNat = o.length - 1 := by omega
    rw [hcnt]
    refine for_range (fun i σ H5 => ∃ y3, σ = [some (.ref l), some (.ref F), some (.ref G), y3, none] ∧ Same H4 H5) ⟨none, rfl, Same.refl _⟩ ?_ ?_
    · rintro i σ H5 hi ⟨y3, rfl, s5⟩
      have hi1 : i + 1 < o.length := by omega
      have gp : o[i]? = some o[i] := List.getElem?_eq_getElem (by omega)
      have gq : o[i + 1]? = some o[i + 1] := List.getElem?_eq_getElem hi1
      obtain ⟨a, ga, ha⟩ := paired_get hP gp
      obtain ⟨b, gb, hb⟩ := paired_get hP gq
      have e1 : (1 : Int) + (i : Int) = ((i + 1 : Nat) : Int) := by omega
      have e2 : ((i + 1 : Nat) : Int) - 1 = (i : Int) := by omega
      have s15 := s14.trans s5
      have hpi := ho.mem.mp (List.mem_of_getElem? gp)
      have hqi := ho.mem.mp (List.mem_of_getElem? gq)
      rw [e1]
      refine ⟨_, rfl, _, rfl, _, rfl, F, as.map V.ref, _, .ref b, rfl, rfl, SqL.of (s15 _ _ hF), atI_nat (by rw [List.getElem?_map, gb]; rfl), l, tt, b, ts, _, rfl, L.same s15, s15 _ _ hb, hqi, fun k1 n1 => ?_⟩
      have s6 := same_upd (o := .tup [.str (S (KM.suf ts o[i + 1])), .ref b]) n1
      refine ⟨_, rfl, _, rfl, _, rfl, _, 1, rfl, rfl, F, as.map V.ref, _, .ref a, rfl, rfl, SqL.of (s6 _ _ (s15 _ _ hF)), by rw [e2]; exact atI_nat (by rw [List.getElem?_map, ga]; rfl), l, tt, a, ts, _, rfl, (L.same s15).same s6, s6 _ _ (s15 _ _ ha), hpi, fun k2 n2 => ?_⟩
      have s7 := same_upd (o := .tup [.str (S (KM.suf ts o[i])), .ref a]) n2
      have hlt : dataLt (kD (KM.suf ts o[i + 1]) (cP o[i + 1])) (kD (KM.suf ts o[i]) (cP o[i])) = false := by
        have hor := List.pairwise_iff_getElem.mp ho.rise i (i + 1) (by omega) hi1 (by omega)
        have hno := olt_asym ts _ _ hor
        rw [Bool.eq_false_iff]
        intro z
        rw [dataLt_kD, zlt_cP] at z
        exact hno z
      refine ⟨kD (KM.suf ts o[i + 1]) (cP o[i + 1]), kD (KM.suf ts o[i]) (cP o[i]), ?_, ?_, by simp [kD, alike, PySem.W.alikeAll], by simp [kD], by simp [kD, PyData.depth, PyData.depthAll], false, by rw [hlt], iteF ?_⟩
      · exact .tup (SqT.of (s7 _ _ upd_same)) (.cons (.str _) (.cons (dp_pl (s7 _ _ (s6 _ _ (s15 _ _ hb)))) .nil))
      · exact .tup (SqT.of upd_same) (.cons (.str _) (.cons (dp_pl (s7 _ _ (s6 _ _ (s15 _ _ ha)))) .nil))
      · exact ⟨_, rfl, (s5.trans s6).trans s7⟩
    · rintro σ H5 ⟨y3, rfl, s5⟩
      exact q H5 (s14.trans s5)
theorem co_is_order {f C : Addr} {fd : FuncData} (C1 : Co P w K mg base 5 "order_fault" (sp_order_fault C .non)) (D : Dn K mg "is_order" s_is_order ["library", "thing"] f fd) : Co P w K mg base 6 "is_order" (sp_order_fault C (.bl true)) := by
  refine Co.mk' D sc_is_order (fun vs H Q E h => ?_) (fun cdv A outer s H vs Q E hr h => ?_)
  · obtain ⟨l, tt, F, ts, as, o, rfl, _⟩ := h
    rfl
  · obtain ⟨l, tt, F, ts, as, o, rfl, L, hF, hP, ho, q⟩ := h
    refine ⟨_, pss_one (ps_ret (pe_cmpR op_isN (pe_co C1 hr (by decide) (by rfl) (pa_cons (pv 0) (pa_cons (pv 1) pa_nil))) pe_non (nomark _))), ?_⟩
    exact ⟨_, rfl, _, rfl, l, tt, F, ts, as, o, rfl, L, hF, hP, ho, fun H' s' => ⟨rfl, q H' s'⟩⟩
end
end K11

/-! _law_draw -/
namespace K11
open PySem PySem.Spec PyProof.Rows L2
/-- all but h stays -/
def Sm (h : Addr) (H H' : Hp) : Prop := ∀ b o, H b = some o → b ≠ h → H' b = some o
theorem Sm.refl (h : Addr) (H : Hp) : Sm h H H := fun _ _ e _ => e
theorem Sm.trans {h : Addr} {H H' H'' : Hp} (a : Sm h H H') (b : Sm h H' H'') : Sm h H H'' := fun c o e n => b c o (a c o e n) n
theorem Sm.of {h : Addr} {H H' : Hp} (s : Same H H') : Sm h H H' := fun b o e _ => s b o e
theorem Sm.set {h : Addr} {H H' : Hp} {o : HO} (s : Sm h H H') : Sm h H (upd H' h o) := fun b u e n => by
  rw [upd_ne n]
  exact s b u e n
abbrev hl (l : Addr) (a b c d : Int) : HO := .lst [.ref l, .int a, .int b, .int c, .int d]
/-- the hand at h -/
structure Hn (H : Hp) (h l : Addr) (ns : List Int) (a b c d : Int) : Prop where
  at_ : H h = some (hl l a b c d)
  cells : H l = some (.lst (ns.map V.int))
  ne : l ≠ h
  pos : 0 ≤ a
  len : ns.length ≤ 63
def Hnd (H : Hp) (h l : Addr) : Prop := ∃ ns a b c d, Hn H h l ns a b c d
/-- from H to H' only h has changed, and it is still a hand -/
structure Go (h l : Addr) (H H' : Hp) : Prop where
  sm : Sm h H H'
  hd : Hnd H' h l
theorem Hn.set {H : Hp} {h l : Addr} {ns : List Int} {a b c d a' b' c' d' : Int} (n : Hn H h l ns a b c d) (hp : 0 ≤ a') : Hn (upd H h (hl l a' b' c' d')) h l ns a' b' c' d' :=
  ⟨upd_same, by rw [upd_ne n.ne]; exact n.cells, n.ne, hp, n.len⟩
theorem mod_small (x : Int) {m : Int} (h : 0 < m) (h2 : m < 2 ^ 62) : -(2 ^ 64) < x % m ∧ x % m < 2 ^ 64 := by
  have a := Int.emod_nonneg x (show m ≠ 0 by omega)
  have b := Int.emod_lt_of_pos x h
  omega
section
variable {P : Program} {w : World} {K : PySem.W.Frag} {mg : Str → Option Value} {base : Heap}
abbrev s_draw : Stmt := topS 40
abbrev N_draw : List Str := ["_law_hand_here", "_law_many", "_law_cell", "_law_digit", "_law_number"]
theorem sc_draw : FnScope N_draw ["_law_hand_here", "_law_many"] (defScope s_draw) := ⟨rfl, rfl, rfl, by decide +kernel, rfl, by decide +kernel, by decide +kernel⟩
def sp_draw : Sp := fun vs H Q _ => ∃ (h l : Addr) (n : Int), vs = [.ref h, .int n] ∧ Hnd H h l ∧ 0 < n ∧ n < 1000000 ∧ ∀ (H' : Hp) (d : Int), Go h l H H' → 0 ≤ d → d < n → Q (.int d) H'
theorem co_draw {f : Addr} {fd : FuncData} (B : Blt mg) (D : Dn K mg "_law_draw" s_draw ["_law_hand_here", "_law_many"] f fd) : Co P w K mg base 1 "_law_draw" sp_draw := by
  refine Co.mk' D sc_draw (fun vs H Q E h => ?_) (fun cdv A outer s H vs Q E hr h => ?_)
  · obtain ⟨h, l, n, rfl, _⟩ := h
    rfl
  · obtain ⟨h, l, n, rfl, hh, hn0, hn1, q⟩ := h
    have nd := sc_draw.nd
    -- behind the first if
    obtain ⟨u, hu, ku⟩ : ∃ u, PSs (cxOf L2.CX0 P w K mg base N_draw "_law_draw" (defScope s_draw) f cdv A outer s H E).nox ((defBody s_draw).drop 1) u ∧
        ∀ (y2 : Option V) (H1 : Hp) (ns : List Int) (a b c d : Int), Hn H1 h l ns a b c d → Sm h H H1 → u { nx := fun _ H' => Q .non H', rt := Q } [some (.ref h), some (.int n), y2, none, none] H1 := by
      refine ⟨_, pss_cons (ps_if (pt_cmpR op_gt (pe_ix ix_list (pv 0) pe_int (fun _ _ => rfl)) pe_int (nomark _))
          (pss_cons (ps_set (i := 3) nd rfl (.inl rfl) (pe_op op_mod (pe_callTy call_int1 (by rfl) B.int PyProof.Rows.boot_int (pa_cons (pe_ix ix_list (pv 0) pe_int (fun _ _ => rfl)) pa_nil)) (pv 1)))
          (pss_cons (ps_asg (pe_op op_fdiv (pe_ix ix_list (pv 0) pe_int (fun _ _ => rfl)) (pv 1)) (pg_sub (pv 0) pe_int set_list))
          (pss_one (ps_ret (pv 3))))) pss_nil)
        (pss_cons (ps_asg (pe_op op_add (pe_ix ix_list (pv 0) pe_int (fun _ _ => rfl)) pe_int) (pg_sub (pv 0) pe_int set_list))
        (pss_cons (ps_set (i := 4) nd rfl (.inl rfl) (pe_op op_mod (pe_callTy call_int1 (by rfl) B.int PyProof.Rows.boot_int (pa_cons (pe_op op_mul (pe_callTy call_int1 (by rfl) B.int PyProof.Rows.boot_int (pa_cons (pe_op op_add (pe_ix ix_list (pv 0) pe_int (fun _ _ => rfl)) (pe_op op_mul pe_int (pe_ix ix_list (pv 0) pe_int (fun _ _ => rfl)))) pa_nil)) pe_int) pa_nil)) pe_int))
        (pss_cons (ps_set (i := 4) nd rfl (.inl rfl) (pe_op op_mod (pe_callTy call_int1 (by rfl) B.int PyProof.Rows.boot_int (pa_cons (pe_op op_mul (pv 4) (pe_op op_add (pe_op op_fdiv (pv 4) pe_int) pe_int)) pa_nil)) pe_int))
        (pss_cons (ps_set (i := 4) nd rfl (.inl rfl) (pe_op op_mod (pe_callTy call_int1 (by rfl) B.int PyProof.Rows.boot_int (pa_cons (pe_op op_mul (pv 4) (pe_op op_add (pe_op op_fdiv (pv 4) pe_int) pe_int)) pa_nil)) pe_int))
        (pss_one (ps_ret (pe_op op_mod (pe_callTy call_int1 (by rfl) B.int PyProof.Rows.boot_int (pa_cons (pe_op op_fdiv (pv 4) pe_int) pa_nil)) (pv 1)))))))), ?_⟩
      intro y2 H1 ns a b c d hn s1
      refine ⟨_, rfl, h, _, 2, .int b, rfl, rfl, SqL.of hn.at_, atI_nat (j := 2) rfl, b, 0, rfl, rfl, _, rfl, ?_⟩
      by_cases hb : 0 < b
      · refine iteIs (decide_eq_true hb) ?_
        refine ⟨_, rfl, h, _, 2, .int b, rfl, rfl, SqL.of hn.at_, atI_nat (j := 2) rfl, .inl ⟨_, rfl, _, rfl, b, n, rfl, rfl, hn0, ?_⟩⟩
        refine ⟨_, rfl, h, _, 2, .int b, rfl, rfl, SqL.of hn.at_, atI_nat (j := 2) rfl, _, rfl, b, n, rfl, rfl, ⟨hn0, by omega⟩, ?_⟩
        refine ⟨_, rfl, h, _, 2, 2, rfl, rfl, hn.at_, ixN_at (n := 5) (j := 2) (by decide), ?_⟩
        exact ⟨_, rfl, q _ _ ⟨s1.set, ns, a, b / n, c, d, hn.set hn.pos⟩ (Int.emod_nonneg _ (by omega)) (Int.emod_lt_of_pos _ hn0)⟩
      · refine iteIsn (decide_eq_false hb) ?_
        refine ⟨_, rfl, h, _, 4, .int d, rfl, rfl, SqL.of hn.at_, atI_nat (j := 4) rfl, d, 1, rfl, rfl, _, rfl, h, _, 4, 4, rfl, rfl, hn.at_, ixN_at (n := 5) (j := 4) (by decide), ?_⟩
        have hn2 : Hn (upd H1 h (hl l a b c (d + 1))) h l ns a b c (d + 1) := hn.set hn.pos
        have s2 : Sm h H (upd H1 h (hl l a b c (d + 1))) := s1.set
        refine ⟨_, rfl, h, _, 3, .int c, rfl, rfl, SqL.of hn2.at_, atI_nat (j := 3) rfl, _, rfl, h, _, 4, .int (d + 1), rfl, rfl, SqL.of hn2.at_, atI_nat (j := 4) rfl, 7919, d + 1, rfl, rfl, .inl ⟨by decide, by decide⟩, c, _, rfl, rfl, .inl ⟨_, rfl, _, 48271, rfl, rfl, .inr ⟨by decide, by decide⟩, .inl ⟨_, rfl, _, 2147483647, rfl, rfl, (show (0 : Int) < 2147483647 by decide), ?_⟩⟩⟩
        refine ⟨_, rfl, _, rfl, _, 1009, rfl, rfl, ⟨by decide, by decide⟩, _, 69621, rfl, rfl, _, _, rfl, rfl, .inl (mod_small _ (by decide) (by decide)), .inl ⟨_, rfl, _, 2147483647, rfl, rfl, (show (0 : Int) < 2147483647 by decide), ?_⟩⟩
        refine ⟨_, rfl, _, rfl, _, 2003, rfl, rfl, ⟨by decide, by decide⟩, _, 40692, rfl, rfl, _, _, rfl, rfl, .inl (mod_small _ (by decide) (by decide)), .inl ⟨_, rfl, _, 2147483399, rfl, rfl, (show (0 : Int) < 2147483399 by decide), ?_⟩⟩
        refine ⟨_, rfl, _, 16, rfl, rfl, ⟨by decide, by decide⟩, .inl ⟨_, rfl, _, rfl, _, n, rfl, rfl, hn0, ?_⟩⟩
        exact q _ _ ⟨s2, ns, a, b, c, d + 1, hn2⟩ (Int.emod_nonneg _ (by omega)) (Int.emod_lt_of_pos _ hn0)
    refine ⟨_, pss_cons (ps_if (PW.pt (pw_and (pt_cmpR op_eq (pe_ix ix_list (pv 0) pe_int (fun _ _ => rfl)) pe_int (nomark _)) (pw_and1 (pt_cmpR op_lt (pe_ix ix_list (pv 0) pe_int (fun _ _ => rfl)) (pe_callB call_len_seq (by rfl) B.len PySem.boot_len (pa_cons (pe_ix ix_list (pv 0) pe_int (fun _ _ => rfl)) pa_nil)) (nomark _)))))
        (pss_cons (ps_set (i := 2) nd rfl (.inl rfl) (pe_ix ix_list (pe_ix ix_list (pv 0) pe_int (fun _ _ => rfl)) (pe_ix ix_list (pv 0) pe_int (fun _ _ => rfl)) (fun _ _ => rfl)))
        (pss_cons (ps_asg (pe_op op_add (pe_ix ix_list (pv 0) pe_int (fun _ _ => rfl)) pe_int) (pg_sub (pv 0) pe_int set_list))
        (pss_cons (ps_asg (pe_op op_mod (pe_callTy call_int1 (by rfl) B.int PyProof.Rows.boot_int (pa_cons (pe_op op_add (pe_op op_add (pe_op op_mul (pe_ix ix_list (pv 0) pe_int (fun _ _ => rfl)) pe_int) (pe_op op_mul (pv 2) pe_int)) pe_int) pa_nil)) pe_int) (pg_sub (pv 0) pe_int set_list))
        (pss_one (ps_if (pt_cmpR op_ge (pv 2) (pe_op op_pow pe_int pe_int) (nomark _)) (pss_one (ps_asg (pv 2) (pg_sub (pv 0) pe_int set_list))) pss_nil))))) pss_nil) hu, ?_⟩
    obtain ⟨ns, a, b, c, d, hn⟩ := hh
    refine ⟨_, rfl, h, _, 2, .int b, rfl, rfl, SqL.of hn.at_, atI_nat (j := 2) rfl, rfl, _, rfl, ?_⟩
    by_cases hb : b = 0
    · refine iteIs (decide_eq_true (by rw [hb])) ?_
      refine ⟨_, rfl, h, _, 1, .int a, rfl, rfl, SqL.of hn.at_, atI_nat (j := 1) rfl, _, rfl, h, _, 0, .ref l, rfl, rfl, SqL.of hn.at_, atI_nat (j := 0) rfl, l, ns.map V.int, rfl, .inl (SqL.of hn.cells), a, _, rfl, rfl, _, rfl, ?_⟩
      by_cases ha : a < ((ns.map V.int).length : Int)
      · refine iteIs (decide_eq_true ha) ?_
        rw [List.length_map] at ha
        obtain ⟨j, rfl⟩ : ∃ j : Nat, a = (j : Int) := ⟨a.toNat, by have := hn.pos; omega⟩
        have hj : j < ns.length := by omega
        refine ⟨_, rfl, h, _, 0, .ref l, rfl, rfl, SqL.of hn.at_, atI_nat (j := 0) rfl, _, rfl, h, _, 1, .int (j : Int), rfl, rfl, SqL.of hn.at_, atI_nat (j := 1) rfl, l, ns.map V.int, (j : Int), .int ns[j], rfl, rfl, SqL.of hn.cells, atI_nat (by rw [List.getElem?_map, List.getElem?_eq_getElem hj]; rfl), ?_⟩
        generalize ns[j] = x
        refine ⟨_, rfl, h, _, 1, .int (j : Int), rfl, rfl, SqL.of hn.at_, atI_nat (j := 1) rfl, (j : Int), 1, rfl, rfl, _, rfl, h, _, 1, 1, rfl, rfl, hn.at_, ixN_at (n := 5) (j := 1) (by decide), ?_⟩
        have hn2 : Hn (upd H h (hl l ((j : Int) + 1) b c d)) h l ns ((j : Int) + 1) b c d := hn.set (by omega)
        have s2 : Sm h H (upd H h (hl l ((j : Int) + 1) b c d)) := (Sm.refl h H).set
        refine ⟨_, rfl, h, _, 3, .int c, rfl, rfl, SqL.of hn2.at_, atI_nat (j := 3) rfl, c, 69621, rfl, rfl, .inr ⟨by decide, by decide⟩, _, rfl, x, 16, rfl, rfl, .inr ⟨by decide, by decide⟩, _, _, rfl, rfl, _, 11, rfl, rfl, .inl ⟨_, rfl, _, 2147483629, rfl, rfl, (show (0 : Int) < 2147483629 by decide), _, rfl, h, _, 3, 3, rfl, rfl, hn2.at_, ixN_at (n := 5) (j := 3) (by decide), ?_⟩⟩
        have hn3 : Hn (upd (upd H h (hl l ((j : Int) + 1) b c d)) h (hl l ((j : Int) + 1) b ((c * 69621 + x * 16 + 11) % 2147483629) d)) h l ns ((j : Int) + 1) b ((c * 69621 + x * 16 + 11) % 2147483629) d := hn2.set (by omega)
        have s3 : Sm h H (upd (upd H h (hl l ((j : Int) + 1) b c d)) h (hl l ((j : Int) + 1) b ((c * 69621 + x * 16 + 11) % 2147483629) d)) := s2.set
        refine ⟨_, rfl, 10, 18, rfl, rfl, ⟨by decide, by decide, by decide⟩, x, _, rfl, rfl, _, rfl, ?_⟩
        by_cases hx : (10 : Int) ^ (18 : Int).toNat ≤ x
        · refine iteIs (decide_eq_true hx) ?_
          refine ⟨_, rfl, _, rfl, h, _, 2, 2, rfl, rfl, hn3.at_, ixN_at (n := 5) (j := 2) (by decide), ?_⟩
          exact ku _ _ ns _ x ((c * 69621 + x * 16 + 11) % 2147483629) d (hn3.set hn3.pos) s3.set
        · refine iteIsn (decide_eq_false hx) ?_
          exact ku _ _ ns _ b ((c * 69621 + x * 16 + 11) % 2147483629) d hn3 s3
      · refine iteIsn (decide_eq_false ha) ?_
        exact ku _ _ ns a b c d hn (Sm.refl h H)
    · refine iteIsn (decide_eq_false (fun z => hb (V.int.inj z))) ?_
      exact ku _ _ ns a b c d hn (Sm.refl h H)
end
end K11

/-! _law_hand, _law_any_sign, _law_sign -/
namespace K11
open PySem PySem.Spec PyProof.Rows L2
theorem cutV_all {xs : List V} {k : Nat} (h : xs.length ≤ k) : cutV xs none (some (k : Int)) = xs := by
  unfold cutV
  rw [HT.sIx_nat, HT.sIx_none, List.drop_zero, Nat.sub_zero, Nat.min_eq_right h]
  exact List.take_length
theorem Hnd.same {H H' : Hp} {h l : Addr} (n : Hnd H h l) (s : Same H H') : Hnd H' h l := by
  obtain ⟨ns, a, b, c, d, hn⟩ := n
  exact ⟨ns, a, b, c, d, s _ _ hn.at_, s _ _ hn.cells, hn.ne, hn.pos, hn.len⟩
theorem Hnd.new {H : Hp} {h l p : Addr} (n : Hnd H h l) (np : H p = none) : p ≠ h ∧ p ≠ l := by
  obtain ⟨ns, a, b, c, d, hn⟩ := n
  exact ⟨(ne_of_none hn.at_ np).symm, (ne_of_none hn.cells np).symm⟩
theorem Hnd.mut {H : Hp} {h l p : Addr} {o : HO} (n : Hnd H h l) (h1 : p ≠ h) (h2 : p ≠ l) : Hnd (upd H p o) h l := by
  obtain ⟨ns, a, b, c, d, hn⟩ := n
  exact ⟨ns, a, b, c, d, by rw [upd_ne (Ne.symm h1)]; exact hn.at_, by rw [upd_ne (Ne.symm h2)]; exact hn.cells, hn.ne, hn.pos, hn.len⟩
theorem Go.refl {H : Hp} {h l : Addr} (n : Hnd H h l) : Go h l H H := ⟨Sm.refl h H, n⟩
theorem Go.trans {h l : Addr} {H H' H'' : Hp} (a : Go h l H H') (b : Go h l H' H'') : Go h l H H'' := ⟨a.sm.trans b.sm, b.hd⟩
theorem Go.of {h l : Addr} {H H' : Hp} (n : Hnd H h l) (s : Same H H') : Go h l H H' := ⟨Sm.of s, n.same s⟩
theorem Go.same {h l : Addr} {H H' H'' : Hp} (g : Go h l H H') (s : Same H' H'') : Go h l H H'' := g.trans (Go.of g.hd s)
theorem Go.mut {h l p : Addr} {H H' : Hp} {o : HO} (g : Go h l H H') (n : Hnd H h l) (np : H p = none) : Go h l H (upd H' p o) := by
  obtain ⟨h1, h2⟩ := n.new np
  refine ⟨fun b u e nb => ?_, g.hd.mut h1 h2⟩
  rw [upd_ne (ne_of_none e np)]
  exact g.sm b u e nb
section
variable {P : Program} {w : World} {K : PySem.W.Frag} {mg : Str → Option Value} {base : Heap}
abbrev s_hand : Stmt := topS 39
abbrev s_any_sign : Stmt := topS 42
abbrev s_sign : Stmt := topS 43
theorem sc_hand : FnScope ["_law_script", "_law_cell"] ["_law_script"] (defScope s_hand) := ⟨rfl, rfl, rfl, by decide +kernel, rfl, by decide +kernel, by decide +kernel⟩
theorem sc_any_sign : FnScope ["_law_hand_here", "_law_signs"] ["_law_hand_here"] (defScope s_any_sign) := ⟨rfl, rfl, rfl, by decide +kernel, rfl, by decide +kernel, by decide +kernel⟩
theorem sc_sign : FnScope ["_law_hand_here", "_law_kind", "_law_some"] ["_law_hand_here", "_law_kind"] (defScope s_sign) := ⟨rfl, rfl, rfl, by decide +kernel, rfl, by decide +kernel, by decide +kernel⟩
def sp_hand (K : PySem.W.Frag) : Sp := fun vs H Q _ => ∃ (a : Addr) (ns : List Int), vs = [.ref a] ∧ SqL K H a (ns.map V.int) ∧ ns.length ≤ 63 ∧ ∀ (H' : Hp) (h l : Addr), Same H H' → H h = none → Hnd H' h l → Q (.ref h) H'
theorem co_hand {f : Addr} {fd : FuncData} (B : Blt mg) (D : Dn K mg "_law_hand" s_hand ["_law_script"] f fd) : Co P w K mg base 1 "_law_hand" (sp_hand K) := by
  refine Co.mk' D sc_hand (fun vs H Q E h => ?_) (fun cdv A outer s H vs Q E hr h => ?_)
  · obtain ⟨a, ns, rfl, _⟩ := h
    rfl
  · obtain ⟨a, ns, rfl, ha, hn, q⟩ := h
    have nd := sc_hand.nd
    refine ⟨_, pss_one (ps_ret (pe_lst (pa_cons (pe_lc (own := [("_law_cell", 1)]) (g := gName 1) (tt := tYes) rfl nd (pi_list (pe_slice sl_list (pv 0) po_none (po_some pe_int))) (blkOk_by (own := [("_law_cell", 1)]) (N := ["_law_script", "_law_cell"]) (sc := defScope s_hand) (by decide +kernel))
          (fun _ _ _ _ _ => pg_name (i := 1) nd rfl (Or.inl rfl)) (fun _ _ _ _ _ => pts_nil) (fun _ _ _ _ _ => pe_callTy call_int1 (by rfl) B.int PyProof.Rows.boot_int (pa_cons (pv 1) pa_nil)))
        (pa_cons pe_int (pa_cons pe_int (pa_cons (pe_op op_add pe_int (pe_callB call_len_seq (by rfl) B.len PySem.boot_len (pa_cons (pe_slice sl_list (pv 0) po_none (po_some pe_int)) pa_nil))) (pa_cons pe_int pa_nil))))))), ?_⟩
    have ec : cutV (ns.map V.int) none (some (63 : Int)) = ns.map V.int := cutV_all (k := 63) (by rw [List.length_map]; exact hn)
    refine ⟨_, rfl, _, rfl, a, ns.map V.int, rfl, ha, fun p np => ?_⟩
    rw [ec]
    have s1 := same_upd (o := .lst (ns.map V.int)) np
    refine ⟨p, rfl, ⟨_, SqL.of upd_same⟩, fun L nL => lc_list (xs := ns.map V.int) (fun i H2 => Same (upd H p (.lst (ns.map V.int))) H2 ∧ H2 L = some (.lst ((ns.take i).map V.int))) ⟨same_upd nL, upd_same⟩ (fun i H2 _ ⟨s2, _⟩ => SqL.of (s2 _ _ upd_same)) ?_ ?_⟩
    · rintro i x H2 hx ⟨s2, hL⟩
      obtain ⟨n, hn', rfl⟩ := map_get hx
      have hil := get_lt hn'
      refine ⟨rfl, _, rfl, .inl ⟨_, rfl, _, hL, ?_, s2.mut nL, ?_⟩⟩
      · rw [List.length_map, List.length_take]
        exact small_lt (by omega)
      · rw [upd_same, take_succ hn', List.map_append]
        rfl
    · rintro H2 ⟨s2, hL⟩
      rw [List.length_map, List.take_length] at hL
      refine ⟨_, rfl, _, rfl, a, ns.map V.int, rfl, (s1.trans s2).seq ha, fun p2 np2 => ?_⟩
      rw [ec]
      have s3 := same_upd (o := .lst (ns.map V.int)) np2
      refine ⟨p2, ns.map V.int, rfl, .inl (SqL.of upd_same), 1, _, rfl, rfl, (by show 5 ≤ sizeLine; decide), fun h nh => ?_⟩
      have s4 := same_upd (o := .lst [.ref L, .int 0, .int 0, .int (1 + ((ns.map V.int).length : Int)), .int 0]) nh
      have hL4 := s4 _ _ (s3 _ _ hL)
      have s123 := (s1.trans s2).trans s3
      exact q _ h L (s123.trans s4) (s123.free nh) ⟨ns, 0, 0, _, 0, upd_same, hL4, (fun e => by
        subst e
        rw [s3 _ _ hL] at nh
        cases nh), Int.le_refl _, hn⟩
def allSigns (z : Str) : Bool := z.cps.toList.all fun c => decide (32 ≤ c ∧ c ≤ 126)
theorem allSigns_at {z : Str} (h : allSigns z = true) {c : Nat} (hc : c ∈ z.cps.toList) : isSign c := by
  unfold allSigns at h
  rw [List.all_eq_true] at h
  exact of_decide_eq_true (p := 32 ≤ c ∧ c ≤ 126) (h c hc)
def sp_any_sign : Sp := fun vs H Q _ => ∃ (h l : Addr), vs = [.ref h] ∧ Hnd H h l ∧ ∀ (H' : Hp) (c : Nat), Go h l H H' → isSign c → Q (.str (S [c])) H'
def sp_sign : Sp := fun vs H Q _ => ∃ (h l : Addr) (k : Int), vs = [.ref h, .int k] ∧ Hnd H h l ∧ 0 ≤ k ∧ k < 5 ∧ ∀ (H' : Hp) (c : Nat), Go h l H H' → isSign c → Q (.str (S [c])) H'
def lit1 : Str := " !\"#$&'()*+,-./0123456789:;<=>?@ABCDEFGHIJKLMNOPQRSTUVWXYZ[\\]^_"
def lit2 : Str := "abcdefghijklmnopqrstuvwxyz{|}~"
theorem lit_ok : allSigns (lit1 ++ lit2) = true := by decide +kernel
theorem lit_len : (lit1 ++ lit2).length = 93 := by decide +kernel
theorem co_any_sign {f : Addr} {fd : FuncData} (B : Blt mg) (C1 : Co P w K mg base 1 "_law_draw" sp_draw) (D : Dn K mg "_law_any_sign" s_any_sign ["_law_hand_here"] f fd) : Co P w K mg base 2 "_law_any_sign" sp_any_sign := by
  refine Co.mk' D sc_any_sign (fun vs H Q E h => ?_) (fun cdv A outer s H vs Q E hr h => ?_)
  · obtain ⟨h, l, rfl, _⟩ := h
    rfl
  · obtain ⟨h, l, rfl, hh, q⟩ := h
    have nd := sc_any_sign.nd
    refine ⟨_, pss_cons (ps_set (i := 1) nd rfl (.inl rfl) pe_str) (pss_cons (ps_set (i := 1) nd rfl (.inl rfl) (pe_op op_add_str (pv 1) pe_str))
      (pss_one (ps_ret (pe_ix ix_str (pv 1) (pe_co C1 hr (by decide) (by rfl) (pa_cons (pv 0) (pa_cons (pe_callB call_len_str (by rfl) B.len PySem.boot_len (pa_cons (pv 1) pa_nil)) pa_nil))) (fun _ _ => rfl))))), ?_⟩
    refine ⟨_, rfl, lit1, lit2, rfl, rfl, (by decide +kernel), ?_⟩
    refine ⟨_, rfl, _, rfl, _, rfl, lit1 ++ lit2, rfl, small_le (by rw [lit_len]; decide), ?_⟩
    refine ⟨h, l, _, rfl, hh, by rw [lit_len]; decide, by rw [lit_len]; decide, fun H1 d g1 d0 d1 => ?_⟩
    obtain ⟨j, rfl⟩ : ∃ j : Nat, d = (j : Int) := ⟨d.toNat, by omega⟩
    have hj : j < (lit1 ++ lit2).cps.toList.length := by
      have : (lit1 ++ lit2).length = (lit1 ++ lit2).cps.toList.length := rfl
      omega
    refine ⟨lit1 ++ lit2, _, _, rfl, rfl, small_le (by rw [lit_len]; decide), atI_nat (List.getElem?_eq_getElem hj), ?_⟩
    exact q H1 _ g1 (allSigns_at lit_ok (List.getElem_mem hj))
theorem co_sign {f : Addr} {fd : FuncData} (B : Blt mg) (C1 : Co P w K mg base 1 "_law_draw" sp_draw) (C2 : Co P w K mg base 2 "_law_any_sign" sp_any_sign) (D : Dn K mg "_law_sign" s_sign ["_law_hand_here", "_law_kind"] f fd) : Co P w K mg base 3 "_law_sign" sp_sign := by
  refine Co.mk' D sc_sign (fun vs H Q E h => ?_) (fun cdv A outer s H vs Q E hr h => ?_)
  · obtain ⟨h, l, k, rfl, _⟩ := h
    rfl
  · obtain ⟨h, l, k, rfl, hh, k0, k5, q⟩ := h
    have nd := sc_sign.nd
    refine ⟨_, pss_cons (ps_if (pt_cmpR op_eq (pv 1) pe_int (nomark _)) (pss_one (ps_ret (pe_co C2 hr (by decide) (by rfl) (pa_cons (pv 0) pa_nil)))) pss_nil)
      (pss_cons (ps_set (i := 2) nd rfl (.inl rfl) (pe_ix ix_list (pe_lst (pa_cons pe_str (pa_cons pe_str (pa_cons pe_str (pa_cons pe_str pa_nil))))) (pv 1) (fun _ _ => rfl)))
      (pss_one (ps_ret (pe_ix ix_str (pv 2) (pe_co C1 hr (by decide) (by rfl) (pa_cons (pv 0) (pa_cons (pe_callB call_len_str (by rfl) B.len PySem.boot_len (pa_cons (pv 2) pa_nil)) pa_nil))) (fun _ _ => rfl))))), ?_⟩
    refine ⟨_, rfl, rfl, _, rfl, ?_⟩
    by_cases e4 : k = 4
    · refine iteIs (decide_eq_true (by rw [e4])) ?_
      exact ⟨_, rfl, h, l, rfl, hh, q⟩
    · refine iteIsn (decide_eq_false (fun z => e4 (V.int.inj z))) ?_
      refine ⟨(by show 4 ≤ sizeLine; decide), fun p np => ?_⟩
      have s1 := same_upd (o := .lst [.str "ab", .str "abc", .str "a", .str "ab~ "]) np
      obtain ⟨z, hz, hz1, hz2, hz3⟩ : ∃ z : Str, atI [V.str "ab", V.str "abc", V.str "a", V.str "ab~ "] k = some (.str z) ∧ allSigns z = true ∧ 0 < z.length ∧ z.length ≤ 4 := by
        have : k = 0 ∨ k = 1 ∨ k = 2 ∨ k = 3 := by omega
        rcases this with e | e | e | e <;> subst e
        · exact ⟨"ab", rfl, by decide +kernel, by decide +kernel, by decide +kernel⟩
        · exact ⟨"abc", rfl, by decide +kernel, by decide +kernel, by decide +kernel⟩
        · exact ⟨"a", rfl, by decide +kernel, by decide +kernel, by decide +kernel⟩
        · exact ⟨"ab~ ", rfl, by decide +kernel, by decide +kernel, by decide +kernel⟩
      refine ⟨_, rfl, p, _, k, .str z, rfl, rfl, SqL.of upd_same, hz, ?_⟩
      refine ⟨_, rfl, _, rfl, _, rfl, z, rfl, small_le (by omega), h, l, _, rfl, hh.same s1, by omega, by omega, fun H1 d g2 d0 d1 => ?_⟩
      obtain ⟨j, rfl⟩ : ∃ j : Nat, d = (j : Int) := ⟨d.toNat, by omega⟩
      have hj : j < z.cps.toList.length := by
        have : z.length = z.cps.toList.length := rfl
        omega
      refine ⟨z, _, _, rfl, rfl, small_le (by omega), atI_nat (List.getElem?_eq_getElem hj), ?_⟩
      exact q H1 _ ((Go.of hh s1).trans g2) (allSigns_at hz1 (List.getElem_mem hj))
end
end K11

/-! _law_text -/
namespace K11
open PySem PySem.Spec PyProof.Rows L2
theorem joinL_nil : ∀ l : List (List Nat), TL.joinL [] l = l.flatten
  | [] => rfl
  | [p] => by simp [TL.joinL]
  | p :: q :: r => by
    show p ++ ([] ++ TL.joinL [] (q :: r)) = _
    rw [List.nil_append, joinL_nil (q :: r), List.flatten_cons (l := p)]
theorem flat_one : ∀ cs : List Nat, (cs.map fun c => [c]).flatten = cs
  | [] => rfl
  | c :: r => by
    rw [List.map_cons, List.flatten_cons, flat_one r]
    rfl
theorem join_signs (cs : List Nat) : Txt.join ("" : Str) (cs.map fun c => S [c]) = S cs := by
  have e : TL.tl (Str.join ("" : Str) (cs.map fun c => S [c])) = cs := by
    rw [TL.tl_join]
    have e0 : TL.tl ("" : Str) = [] := by decide +kernel
    rw [e0, joinL_nil, List.map_map]
    exact flat_one cs
  rw [TL.join_eq, ← S_of (Str.join ("" : Str) (cs.map fun c => S [c]))]
  show S (TL.tl _) = _
  rw [e]
theorem sum_ones : ∀ cs : List Nat, ((cs.map fun c => S [c]).map (·.length)).sum = cs.length
  | [] => rfl
  | c :: r => by
    rw [List.map_cons, List.map_cons, List.sum_cons, sum_ones r, List.length_cons, S_len, List.length_singleton]
    omega
/-- the comprehension of signs, behind i turns -/
def Sg (h l D : Addr) (H0 : Hp) (i : Nat) (H : Hp) : Prop := Go h l H0 H ∧ ∃ cs : List Nat, cs.length = i ∧ (∀ c ∈ cs, isSign c) ∧ H D = some (.lst (cs.map fun c => V.str (S [c])))
theorem Sg.zero {h l D : Addr} {H : Hp} (n : Hnd H h l) (nD : H D = none) : Sg h l D H 0 (upd H D (.lst [])) := ⟨(Go.refl n).mut n nD, [], rfl, (fun _ hc => nomatch hc), upd_same⟩
theorem join_seq {K : PySem.W.Frag} {H : Hp} {D : Addr} {cs : List Nat} (hD : H D = some (.lst (cs.map fun c => V.str (S [c])))) : SqL K H D ((cs.map fun c => S [c]).map V.str) := by
  rw [List.map_map]
  exact SqL.of hD
theorem join_sum {cs : List Nat} (h : cs.length ≤ 1000) : ((cs.map fun c => S [c]).map (·.length)).sum + (cs.map fun c => S [c]).length * ("" : Str).length ≤ 16777216 := by
  have e0 : ("" : Str).length = 0 := by decide +kernel
  rw [sum_ones, e0]
  omega
theorem cut_to (t : List Nat) (k : Nat) : cutS (S t) none (some (k : Int)) = S (t.take k) := by
  unfold cutS
  rw [HT.sIx_nat, HT.sIx_none, S_len, S_list, Nat.sub_zero, List.drop_zero]
  show S (t.take (min k t.length)) = _
  by_cases h : k ≤ t.length
  · rw [Nat.min_eq_left h]
  · rw [Nat.min_eq_right (by omega), List.take_of_length_le (by omega), List.take_of_length_le (by omega)]
theorem S_app (t u : List Nat) : S t ++ S u = S (t ++ u) := by
  have : (S t ++ S u).cps.toList = t ++ u := by
    show (t.toArray ++ u.toArray).toList = _
    simp
  rw [← S_of (S t ++ S u), this]
section
variable {P : Program} {w : World} {K : PySem.W.Frag} {mg : Str → Option Value} {base : Heap}
abbrev s_text : Stmt := topS 44
abbrev s_texts : Stmt := topS 45
abbrev N_text : List Str := ["_law_hand_here", "_law_most", "_law_kind", "_law_way", "_law_many", "_law_one", "_law_other", "_law_turn"]
theorem sc_text : FnScope N_text ["_law_hand_here", "_law_most"] (defScope s_text) := ⟨rfl, rfl, rfl, by decide +kernel, rfl, by decide +kernel, by decide +kernel⟩
def sp_text : Sp := fun vs H Q _ => ∃ (h l : Addr) (m : Nat), vs = [.ref h, .int (m : Int)] ∧ Hnd H h l ∧ m ≤ 200 ∧ ∀ (H' : Hp) (t : Tx), Go h l H H' → t.length ≤ m → (∀ c ∈ t, isSign c) → Q (.str (S t)) H'
theorem co_text {f : Addr} {fd : FuncData} (B : Blt mg) (C1 : Co P w K mg base 1 "_law_draw" sp_draw) (C2 : Co P w K mg base 3 "_law_sign" sp_sign) (D : Dn K mg "_law_text" s_text ["_law_hand_here", "_law_most"] f fd) : Co P w K mg base 4 "_law_text" sp_text := by
  refine Co.mk' D sc_text (fun vs H Q E h => ?_) (fun cdv A outer s H vs Q E hr h => ?_)
  · obtain ⟨h, l, m, rfl, _⟩ := h
    rfl
  · obtain ⟨h, l, m, rfl, hh, hm, q⟩ := h
    have nd := sc_text.nd
    refine ⟨_, pss_cons (ps_set (i := 2) nd rfl (.inr rfl) (pe_co C1 hr (by decide) (by rfl) (pa_cons (pv 0) (pa_cons pe_int pa_nil))))
      (pss_cons (ps_set (i := 3) nd rfl (.inl rfl) (pe_co C1 hr (by decide) (by rfl) (pa_cons (pv 0) (pa_cons pe_int pa_nil))))
      (pss_cons (ps_set (i := 4) nd rfl (.inl rfl) (pe_co C1 hr (by decide) (by rfl) (pa_cons (pv 0) (pa_cons (pe_op op_add (pv 1) pe_int) pa_nil))))
      (pss_cons (ps_if (pt_cmpR op_gt (pv 3) pe_int (nomark _)) (pss_one (ps_ret (pe_join pe_str (pe_lc (own := [("_law_turn", 7)]) (g := gName 7) (tt := tYes) rfl nd (pi_range1 rfl B.range (pa_cons (pv 4) pa_nil)) (blkOk_by (own := [("_law_turn", 7)]) (N := N_text) (sc := defScope s_text) (by decide +kernel))
          (fun _ _ _ _ _ => pg_name (i := 7) nd rfl (Or.inl rfl)) (fun _ _ _ _ _ => pts_nil) (fun _ _ _ _ _ => pe_co C2 hr (by decide) (by rfl) (pa_cons (pv 0) (pa_cons (pv 2) pa_nil))))))) pss_nil)
      (pss_cons (ps_set (i := 5) nd rfl (.inl rfl) (pe_join pe_str (pe_lc (own := [("_law_turn", 7)]) (g := gName 7) (tt := tYes) rfl nd (pi_range1 rfl B.range (pa_cons (pe_op op_add pe_int (pe_co C1 hr (by decide) (by rfl) (pa_cons (pv 0) (pa_cons pe_int pa_nil)))) pa_nil)) (blkOk_by (own := [("_law_turn", 7)]) (N := N_text) (sc := defScope s_text) (by decide +kernel))
          (fun _ _ _ _ _ => pg_name (i := 7) nd rfl (Or.inl rfl)) (fun _ _ _ _ _ => pts_nil) (fun _ _ _ _ _ => pe_co C2 hr (by decide) (by rfl) (pa_cons (pv 0) (pa_cons (pv 2) pa_nil))))))
      (pss_cons (ps_if (pt_cmpR op_eq (pv 3) pe_int (nomark _)) (pss_one (ps_ret (pe_slice sl_str (pe_op op_mulS (pv 5) (pv 4)) po_none (po_some (pv 4))))) pss_nil)
      (pss_cons (ps_set (i := 6) nd rfl (.inl rfl) (pe_co C2 hr (by decide) (by rfl) (pa_cons (pv 0) (pa_cons (pv 2) pa_nil))))
      (pss_cons (ps_for PassesOwn.never rfl (pi_range1 rfl B.range (pa_cons pe_int pa_nil)) (pg_name (i := 7) nd rfl (.inl rfl))
        (pss_cons (ps_if (pt_cmpR op_ge (pe_callB call_len_str (by rfl) B.len PySem.boot_len (pa_cons (pv 5) pa_nil)) (pv 4) (nomark _)) (pss_one ps_break) pss_nil)
        (pss_one (ps_par (i := 5) (j := 6) rfl nd rfl rfl (by decide) rfl rfl (pa_cons (pe_op op_add_str (pv 5) (pv 6)) (pa_cons (pv 5) pa_nil)) rfl))))
      (pss_one (ps_ret (pe_slice sl_str (pv 5) po_none (po_some (pv 4)))))))))))), ?_⟩
    refine ⟨_, rfl, h, l, 5, rfl, hh, by decide, by decide, fun H1 kd g1 k0 k5 => ?_⟩
    refine ⟨_, rfl, h, l, 4, rfl, g1.hd, by decide, by decide, fun H2 wy g2 w0 w4 => ?_⟩
    refine ⟨_, rfl, _, rfl, (m : Int), 1, rfl, rfl, h, l, _, rfl, g2.hd, by omega, by omega, fun H3 mn g3 m0 m1 => ?_⟩
    obtain ⟨mn, rfl⟩ : ∃ j : Nat, mn = (j : Int) := ⟨mn.toNat, by omega⟩
    have g13 := (g1.trans g2).trans g3
    have turn : ∀ (D : Addr) (H0 H4 : Hp) (i : Nat) (R : Hp → Prop), i < 1000 → Hnd H0 h l → H0 D = none → Sg h l D H0 i H4 → (∀ H5, Sg h l D H0 (i + 1) H5 → R H5) →
        sp_sign [.ref h, .int kd] H4 (fun y H6 => ∃ acc, H6 D = some (.lst acc) ∧ acc.length < sizeLine ∧ R (upd H6 D (.lst (acc ++ [y])))) L2.E0 := by
      rintro D H0 H4 i R hi n0 nD ⟨g, cs, hl, hs, hD⟩ hR
      refine ⟨h, l, kd, rfl, g.hd, k0, k5, fun H5 c g5 hc => ?_⟩
      have hD5 := g5.sm _ _ hD (n0.new nD).1
      refine ⟨_, hD5, by rw [List.length_map]; exact small_lt (by omega), hR _ ⟨(g.trans g5).mut n0 nD, cs ++ [c], ?_, ?_, ?_⟩⟩
      · rw [List.length_append, hl]
        rfl
      · intro x hx
        rcases List.mem_append.mp hx with hx | hx
        · exact hs x hx
        · rw [List.mem_singleton.mp hx]
          exact hc
      · rw [upd_same, List.map_append]
        rfl
    refine ⟨_, rfl, wy, 1, rfl, rfl, _, rfl, ?_⟩
    by_cases hw1 : 1 < wy
    · refine iteIs (decide_eq_true hw1) ?_
      refine ⟨⟨_, rfl⟩, _, rfl, (mn : Int), rfl, by omega, by omega, fun D nD => ?_⟩
      rw [Int.toNat_natCast]
      refine lc_range (fun i H4 => Sg h l D H3 i H4) (Sg.zero g13.hd nD) ?_ ?_
      · intro i H4 hi sg
        exact ⟨rfl, _, rfl, _, rfl, turn D H3 H4 i _ (by omega) g13.hd nD sg fun H5 s5 => s5⟩
      · intro H4 sg
        obtain ⟨g4, cs, hl, hs, hD⟩ := sg
        refine ⟨_, D, cs.map fun c => S [c], rfl, rfl, .inl (join_seq hD), join_sum (by omega), ?_⟩
        rw [join_signs]
        exact q H4 cs (g13.trans g4) (by omega) hs
    · refine iteIsn (decide_eq_false hw1) ?_
      refine ⟨⟨_, rfl⟩, _, rfl, h, l, 4, rfl, g13.hd, by decide, by decide, fun H4 n1 g4 n10 n14 => ?_⟩
      refine ⟨1, n1, rfl, rfl, _, rfl, by omega, by omega, fun D nD => ?_⟩
      have g14 := g13.trans g4
      refine lc_range (fun i H5 => Sg h l D H4 i H5) (Sg.zero g14.hd nD) ?_ ?_
      · intro i H5 hi sg
        exact ⟨rfl, _, rfl, _, rfl, turn D H4 H5 i _ (by omega) g14.hd nD sg fun H6 s6 => s6⟩
      · intro H5 sg
        obtain ⟨g5, one, hl, hs, hD⟩ := sg
        refine ⟨_, D, one.map fun c => S [c], rfl, rfl, .inl (join_seq hD), join_sum (by omega), ?_⟩
        rw [join_signs]
        have g15 := g14.trans g5
        have hol : one.length ≤ 4 := by omega
        refine ⟨_, rfl, rfl, _, rfl, ?_⟩
        by_cases hw0 : wy = 0
        · refine iteIs (decide_eq_true (by rw [hw0])) ?_
          refine ⟨_, rfl, _, rfl, one, mn, rfl, rfl, by omega, by omega, _, rfl, _, rfl, S (List.replicate mn one).flatten, rfl, ?_, ?_⟩
          · rw [S_len, List.length_flatten, List.map_replicate, List.sum_replicate_nat]
            exact small_le (Nat.le_trans (Nat.mul_le_mul (show mn ≤ 200 by omega) hol) (by decide))
          · rw [cut_to]
            refine q H5 _ g15 (Nat.le_trans (List.length_take_le _ _) (by omega)) fun c hc => ?_
            obtain ⟨t, ht, hct⟩ := List.mem_flatten.mp (List.mem_of_mem_take hc)
            rw [List.eq_of_mem_replicate ht] at hct
            exact hs c hct
        · refine iteIsn (decide_eq_false (fun z => hw0 (V.int.inj z))) ?_
          refine ⟨_, rfl, _, rfl, h, l, kd, rfl, g15.hd, k0, k5, fun H6 c6 g6 hc6 => ?_⟩
          have g16 := g15.trans g6
          refine ⟨8, rfl, by decide, by decide, ?_⟩
          refine for_range (fun i σ H7 => H7 = H6 ∧ ∃ (t u : Tx) (y7 : Option V), σ = [some (.ref h), some (.int (m : Int)), some (.int kd), some (.int wy), some (.int (mn : Int)), some (.str (S t)), some (.str (S u)), y7] ∧ t.length ≤ 4 * 2 ^ i ∧ u.length ≤ 4 * 2 ^ i ∧ (∀ c ∈ t, isSign c) ∧ ∀ c ∈ u, isSign c)
            ⟨rfl, one, [c6], none, rfl, by omega, by simp, hs, fun c hc => by rw [List.mem_singleton.mp hc]; exact hc6⟩ ?_ ?_
          · rintro i σ H7 hi ⟨rfl, t, u, y7, rfl, ht, hu, hts, hus⟩
            have hp : (2 : Nat) ^ i ≤ 2 ^ 8 := Nat.pow_le_pow_right (by decide) (by omega)
            have hp2 : (2 : Nat) ^ (i + 1) = 2 * 2 ^ i := by rw [Nat.pow_succ, Nat.mul_comm]
            refine ⟨_, rfl, S t, rfl, small_le (by rw [S_len]; omega), _, rfl, _, _, rfl, rfl, _, rfl, ?_⟩
            by_cases hge : (mn : Int) ≤ ((S t).length : Int)
            · refine iteIs (decide_eq_true hge) ?_
              refine ⟨_, rfl, _, rfl, _, rfl, S t, rfl, small_le (by rw [S_len]; omega), ?_⟩
              rw [cut_to]
              exact q H7 _ g16 (Nat.le_trans (List.length_take_le _ _) (by omega)) fun c hc => hts c (List.mem_of_mem_take hc)
            · refine iteIsn (decide_eq_false hge) ?_
              refine ⟨_, rfl, _, rfl, S t, S u, rfl, rfl, ?_, _, rfl, _, _, rfl, rfl, ?_⟩
              · rw [S_len, S_len]
                exact small_le (by omega)
              · rw [S_app]
                refine ⟨t ++ u, t, _, rfl, ?_, by omega, ?_, hts⟩
                · rw [List.length_append]
                  omega
                · intro c hc
                  rcases List.mem_append.mp hc with hc | hc
                  · exact hts c hc
                  · exact hus c hc
          · rintro σ H7 ⟨rfl, t, u, y7, rfl, ht, hu, hts, hus⟩
            replace ht : t.length ≤ 4 * 2 ^ 8 := ht
            refine ⟨_, rfl, _, rfl, _, rfl, S t, rfl, small_le (by rw [S_len]; omega), ?_⟩
            rw [cut_to]
            exact q H7 _ g16 (Nat.le_trans (List.length_take_le _ _) (by omega)) fun c hc => hts c (List.mem_of_mem_take hc)
end
end K11

/-! _law_texts, _law_ending, _law_common, _law_lengths -/
namespace K11
open PySem PySem.Spec PyProof.Rows L2
section
variable {P : Program} {w : World} {K : PySem.W.Frag} {mg : Str → Option Value} {base : Heap}
abbrev N_texts : List Str := ["_law_hand_here", "_law_most", "_law_many", "_law_found", "_law_turn"]
theorem sc_texts : FnScope N_texts ["_law_hand_here", "_law_most"] (defScope s_texts) := ⟨rfl, rfl, rfl, by decide +kernel, rfl, by decide +kernel, by decide +kernel⟩
def sp_texts : Sp := fun vs H Q _ => ∃ (h l : Addr) (m : Nat), vs = [.ref h, .int (m : Int)] ∧ Hnd H h l ∧ m ≤ 200 ∧ ∀ (H' : Hp) (tt : Addr) (ts : List Tx), Go h l H H' → H tt = none → H' tt = some (.tup (tv ts)) → ts.length ≤ 8 → (∀ t ∈ ts, t.length ≤ m) → (∀ t ∈ ts, ∀ c ∈ t, isSign c) → Q (.ref tt) H'
theorem co_texts {f : Addr} {fd : FuncData} (B : Blt mg) (C1 : Co P w K mg base 1 "_law_draw" sp_draw) (C2 : Co P w K mg base 4 "_law_text" sp_text) (D : Dn K mg "_law_texts" s_texts ["_law_hand_here", "_law_most"] f fd) : Co P w K mg base 5 "_law_texts" sp_texts := by
  refine Co.mk' D sc_texts (fun vs H Q E h => ?_) (fun cdv A outer s H vs Q E hr h => ?_)
  · obtain ⟨h, l, m, rfl, _⟩ := h
    rfl
  · obtain ⟨h, l, m, rfl, hh, hm, q⟩ := h
    have nd := sc_texts.nd
    refine ⟨_, pss_cons (ps_set (i := 2) nd rfl (.inl rfl) (pe_ix ix_list (pe_lst (pa_cons pe_int (pa_cons pe_int (pa_cons pe_int (pa_cons pe_int (pa_cons pe_int (pa_cons pe_int (pa_cons pe_int (pa_cons pe_int pa_nil))))))))) (pe_co C1 hr (by decide) (by rfl) (pa_cons (pv 0) (pa_cons pe_int pa_nil))) (fun _ _ => rfl)))
      (pss_cons (ps_set (i := 3) nd rfl (.inl rfl) (pe_lst pa_nil))
      (pss_cons (ps_for PassesOwn.never rfl (pi_range1 rfl B.range (pa_cons (pv 2) pa_nil)) (pg_name (i := 4) nd rfl (.inl rfl))
        (pss_one (ps_if (PW.pt (pw_and (pt_cmpR op_gt (pv 4) pe_int (nomark _)) (pw_and1 (pt_cmpR op_eq (pe_co C1 hr (by decide) (by rfl) (pa_cons (pv 0) (pa_cons pe_int pa_nil))) pe_int (nomark _)))))
          (pss_one (ps_expr (pe_bm PySem.F.plainAttrs_list PySem.F.slot_list_append PySem.type_list_append mt_append (pv 3) (pa_cons (pe_ix ix_list (pv 3) (pe_co C1 hr (by decide) (by rfl) (pa_cons (pv 0) (pa_cons (pv 4) pa_nil))) (fun _ _ => rfl)) pa_nil))))
          (pss_one (ps_expr (pe_bm PySem.F.plainAttrs_list PySem.F.slot_list_append PySem.type_list_append mt_append (pv 3) (pa_cons (pe_co C2 hr (by decide) (by rfl) (pa_cons (pv 0) (pa_cons (pv 1) pa_nil))) pa_nil)))))))
      (pss_one (ps_ret (pe_callTy call_tuple_of (by rfl) B.tuple PyProof.Rows.boot_tuple (pa_cons (pv 3) pa_nil)))))), ?_⟩
    refine ⟨(by show 8 ≤ sizeLine; decide), fun p np => ?_⟩
    have sp := same_upd (o := .lst [.int 0, .int 1, .int 1, .int 1, .int 2, .int 2, .int 3, .int 8]) np
    refine ⟨_, rfl, h, l, 8, rfl, hh.same sp, by decide, by decide, fun H1 d g1 d0 d8 => ?_⟩
    have g01 : Go h l H H1 := (Go.of hh sp).trans g1
    have hp1 : H1 p = some (.lst [.int 0, .int 1, .int 1, .int 1, .int 2, .int 2, .int 3, .int 8]) := g1.sm _ _ upd_same (hh.new np).1
    obtain ⟨mn, hmn, hm8⟩ : ∃ mn : Nat, atI [V.int 0, V.int 1, V.int 1, V.int 1, V.int 2, V.int 2, V.int 3, V.int 8] d = some (.int (mn : Int)) ∧ mn ≤ 8 := by
      have : d = 0 ∨ d = 1 ∨ d = 2 ∨ d = 3 ∨ d = 4 ∨ d = 5 ∨ d = 6 ∨ d = 7 := by omega
      rcases this with e | e | e | e | e | e | e | e <;> subst e
      · exact ⟨0, rfl, by decide⟩
      · exact ⟨1, rfl, by decide⟩
      · exact ⟨1, rfl, by decide⟩
      · exact ⟨1, rfl, by decide⟩
      · exact ⟨2, rfl, by decide⟩
      · exact ⟨2, rfl, by decide⟩
      · exact ⟨3, rfl, by decide⟩
      · exact ⟨8, rfl, by decide⟩
    refine ⟨p, _, d, _, rfl, rfl, SqL.of hp1, hmn, Nat.zero_le _, fun F nF1 => ?_⟩
    have nF : H F = none := by
      cases e : H F with
      | none => rfl
      | some o =>
        have ne : F ≠ h := (g01.hd.new nF1).1
        rw [g01.sm _ _ e ne] at nF1
        cases nF1
    refine ⟨_, rfl, (mn : Int), rfl, by omega, by omega, ?_⟩
    rw [Int.toNat_natCast]
    refine for_range (fun i σ H2 => ∃ (y4 : Option V) (ts : List Tx), σ = [some (.ref h), some (.int (m : Int)), some (.int (mn : Int)), some (.ref F), y4] ∧ Go h l H H2 ∧ H2 F = some (.lst (tv ts)) ∧ ts.length = i ∧ (∀ t ∈ ts, t.length ≤ m) ∧ ∀ t ∈ ts, ∀ c ∈ t, isSign c)
      ⟨none, [], rfl, g01.mut hh nF, upd_same, rfl, (fun _ ht => nomatch ht), fun _ ht => nomatch ht⟩ ?_ ?_
    · rintro i σ H2 hi ⟨y4, ts, rfl, g2, hF, hl, hml, hsg⟩
      have add : ∀ (t : Tx) (H3 : Hp), Go h l H H3 → H3 F = some (.lst (tv ts)) → t.length ≤ m → (∀ c ∈ t, isSign c) →
          ∃ (y4 : Option V) (us : List Tx), [some (.ref h), some (.int (m : Int)), some (.int (mn : Int)), some (.ref F), some (V.int (0 + (i : Int)))] = [some (.ref h), some (.int (m : Int)), some (.int (mn : Int)), some (.ref F), y4] ∧ Go h l H (upd H3 F (.lst (tv ts ++ [.str (S t)]))) ∧ (upd H3 F (.lst (tv ts ++ [.str (S t)]))) F = some (.lst (tv us)) ∧ us.length = i + 1 ∧ (∀ t ∈ us, t.length ≤ m) ∧ ∀ t ∈ us, ∀ c ∈ t, isSign c := by
        intro t H3 g3 hF3 ht1 ht2
        refine ⟨_, ts ++ [t], rfl, g3.mut hh nF, ?_, ?_, ?_, ?_⟩
        · rw [upd_same]
          exact congrArg (fun z => some (HO.lst z)) (List.map_append (f := fun t => V.str (S t)) (l₁ := ts) (l₂ := [t])).symm
        · rw [List.length_append, hl]
          rfl
        · intro u hu
          rcases List.mem_append.mp hu with hu | hu
          · exact hml u hu
          · rw [List.mem_singleton.mp hu]
            exact ht1
        · intro u hu
          rcases List.mem_append.mp hu with hu | hu
          · exact hsg u hu
          · rw [List.mem_singleton.mp hu]
            exact ht2
      have hFh : F ≠ h := (hh.new nF).1
      have hll : (tv ts).length < sizeLine := by
        rw [List.length_map]
        exact small_lt (by omega)
      refine ⟨_, rfl, 0 + (i : Int), 0, rfl, rfl, _, rfl, ?_⟩
      by_cases hi0 : (0 : Int) < 0 + (i : Int)
      · refine iteIs (decide_eq_true hi0) ?_
        refine ⟨_, rfl, h, l, 5, rfl, g2.hd, by decide, by decide, fun H3 d3 g3 e0 e5 => ⟨rfl, _, rfl, ?_⟩⟩
        have hF3 := g3.sm _ _ hF hFh
        have g23 := g2.trans g3
        by_cases hd3 : d3 = 0
        · refine iteIs (decide_eq_true (by rw [hd3])) ?_
          refine ⟨_, rfl, .inl ⟨rfl, _, SqL.of hF3⟩, _, rfl, _, rfl, _, rfl, h, l, _, rfl, g23.hd, hi0, by omega, fun H4 d4 g4 f0 f1 => ?_⟩
          have hF4 := g4.sm _ _ hF3 hFh
          obtain ⟨j, rfl⟩ : ∃ j : Nat, d4 = (j : Int) := ⟨d4.toNat, by omega⟩
          have hj : j < ts.length := by omega
          refine ⟨F, tv ts, _, .str (S ts[j]), rfl, rfl, SqL.of hF4, atI_nat (by rw [List.getElem?_map, List.getElem?_eq_getElem hj]; rfl), F, tv ts, _, rfl, rfl, hF4, hll, ?_⟩
          exact add ts[j] H4 (g23.trans g4) hF4 (hml _ (List.getElem_mem hj)) (hsg _ (List.getElem_mem hj))
        · refine iteIsn (decide_eq_false (fun z => hd3 (V.int.inj z))) ?_
          refine ⟨_, rfl, .inl ⟨rfl, _, SqL.of hF3⟩, _, rfl, _, rfl, h, l, m, rfl, g23.hd, hm, fun H4 t g4 h1 h2 => ?_⟩
          have hF4 := g4.sm _ _ hF3 hFh
          exact ⟨F, tv ts, _, rfl, rfl, hF4, hll, add t H4 (g23.trans g4) hF4 h1 h2⟩
      · refine iteIsn (decide_eq_false hi0) ?_
        refine ⟨_, rfl, .inl ⟨rfl, _, SqL.of hF⟩, _, rfl, _, rfl, h, l, m, rfl, g2.hd, hm, fun H4 t g4 h1 h2 => ?_⟩
        have hF4 := g4.sm _ _ hF hFh
        exact ⟨F, tv ts, _, rfl, rfl, hF4, hll, add t H4 (g2.trans g4) hF4 h1 h2⟩
    · rintro σ H2 ⟨y4, ts, rfl, g2, hF, hl, hml, hsg⟩
      refine ⟨_, rfl, F, tv ts, rfl, .inl ⟨SqL.of hF, fun tt ntt => ?_⟩⟩
      have nH : H tt = none := by
        cases e : H tt with
        | none => rfl
        | some o =>
          rw [g2.sm _ _ e (g2.hd.new ntt).1] at ntt
          cases ntt
      exact q _ tt ts (g2.mut hh nH) nH upd_same (by omega) hml hsg
end
end K11

/-! _law_ending, _law_common, _law_lengths, _law_order -/
namespace K11
open PySem PySem.Spec PyProof.Rows L2
open PySem.W (EachIs AllAlike Sortable dataLe dataLt alike)
section
variable {P : Program} {w : World} {K : PySem.W.Frag} {mg : Str → Option Value} {base : Heap}
abbrev s_lorder : Stmt := topS 46
abbrev s_lending : Stmt := topS 47
abbrev s_lcommon : Stmt := topS 48
abbrev s_llengths : Stmt := topS 49
theorem sc_lending : FnScope ["_law_texts_here", "_law_place"] ["_law_texts_here", "_law_place"] (defScope s_lending) := ⟨rfl, rfl, rfl, by decide +kernel, rfl, by decide +kernel, by decide +kernel⟩
theorem sc_lcommon : FnScope ["_law_one", "_law_other", "_law_at"] ["_law_one", "_law_other"] (defScope s_lcommon) := ⟨rfl, rfl, rfl, by decide +kernel, rfl, by decide +kernel, by decide +kernel⟩
theorem sc_llengths : FnScope ["_law_texts_here", "_law_order_here", "_law_found", "_law_at"] ["_law_texts_here", "_law_order_here"] (defScope s_llengths) := ⟨rfl, rfl, rfl, by decide +kernel, rfl, by decide +kernel, by decide +kernel⟩
def sp_lending : Sp := fun vs H Q _ => ∃ (tt a : Addr) (ts : List Tx) (p : KM.Pl), vs = [.ref tt, .ref a] ∧ H tt = some (.tup (tv ts)) ∧ Okt ts ∧ H a = some (plV p) ∧ KM.IsPl ts p ∧ Q (.str (S (KM.suf ts p))) H
theorem co_lending {f : Addr} {fd : FuncData} (D : Dn K mg "_law_ending" s_lending ["_law_texts_here", "_law_place"] f fd) : Co P w K mg base 1 "_law_ending" sp_lending := by
  refine Co.mk' D sc_lending (fun vs H Q E h => ?_) (fun cdv A outer s H vs Q E hr h => ?_)
  · obtain ⟨tt, a, ts, p, rfl, _⟩ := h
    rfl
  · obtain ⟨tt, a, ts, p, rfl, htt, ok, ha, hp, q⟩ := h
    refine ⟨_, pss_one (ps_ret (pe_slice sl_str (pe_ix ix_tup (pv 0) (pe_ix ix_tup (pv 1) pe_int (fun _ _ => rfl)) (fun _ _ => rfl)) (po_some (pe_ix ix_tup (pv 1) pe_int (fun _ _ => rfl))) po_none)), ?_⟩
    refine ⟨_, rfl, _, rfl, a, _, 0, .int (p.1 : Int), rfl, rfl, SqT.of ha, atI_nat (j := 0) rfl, ?_⟩
    refine ⟨tt, tv ts, (p.1 : Int), _, rfl, rfl, SqT.of htt, atI_nat (txt_get hp), ?_⟩
    refine ⟨_, rfl, a, _, 1, .int (p.2 : Int), rfl, rfl, SqT.of ha, atI_nat (j := 1) rfl, _, rfl, ?_⟩
    refine ⟨S (KM.txt ts p.1), rfl, small_le (by have := ok.len (txt_mem hp); rw [S_len]; omega), ?_⟩
    rw [cut_from _ (Nat.le_of_lt hp.2)]
    exact q
theorem co_lcommon {f : Addr} {fd : FuncData} (B : Blt mg) (D : Dn K mg "_law_common" s_lcommon ["_law_one", "_law_other"] f fd) : Co P w K mg base 1 "_law_common" sp_common_of := by
  refine Co.mk' D sc_lcommon (fun vs H Q E h => ?_) (fun cdv A outer s H vs Q E hr h => ?_)
  · obtain ⟨t, u, rfl, _⟩ := h
    rfl
  · obtain ⟨t, u, rfl, h1, h2, q⟩ := h
    have nd := sc_lcommon.nd
    refine ⟨_, pss_cons (ps_for PassesOwn.never rfl (pi_range1 rfl B.range (pa_cons (pe_callB (call_min2 rfl) (by rfl) B.min boot_min (pa_cons (pe_callB call_len_str (by rfl) B.len PySem.boot_len (pa_cons (pv 0) pa_nil)) (pa_cons (pe_callB call_len_str (by rfl) B.len PySem.boot_len (pa_cons (pv 1) pa_nil)) pa_nil))) pa_nil)) (pg_name (i := 2) nd rfl (.inl rfl))
        (pss_one (ps_if (pt_cmpR op_ne (pe_ix ix_str (pv 0) (pv 2) (fun _ _ => rfl)) (pe_ix ix_str (pv 1) (pv 2) (fun _ _ => rfl)) (nomark _)) (pss_one (ps_ret (pv 2))) pss_nil)))
      (pss_one (ps_ret (pe_callB (call_min2 rfl) (by rfl) B.min boot_min (pa_cons (pe_callB call_len_str (by rfl) B.len PySem.boot_len (pa_cons (pv 0) pa_nil)) (pa_cons (pe_callB call_len_str (by rfl) B.len PySem.boot_len (pa_cons (pv 1) pa_nil)) pa_nil))))), ?_⟩
    have em : (if ((S u).length : Int) < ((S t).length : Int) then ((S u).length : Int) else ((S t).length : Int)) = ((min t.length u.length : Nat) : Int) := by
      rw [S_len, S_len]
      split <;> omega
    refine ⟨_, rfl, S t, rfl, small_le (by rw [S_len]; omega), _, rfl, S u, rfl, small_le (by rw [S_len]; omega), _, _, rfl, _, rfl, ?_⟩
    rw [em]
    refine ⟨by omega, by omega, ?_⟩
    rw [Int.toNat_natCast]
    refine for_range (fun i σ H1 => ∃ y2, σ = [some (.str (S t)), some (.str (S u)), y2] ∧ i ≤ KM.lcp t u ∧ H1 = H) ⟨none, rfl, Nat.zero_le _, rfl⟩ ?_ ?_
    · rintro k σ H1 hkm ⟨y2, rfl, hk, rfl⟩
      have ht : k < t.length := by omega
      have hu : k < u.length := by omega
      have gt : t[k]? = some t[k] := List.getElem?_eq_getElem ht
      have gu : u[k]? = some u[k] := List.getElem?_eq_getElem hu
      have e0 : (0 : Int) + (k : Int) = (k : Int) := by omega
      rw [e0]
      refine ⟨_, rfl, _, rfl, S t, _, t[k], rfl, rfl, small_le (by rw [S_len]; omega), atI_nat gt, _, rfl, _, rfl, S u, _, u[k], rfl, rfl, small_le (by rw [S_len]; omega), atI_nat gu, rfl, _, rfl, ?_⟩
      by_cases e : t[k] = u[k]
      · refine iteNT (decide_eq_true (by rw [e])) ?_
        exact ⟨_, rfl, KM.lcp_more t u k t[k] hk gt (by rw [e]; exact gu), rfl⟩
      · have hd : decide (V.str ⟨#[t[k]]⟩ = V.str ⟨#[u[k]]⟩) = false := decide_eq_false (fun z => e (by
          injection z with z
          have := congrArg (fun y : Str => y.cps.toList) z
          injection this))
        rw [hd]
        refine iteT ⟨_, rfl, ?_⟩
        rw [← KM.lcp_stop t u k _ _ hk gt gu e]
        exact q
    · rintro σ H1 ⟨y2, rfl, hk, rfl⟩
      refine ⟨_, rfl, S t, rfl, small_le (by rw [S_len]; omega), _, rfl, S u, rfl, small_le (by rw [S_len]; omega), _, _, rfl, ?_⟩
      rw [em, ← KM.lcp_end hk (Nat.le_refl _)]
      exact q
def sp_llengths : Sp := fun vs H Q _ => ∃ (tt F : Addr) (ts : List Tx) (as : List Addr) (o : List KM.Pl), vs = [.ref tt, .ref F] ∧ H tt = some (.tup (tv ts)) ∧ Okt ts ∧ H F = some (.lst (as.map V.ref)) ∧ Pls H as o ∧ (∀ p ∈ o, KM.IsPl ts p) ∧ o.length ≤ 2000 ∧
  ∀ (H' : Hp) (L : Addr), Same H H' → H L = none → H' L = some (.lst ((lens ts o).map V.int)) → Q (.ref L) H'
theorem co_llengths {f : Addr} {fd : FuncData} (B : Blt mg) (C1 : Co P w K mg base 1 "_law_ending" sp_lending) (C2 : Co P w K mg base 1 "_law_common" sp_common_of) (D : Dn K mg "_law_lengths" s_llengths ["_law_texts_here", "_law_order_here"] f fd) : Co P w K mg base 2 "_law_lengths" sp_llengths := by
  refine Co.mk' D sc_llengths (fun vs H Q E h => ?_) (fun cdv A outer s H vs Q E hr h => ?_)
  · obtain ⟨tt, F, ts, as, o, rfl, _⟩ := h
    rfl
  · obtain ⟨tt, F, ts, as, o, rfl, htt, ok, hF, hP, hpl, hn, q⟩ := h
    have nd := sc_llengths.nd
    have hal := Paired.length hP
    refine ⟨_, pss_cons (ps_set (i := 2) nd rfl (.inl rfl) (pe_op op_rep (pe_lst (pa_cons pe_int pa_nil)) (pe_callB call_len_seq (by rfl) B.len PySem.boot_len (pa_cons (pv 1) pa_nil))))
      (pss_cons (ps_for PassesOwn.never rfl (pi_range2 rfl B.range (pa_cons pe_int (pa_cons (pe_callB call_len_seq (by rfl) B.len PySem.boot_len (pa_cons (pv 1) pa_nil)) pa_nil))) (pg_name (i := 3) nd rfl (.inl rfl))
        (pss_one (ps_asg (pe_co C2 hr (by decide) (by rfl) (pa_cons (pe_co C1 hr (by decide) (by rfl) (pa_cons (pv 0) (pa_cons (pe_ix ix_list (pv 1) (pe_op op_sub (pv 3) pe_int) (fun _ _ => rfl)) pa_nil))) (pa_cons (pe_co C1 hr (by decide) (by rfl) (pa_cons (pv 0) (pa_cons (pe_ix ix_list (pv 1) (pv 3) (fun _ _ => rfl)) pa_nil))) pa_nil))) (pg_sub (pv 2) (pv 3) set_list))))
      (pss_one (ps_ret (pv 2)))), ?_⟩
    refine ⟨(by show 1 ≤ sizeLine; decide), fun Z nZ => ?_⟩
    have s0 := same_upd (o := .lst [.int 0]) nZ
    refine ⟨_, rfl, F, as.map V.ref, rfl, .inl (SqL.of (s0 _ _ hF)), Z, _, [.int 0], rfl, rfl, upd_same, ?_, ?_, ?_, fun G nG => ?_⟩
    · rw [List.length_map]
      omega
    · rw [List.length_map]
      omega
    · rw [List.length_map, Int.toNat_natCast]
      exact small_le (by show 1 * as.length ≤ 100000; omega)
    rw [List.length_map, Int.toNat_natCast, map_rep, hal, ← lensTo_zero ts o]
    have nHG : H G = none := s0.free nG
    refine ⟨_, rfl, F, as.map V.ref, rfl, .inl (SqL.of ((s0.mut nHG) _ _ hF)), 1, _, rfl, ⟨by decide, by decide, by omega, ?_⟩, ?_⟩
    · rw [List.length_map]
      omega
    rw [List.length_map, hal]
    have hcnt : ((o.length : Int) - 1).toNat = o.length - 1 := by omega
    rw [hcnt]
    refine for_range (fun i σ H1 => ∃ y3, σ = [some (.ref tt), some (.ref F), some (.ref G), y3] ∧ Same H H1 ∧ H1 G = some (.lst ((lensTo ts o (i + 1)).map V.int))) ⟨none, rfl, s0.mut nHG, upd_same⟩ ?_ ?_
    · rintro i σ H1 hi ⟨y3, rfl, s1, hG⟩
      have hi1 : i + 1 < o.length := by omega
      have gp : o[i]? = some o[i] := List.getElem?_eq_getElem (by omega)
      have gq : o[i + 1]? = some o[i + 1] := List.getElem?_eq_getElem hi1
      obtain ⟨a, ga, ha⟩ := paired_get hP gp
      obtain ⟨b, gb, hb⟩ := paired_get hP gq
      have e1 : (1 : Int) + (i : Int) = ((i + 1 : Nat) : Int) := by omega
      have e2 : ((i + 1 : Nat) : Int) - 1 = (i : Int) := by omega
      have hp1 := hpl _ (List.mem_of_getElem? gp)
      have hq1 := hpl _ (List.mem_of_getElem? gq)
      rw [e1]
      refine ⟨_, rfl, _, rfl, _, rfl, _, 1, rfl, rfl, F, as.map V.ref, _, .ref a, rfl, rfl, SqL.of (s1 _ _ hF), by rw [e2]; exact atI_nat (by rw [List.getElem?_map, ga]; rfl), tt, a, ts, _, rfl, s1 _ _ htt, ok, s1 _ _ ha, hp1, ?_⟩
      refine ⟨_, rfl, _, rfl, _, rfl, F, as.map V.ref, _, .ref b, rfl, rfl, SqL.of (s1 _ _ hF), atI_nat (by rw [List.getElem?_map, gb]; rfl), tt, b, ts, _, rfl, s1 _ _ htt, ok, s1 _ _ hb, hq1, ?_⟩
      refine ⟨_, _, rfl, suf_len ok hp1, suf_len ok hq1, ?_⟩
      refine ⟨_, rfl, _, rfl, G, _, _, i + 1, rfl, rfl, hG, ixN_at (by rw [List.length_map, lensTo_len]; exact hi1), ?_⟩
      refine ⟨_, rfl, s1.mut nHG, ?_⟩
      rw [upd_same, ← lensTo_set ts o (i + 1), List.map_set]
      have el : lenAt ts o (i + 1) = KM.lcp (KM.suf ts o[i]) (KM.suf ts o[i + 1]) := by
        unfold lenAt
        rw [if_neg (by omega), Nat.add_sub_cancel, getD_some gp, getD_some gq]
      rw [el]
    · rintro σ H1 ⟨y3, rfl, s1, hG⟩
      rw [lensTo_all ts o (by omega)] at hG
      exact ⟨_, rfl, q H1 G s1 nHG hG⟩
end
end K11

/-! _law_order -/
namespace K11
open PySem PySem.Spec PyProof.Rows L2
open PySem.W (EachIs AllAlike Sortable dataLe dataLt alike)
/-- (ending, number, at) as they stand in the heap -/
abbrev Lds (ts : List Tx) (H : Hp) : List Addr → List KM.Pl → Prop := Paired fun a p => H a = some (.tup [.str (S (KM.suf ts p)), .int (p.1 : Int), .int (p.2 : Int)])
theorem Lds.same {ts : List Tx} {H H' : Hp} {as : List Addr} {ps : List KM.Pl} (h : Lds ts H as ps) (s : Same H H') : Lds ts H' as ps := Paired.mapP h fun _ _ e => s _ _ e
theorem Lds.mut {ts : List Tx} {H : Hp} {as : List Addr} {ps : List KM.Pl} {F : Addr} {xs : List V} {o : HO} (h : Lds ts H as ps) (hF : H F = some (.lst xs)) : Lds ts (upd H F o) as ps := Paired.mapP h fun a p e => by
  rw [upd_ne (ne_of e hF (by intro z; cases z))]
  exact e
theorem txt_at {ts : List Tx} {i : Nat} {t : Tx} (h : ts[i]? = some t) : KM.txt ts i = t := by
  unfold KM.txt
  exact getD_some h
section
variable {P : Program} {w : World} {K : PySem.W.Frag} {mg : Str → Option Value} {base : Heap}
abbrev N_lorder : List Str := ["_law_texts_here", "_law_found", "_law_number", "_law_at", "_law_signs"]
theorem sc_lorder : FnScope N_lorder ["_law_texts_here"] (defScope s_lorder) := ⟨rfl, rfl, rfl, by decide +kernel, rfl, by decide +kernel, by decide +kernel⟩
def sp_lorder : Sp := fun vs H Q _ => ∃ (tt : Addr) (ts : List Tx), vs = [.ref tt] ∧ H tt = some (.tup (tv ts)) ∧ Okt ts ∧
  ∀ (H' : Hp) (F : Addr) (as : List Addr) (o : List KM.Pl), Same H H' → H F = none → H' F = some (.lst (as.map V.ref)) → IsOrd ts o → Pls H' as o → Q (.ref F) H'
theorem co_lorder {f : Addr} {fd : FuncData} (B : Blt mg) (D : Dn K mg "_law_order" s_lorder ["_law_texts_here"] f fd) : Co P w K mg base 1 "_law_order" sp_lorder := by
  refine Co.mk' D sc_lorder (fun vs H Q E h => ?_) (fun cdv A outer s H vs Q E hr h => ?_)
  · obtain ⟨tt, ts, rfl, _⟩ := h
    rfl
  · obtain ⟨tt, ts, rfl, htt, ok, q⟩ := h
    have nd := sc_lorder.nd
    refine ⟨_, pss_cons (ps_set (i := 1) nd rfl (.inl rfl) (pe_lst pa_nil))
      (pss_cons (ps_for PassesOwn.never rfl (pi_range1 rfl B.range (pa_cons (pe_callB call_len_seq (by rfl) B.len PySem.boot_len (pa_cons (pv 0) pa_nil)) pa_nil)) (pg_name (i := 2) nd rfl (.inr rfl))
        (pss_one (ps_set (i := 1) nd rfl (.inl rfl) (pe_op op_cat (pv 1) (pe_lc (own := [("_law_at", 3)]) (te := tTup (tCons (tSl rSlS (tOp (rIxT K) (tVar 0) (tVar 2)) (tPart (tVar 3)) tNoPart) (tCons (tVar 2) (tCons (tVar 3) tNil)))) (g := gName 3) (tt := tYes) rfl nd (pi_range1 rfl B.range (pa_cons (pe_callB call_len_str (by rfl) B.len PySem.boot_len (pa_cons (pe_ix ix_tup (pv 0) (pv 2) (fun _ _ => rfl)) pa_nil)) pa_nil)) (blkOk_by (own := [("_law_at", 3)]) (N := N_lorder) (sc := defScope s_lorder) (by decide +kernel))
          (fun _ _ _ _ _ => pg_name (i := 3) nd rfl (Or.inl rfl)) (fun _ _ _ _ _ => pts_nil) (fun _ _ _ _ _ => pe_tup (pa_cons (pe_slice sl_str (pe_ix ix_tup (pv 0) (pv 2) (fun _ _ => rfl)) (po_some (pv 3)) po_none) (pa_cons (pv 2) (pa_cons (pv 3) pa_nil)))))))))
      (pss_one (ps_ret (pe_lc (own := [("_law_signs", 4), ("_law_number", 2), ("_law_at", 3)]) (g := gTup K 3 (gCons (gName 4) (gCons (gName 2) (gCons (gName 3) gNil)))) (tt := tYes) rfl nd (pi_list (pe_callB (cr_sortedD hr.units) (by rfl) B.sorted boot_sorted (pa_cons (pv 1) pa_nil))) (blkOk_by (own := [("_law_signs", 4), ("_law_number", 2), ("_law_at", 3)]) (N := N_lorder) (sc := defScope s_lorder) (by decide +kernel))
          (fun _ _ _ _ _ => pg_tup rfl (pgs_cons (pg_name (i := 4) nd rfl (Or.inl rfl)) (pgs_cons (pg_name (i := 2) nd rfl (Or.inl rfl)) (pgs_cons (pg_name (i := 3) nd rfl (Or.inl rfl)) pgs_nil)))) (fun _ _ _ _ _ => pts_nil) (fun _ _ _ _ _ => pe_tup (pa_cons (pv 2) (pa_cons (pv 3) pa_nil))))))), ?_⟩
    have hpl : (KM.places ts).length ≤ 2000 := by rw [KM.length_places]; exact ok.sum
    refine ⟨Nat.zero_le _, fun F0 nF0 => ?_⟩
    have s0 : Same H (upd H F0 (.lst [])) := same_upd nF0
    refine ⟨_, rfl, tt, tv ts, rfl, .inr (SqT.of (s0 _ _ htt)), (ts.length : Int), by rw [List.length_map], by have := ok.many; omega, by have := ok.many; omega, ?_⟩
    rw [Int.toNat_natCast]
    refine for_range (fun i σ H1 => ∃ F y2 as, σ = [some (.ref tt), some (.ref F), y2, none, none] ∧ Same H H1 ∧ H1 F = some (.lst (as.map V.ref)) ∧ Lds ts H1 as (KM.places (ts.take i))) ⟨F0, none, [], rfl, s0, upd_same, .nil⟩ ?_ ?_
    · rintro i σ H1 hi ⟨F, y2, as, rfl, s1, hF, hP⟩
      have ht : ts[i]? = some ts[i] := List.getElem?_eq_getElem hi
      have hm := List.mem_of_getElem? ht
      have htl := ok.len hm
      have htx := txt_at ht
      generalize ts[i] = t at ht hm htl htx
      have hget : (tv ts)[i]? = some (.str (S t)) := by rw [List.getElem?_map, ht]; rfl
      rw [Int.zero_add]
      refine ⟨_, rfl, _, rfl, _, rfl, tt, tv ts, (i : Int), _, rfl, rfl, SqT.of (s1 _ _ htt), atI_nat hget, S t, rfl, small_le (by rw [S_len]; omega), (t.length : Int), rfl, by omega, by omega, fun D nD => ?_⟩
      rw [Int.toNat_natCast]
      refine lc_range (fun k H3 => Same H1 H3 ∧ ∃ bs, H3 D = some (.lst (bs.map V.ref)) ∧ Lds ts H3 bs (KM.row i k)) ⟨same_upd nD, [], upd_same, .nil⟩ ?_ ?_
      · rintro k H3 hk ⟨s3, bs, hD, hB⟩
        rw [Int.zero_add]
        refine ⟨rfl, _, rfl, _, rfl, tt, tv ts, (i : Int), _, rfl, rfl, SqT.of (s3 _ _ (s1 _ _ htt)), atI_nat hget, _, rfl, _, rfl, S t, rfl, small_le (by rw [S_len]; omega), _, rfl, _, rfl, (by show 3 ≤ sizeLine; decide), fun p hp => ?_⟩
        rw [cut_from t (Nat.le_of_lt hk)]
        have s4 := same_upd (o := .tup [.str (S (t.drop k)), .int (i : Int), .int (k : Int)]) hp
        refine ⟨_, s4 _ _ hD, ?_, (s3.trans s4).mut nD, bs ++ [p], ?_, ?_⟩
        · have := Paired.length hB
          rw [List.length_map, this, KM.row, List.length_map, List.length_range]
          exact small_lt (by omega)
        · rw [upd_same, List.map_append]
          rfl
        · rw [row_snoc]
          refine Lds.mut (xs := bs.map V.ref) (paired_app (Lds.same hB s4) (.cons ?_ .nil)) (s4 _ _ hD)
          rw [upd_same]
          show _ = some (HO.tup [.str (S ((KM.txt ts i).drop k)), .int (i : Int), .int (k : Int)])
          rw [htx]
      · rintro H3 ⟨s3, bs, hD, hB⟩
        refine ⟨F, D, _, _, rfl, rfl, s3 _ _ hF, hD, ?_, fun G nG => ?_⟩
        · have e1 := Paired.length hP
          have e2 := Paired.length hB
          have e3 := length_take_places ts i
          have e4 := ok.sum
          rw [List.length_map, List.length_map, e1, e2, KM.row, List.length_map, List.length_range]
          exact small_le (by omega)
        · have s5 := same_upd (o := .lst (as.map V.ref ++ bs.map V.ref)) nG
          refine ⟨G, _, as ++ bs, rfl, (s1.trans s3).trans s5, ?_, ?_⟩
          · rw [upd_same, List.map_append]
          · rw [KM.places_take ht]
            exact paired_app (Lds.same (Lds.same hP s3) s5) (Lds.same hB s5)
    · rintro σ H1 ⟨F, y2, as, rfl, s1, hF, hP⟩
      rw [List.take_length] at hP
      have hal := Paired.length hP
      have hz1 : (as.zip (KM.places ts)).map (fun z => V.ref z.1) = as.map V.ref := by
        conv => rhs; rw [← List.map_fst_zip (l₁ := as) (l₂ := KM.places ts) (by omega)]
        rw [List.map_map]
        rfl
      have hzo : (as.zip (KM.places ts)).map Prod.snd = KM.places ts := List.map_snd_zip (by omega)
      have hzp : ∀ z ∈ as.zip (KM.places ts), H1 z.1 = some (.tup [.str (S (KM.suf ts z.2)), .int (z.2.1 : Int), .int (z.2.2 : Int)]) := fun z hz => by
        obtain ⟨i, hi⟩ := List.mem_iff_getElem?.mp hz
        obtain ⟨e1, e2⟩ := List.getElem?_zip_eq_some.mp hi
        obtain ⟨p', hp', hap⟩ := paired_getL hP e1
        obtain rfl : p' = z.2 := Option.some.inj (hp'.symm.trans e2)
        exact hap
      refine ⟨_, rfl, F, (as.zip (KM.places ts)).map (fun z => (V.ref z.1, lD (KM.suf ts z.2) (cP z.2))), rfl, ?_, ?_, ?_, ?_, ?_, fun G2 nG2 => ?_⟩
      · rw [List.map_map]
        show SqL _ _ _ ((as.zip (KM.places ts)).map fun z => V.ref z.1)
        rw [hz1]
        exact SqL.of hF
      · intro z hz
        obtain ⟨u, hu, rfl⟩ := List.mem_map.mp hz
        exact .tup (SqT.of (hzp u hu)) (.cons (.str _) (.cons (.int _) (.cons (.int _) .nil)))
      · rw [List.map_map]
        exact PySem.W.AllAlike.of (enc := fun z : Addr × KM.Pl => lD (KM.suf ts z.2) (cP z.2)) fun u v => by simp [lD, alike, PySem.W.alikeAll]
      · rw [List.map_map]
        exact PySem.W.Sortable.tuples (enc := fun z : Addr × KM.Pl => lD (KM.suf ts z.2) (cP z.2)) fun z => ⟨_, _, rfl⟩
      · intro z hz
        obtain ⟨u, hu, rfl⟩ := List.mem_map.mp hz
        simp [lD, PyData.depth, PyData.depthAll]
      have es : (((as.zip (KM.places ts)).map fun z => (V.ref z.1, lD (KM.suf ts z.2) (cP z.2))).mergeSort (dataLe false Prod.snd)).map Prod.fst = (((as.zip (KM.places ts)).mergeSort (dataLe false fun z => lD (KM.suf ts z.2) (cP z.2))).map Prod.fst).map V.ref := by
        rw [← PySem.W.sort_maps (r := dataLe false fun z : Addr × KM.Pl => lD (KM.suf ts z.2) (cP z.2)) (s := dataLe false Prod.snd) (fun z : Addr × KM.Pl => (V.ref z.1, lD (KM.suf ts z.2) (cP z.2))) (fun _ _ _ _ => rfl), List.map_map, List.map_map]
        rfl
      rw [es]
      have hor : IsOrd ts (((as.zip (KM.places ts)).mergeSort (dataLe false fun z => lD (KM.suf ts z.2) (cP z.2))).map Prod.snd) := ord_of_sort (g := Prod.snd) hzo fun a _ b _ => by
        rw [dataLt_lD, zlt_cP]
        exact Iff.rfl
      have hpp : Lds ts H1 (((as.zip (KM.places ts)).mergeSort (dataLe false fun z => lD (KM.suf ts z.2) (cP z.2))).map Prod.fst) (((as.zip (KM.places ts)).mergeSort (dataLe false fun z => lD (KM.suf ts z.2) (cP z.2))).map Prod.snd) :=
        paired_map fun z hz => hzp z ((List.mergeSort_perm _ _).mem_iff.mp hz)
      generalize ((as.zip (KM.places ts)).mergeSort (dataLe false fun z => lD (KM.suf ts z.2) (cP z.2))).map Prod.fst = cs at hpp
      generalize ((as.zip (KM.places ts)).mergeSort (dataLe false fun z => lD (KM.suf ts z.2) (cP z.2))).map Prod.snd = o at hor hpp
      have s4 := same_upd (o := .lst (cs.map V.ref)) nG2
      have hcl := Paired.length hpp
      have hol : o.length ≤ 2000 := by rw [hor.len]; exact ok.sum
      refine ⟨G2, rfl, ⟨_, SqL.of upd_same⟩, fun Lf nLf => lc_list (xs := cs.map V.ref) (fun i H9 => Same (upd H1 G2 (.lst (cs.map V.ref))) H9 ∧ ∃ ds, H9 Lf = some (.lst (ds.map V.ref)) ∧ Pls H9 ds (o.take i)) ⟨same_upd nLf, [], upd_same, .nil⟩ (fun i H9 _ ⟨s9, _⟩ => SqL.of (s9 _ _ upd_same)) ?_ ?_⟩
      · rintro i x H9 hx ⟨s9, ds, hLf, hD⟩
        obtain ⟨a, ha, rfl⟩ := map_get hx
        obtain ⟨p, hp, hap⟩ := paired_getL hpp ha
        have hil := get_lt hp
        refine ⟨a, _, rfl, SqT.of (s9 _ _ (s4 _ _ hap)), rfl, _, _, rfl, _, _, rfl, _, _, rfl, rfl, ?_⟩
        refine ⟨rfl, _, rfl, _, rfl, (by show 2 ≤ sizeLine; decide), fun c nc => ?_⟩
        have s10 := same_upd (o := plV p) nc
        have hLf2 := s10 _ _ hLf
        refine ⟨_, hLf2, ?_, (s9.trans s10).mut nLf, ds ++ [c], ?_, ?_⟩
        · have := Paired.length hD
          rw [List.length_map, this, List.length_take]
          exact small_lt (by omega)
        · rw [upd_same, List.map_append]
          rfl
        · rw [take_succ hp]
          refine Pls.mut (xs := ds.map V.ref) (paired_app (Pls.same hD s10) (.cons ?_ .nil)) hLf2
          rw [upd_same]
      · rintro H9 ⟨s9, ds, hLf, hD⟩
        rw [List.length_map, hcl, List.take_length] at hD
        exact q H9 Lf ds o ((s1.trans s4).trans s9) ((s1.trans s4).free nLf) hLf hor hD
end
end K11

/-! _law_is -/
namespace K11
open PySem PySem.Spec PyProof.Rows L2
theorem walk_zipT {K : PySem.W.Frag} {a b : Addr} {xs ys : List V} {n : Nat} (hn : n = min xs.length ys.length) : Walk (RZ.ItzT K a b) n (fun H => SqT K H a xs ∧ SqT K H b ys) (YPair (fun i => xs[i]?) (fun i => ys[i]?)) := by
  subst hn
  refine ⟨fun i _ hi q => ?_, fun _ q => ⟨xs, ys, q.1, q.2, by omega⟩, fun i H v H' _ q y => ?_⟩
  · have h1 : i < xs.length := by omega
    have h2 : i < ys.length := by omega
    exact ⟨xs, ys, xs[i], ys[i], q.1, q.2, by simp [h1], by simp [h2]⟩
  · obtain ⟨T, x, z, h1, h2, h3, h4, h5⟩ := y
    exact ⟨T, x, z, h1, h2, h3, h4 xs q.1, h5 ys q.2⟩
/-- the two values read the same: n tells how deep -/
def Sd : Nat → Hp → V → V → Prop
  | 0, _, x, y => (∃ i, x = .int i ∧ y = .int i) ∨ ∃ t : Str, x = .str t ∧ y = .str t
  | n + 1, H, x, y => ∃ a b xs ys, x = .ref a ∧ y = .ref b ∧ (H a = some (.lst xs) ∧ H b = some (.lst ys) ∨ H a = some (.tup xs) ∧ H b = some (.tup ys)) ∧ xs.length ≤ 2000 ∧ Paired (Sd n H) xs ys
theorem Sd.same {H H' : Hp} (s : Same H H') : ∀ (n : Nat) (x y : V), Sd n H x y → Sd n H' x y
  | 0, _, _, h => h
  | n + 1, _, _, ⟨a, b, xs, ys, e1, e2, h, hl, hp⟩ => ⟨a, b, xs, ys, e1, e2, h.elim (fun h => .inl ⟨s _ _ h.1, s _ _ h.2⟩) (fun h => .inr ⟨s _ _ h.1, s _ _ h.2⟩), hl, Paired.mapP hp fun _ _ q => Sd.same s n _ _ q⟩
section
variable {P : Program} {w : World} {K : PySem.W.Frag} {mg : Str → Option Value} {base : Heap}
abbrev s_is : Stmt := topS 41
abbrev N_is : List Str := ["_law_told", "_law_due", "_law_one", "_law_two"]
theorem sc_is : FnScope N_is ["_law_told", "_law_due"] (defScope s_is) := ⟨rfl, rfl, rfl, by decide +kernel, rfl, by decide +kernel, by decide +kernel⟩
def sp_is (n : Nat) : Sp := fun vs H Q _ => ∃ x y, vs = [x, y] ∧ Sd n H x y ∧ ∀ H', Same H H' → Q (.bl true) H'
theorem co_is0 {f : Addr} {fd : FuncData} (B : Blt mg) (D : Dn K mg "_law_is" s_is ["_law_told", "_law_due"] f fd) : Co P w K mg base 1 "_law_is" (sp_is 0) := by
  refine Co.mk' D sc_is (fun vs H Q E h => ?_) (fun cdv A outer s H vs Q E hr h => ?_)
  · obtain ⟨x, y, rfl, _⟩ := h
    rfl
  · obtain ⟨x, y, rfl, hd, q⟩ := h
    refine ⟨_, pss_cons (ps_if (pt_val (pe_callB call_isiT (by rfl) B.isi boot_isinstance (pa_cons (pv 1) (pa_cons (pe_tup (pa_cons (pe_bltn (v := .ty "tuple") (by rfl) B.tuple PyProof.Rows.boot_tuple rfl) (pa_cons (pe_bltn (v := .ty "list") (by rfl) B.list PyProof.Rows.boot_list rfl) pa_nil))) pa_nil)))) pss_never pss_nil)
      (pss_one (ps_ret (pe_and (pe_cmpR op_eq (pe_callB call_isi (by rfl) B.isi boot_isinstance (pa_cons (pv 0) (pa_cons (pe_bltn (v := .ty "bool") (by rfl) B.bool PyProof.Rows.boot_bool rfl) pa_nil))) (pe_callB call_isi (by rfl) B.isi boot_isinstance (pa_cons (pv 1) (pa_cons (pe_bltn (v := .ty "bool") (by rfl) B.bool PyProof.Rows.boot_bool rfl) pa_nil))) (nomark _))
        (pe_one (pe_cmpR op_eq (pv 0) (pv 1) (nomark _)))))), ?_⟩
    obtain ⟨T, hx, hy, hs, hxe, k1, k2, k3⟩ : ∃ T : String, (∀ H' : Hp, TyOf K H' x (.type T)) ∧ (∀ H' : Hp, TyOf K H' y (.type T)) ∧ scal x y = true ∧ x = y ∧ kitB T "tuple" = some false ∧ kitB T "list" = some false ∧ kitB T "bool" = some false := by
      rcases hd with ⟨i, rfl, rfl⟩ | ⟨t, rfl, rfl⟩
      · exact ⟨"int", fun _ => .int i, fun _ => .int i, rfl, rfl, by decide +kernel, by decide +kernel, by decide +kernel⟩
      · exact ⟨"str", fun _ => .str t, fun _ => .str t, rfl, rfl, by decide +kernel, by decide +kernel, by decide +kernel⟩
    refine ⟨_, rfl, (by show 2 ≤ sizeLine; decide), fun p hp => ?_⟩
    have s1 := same_upd (o := .tup [.ty "tuple", .ty "list"]) hp
    refine ⟨y, p, [.ty "tuple", .ty "list"], .type T, [.type "tuple", .type "list"], false, rfl, upd_same, .cons (.ty _) (.cons (.ty _) .nil), .base (hy _),
      kitAny_cons (b := false) (kit_ty k1) (fun _ => kitAny_cons (b := false) (kit_ty k2) (fun _ => kitAny_nil) (fun z => nomatch z)) (fun z => nomatch z), false, rfl, iteF ?_⟩
    refine ⟨_, rfl, x, .ty "bool", .type T, .type "bool", false, rfl, .ty "bool", .base (hx _), kit_ty k3, _, rfl, y, .ty "bool", .type T, .type "bool", false, rfl, .ty "bool", .base (hy _), kit_ty k3, rfl, _, rfl, ?_⟩
    refine iteIs (decide_eq_true rfl) ?_
    refine ⟨_, rfl, _, rfl, hs, ?_⟩
    rw [show decide (x = y) = true from decide_eq_true hxe]
    exact q _ s1
theorem co_is {f : Addr} {fd : FuncData} (B : Blt mg) (D : Dn K mg "_law_is" s_is ["_law_told", "_law_due"] f fd) : ∀ n : Nat, Co P w K mg base (n + 1) "_law_is" (sp_is n) := by
  intro n
  induction n with
  | zero => exact co_is0 B D
  | succ n C1 =>
    refine Co.mk' D sc_is (fun vs H Q E h => ?_) (fun cdv A outer s H vs Q E hr h => ?_)
    · obtain ⟨x, y, rfl, _⟩ := h
      rfl
    · obtain ⟨x, y, rfl, hd, q⟩ := h
      have nd := sc_is.nd
      refine ⟨_, pss_cons (ps_if (pt_val (pe_callB call_isiT (by rfl) B.isi boot_isinstance (pa_cons (pv 1) (pa_cons (pe_tup (pa_cons (pe_bltn (v := .ty "tuple") (by rfl) B.tuple PyProof.Rows.boot_tuple rfl) (pa_cons (pe_bltn (v := .ty "list") (by rfl) B.list PyProof.Rows.boot_list rfl) pa_nil))) pa_nil))))
          (pss_cons (ps_if (PW.pt (pw_or (pt_cmpR op_ne (pe_callB call_isi (by rfl) B.isi boot_isinstance (pa_cons (pv 0) (pa_cons (pe_bltn (v := .ty "tuple") (by rfl) B.tuple PyProof.Rows.boot_tuple rfl) pa_nil))) (pe_callB call_isi (by rfl) B.isi boot_isinstance (pa_cons (pv 1) (pa_cons (pe_bltn (v := .ty "tuple") (by rfl) B.tuple PyProof.Rows.boot_tuple rfl) pa_nil))) (nomark _))
            (pw_or1 (pt_not (pt_val (pe_callB call_isiT (by rfl) B.isi boot_isinstance (pa_cons (pv 0) (pa_cons (pe_tup (pa_cons (pe_bltn (v := .ty "tuple") (by rfl) B.tuple PyProof.Rows.boot_tuple rfl) (pa_cons (pe_bltn (v := .ty "list") (by rfl) B.list PyProof.Rows.boot_list rfl) pa_nil))) pa_nil)))))))) pss_never pss_nil)
          (pss_one (ps_ret (pe_and (pe_cmpR op_eq (pe_callB call_len_seq (by rfl) B.len PySem.boot_len (pa_cons (pv 0) pa_nil)) (pe_callB call_len_seq (by rfl) B.len PySem.boot_len (pa_cons (pv 1) pa_nil)) (nomark _))
            (pe_one (pe_callB (cr_all rfl) (by rfl) B.all boot_all (pa_cons (pe_lc (own := [("_law_one", 2), ("_law_two", 3)]) (te := tCo (sp_is n) (tCons (tVar 2) (tCons (tVar 3) tNil))) (g := gTup K 2 (gCons (gName 2) (gCons (gName 3) gNil))) (tt := tYes) rfl nd (RZ.pi_zipA (by rfl) B.zip (pa_cons (pv 0) (pa_cons (pv 1) pa_nil))) (blkOk_by (own := [("_law_one", 2), ("_law_two", 3)]) (N := N_is) (sc := defScope s_is) (by decide +kernel))
              (fun _ _ _ _ _ => pg_tup rfl (pgs_cons (pg_name (i := 2) nd rfl (Or.inl rfl)) (pgs_cons (pg_name (i := 3) nd rfl (Or.inl rfl)) pgs_nil))) (fun _ _ _ _ _ => pts_nil) (fun _ _ _ _ _ => pe_co C1 hr (Nat.le_refl _) (by rfl) (pa_cons (pv 2) (pa_cons (pv 3) pa_nil)))) pa_nil))))))) pss_nil)
        pss_never, ?_⟩
      obtain ⟨a, b, xs, ys, rfl, rfl, hab, hl, hp⟩ := hd
      have hlen := Paired.length hp
      obtain ⟨T, bb, ha, hb, hT, hk, hxs, hys⟩ : ∃ (T : String) (bb : Bool), (∀ H', Same H H' → TyOf K H' (.ref a) (.type T)) ∧ (∀ H', Same H H' → TyOf K H' (.ref b) (.type T)) ∧ kitB T "tuple" = some bb ∧ PySem.W.kitAny K (.type T) [.type "tuple", .type "list"] = some true ∧ (∀ H', Same H H' → SqL K H' a xs ∨ SqT K H' a xs) ∧ ∀ H', Same H H' → SqL K H' b ys ∨ SqT K H' b ys := by
        rcases hab with ⟨h1, h2⟩ | ⟨h1, h2⟩
        · exact ⟨"list", false, fun H' s => .lst (s _ _ h1), fun H' s => .lst (s _ _ h2), by decide +kernel, kitAny_cons (b := false) (kit_ty (by decide +kernel)) (fun _ => kitAny_cons (b := true) (kit_ty (by decide +kernel)) (fun z => nomatch z) (fun _ => rfl)) (fun z => nomatch z), fun H' s => .inl (SqL.of (s _ _ h1)), fun H' s => .inl (SqL.of (s _ _ h2))⟩
        · exact ⟨"tuple", true, fun H' s => .tup (s _ _ h1), fun H' s => .tup (s _ _ h2), by decide +kernel, kitAny_cons (b := true) (kit_ty (by decide +kernel)) (fun z => nomatch z) (fun _ => rfl), fun H' s => .inr (SqT.of (s _ _ h1)), fun H' s => .inr (SqT.of (s _ _ h2))⟩
      refine ⟨_, rfl, (by show 2 ≤ sizeLine; decide), fun p1 hp1 => ?_⟩
      have s1 := same_upd (o := .tup [.ty "tuple", .ty "list"]) hp1
      refine ⟨.ref b, p1, [.ty "tuple", .ty "list"], .type T, [.type "tuple", .type "list"], true, rfl, upd_same, .cons (.ty _) (.cons (.ty _) .nil), .base (hb _ s1), hk, true, rfl, iteT ?_⟩
      refine ⟨_, rfl, .ref a, .ty "tuple", .type T, .type "tuple", bb, rfl, .ty "tuple", .base (ha _ s1), kit_ty hT, _, rfl, .ref b, .ty "tuple", .type T, .type "tuple", bb, rfl, .ty "tuple", .base (hb _ s1), kit_ty hT, rfl, _, rfl, ?_⟩
      refine iteNT (decide_eq_true rfl) ?_
      refine ⟨_, rfl, (by show 2 ≤ sizeLine; decide), fun p2 hp2 => ?_⟩
      have s2 := same_upd (o := .tup [.ty "tuple", .ty "list"]) hp2
      have s3 := s1.trans s2
      refine ⟨.ref a, p2, [.ty "tuple", .ty "list"], .type T, [.type "tuple", .type "list"], true, rfl, upd_same, .cons (.ty _) (.cons (.ty _) .nil), .base (ha _ s3), hk, true, rfl, iteF ?_⟩
      generalize upd (upd H p1 (.tup [.ty "tuple", .ty "list"])) p2 (.tup [.ty "tuple", .ty "list"]) = H3 at s3
      refine ⟨_, rfl, a, xs, rfl, hxs _ s3, _, rfl, b, ys, rfl, hys _ s3, rfl, _, rfl, ?_⟩
      refine iteIs (decide_eq_true (by rw [hlen])) ?_
      rcases hab with ⟨h1, h2⟩ | ⟨h1, h2⟩
      · replace h1 := s3 _ _ h1
        replace h2 := s3 _ _ h2
        refine ⟨_, rfl, _, rfl, a, b, xs, ys, rfl, ?_⟩
        refine .inl ⟨SqL.of h1, SqL.of h2, fun D0 nD0 => lc_it (walk_zip (K := K) (a := a) (b := b) (xs := xs) (ys := ys) (n := xs.length) (by omega)) (fun i H4 => Same H3 H4 ∧ H4 D0 = some (.lst ((List.replicate i true).map V.bl))) ⟨same_upd nD0, upd_same⟩ (fun i H4 _ ⟨s4, _⟩ => ⟨SqL.of (s4 _ _ h1), SqL.of (s4 _ _ h2)⟩) ?_ ?_⟩
        · rintro i x H4 H5 hi ⟨s4, hD⟩ ⟨U, u, v, rfl, nU, rfl, hu, hv⟩
          replace hu : xs[i]? = some u := hu
          replace hv : ys[i]? = some v := hv
          have huv : Sd n H u v := by
            obtain ⟨v', hv', hr⟩ := paired_getL hp hu
            obtain rfl : v' = v := Option.some.inj (hv'.symm.trans hv)
            exact hr
          have s5 := same_upd (o := .tup [u, v]) nU
          refine ⟨U, _, rfl, SqT.of upd_same, rfl, _, _, rfl, _, _, rfl, rfl, rfl, _, rfl, _, rfl, u, v, rfl, Sd.same ((s3.trans s4).trans s5) n u v huv, fun H6 s6 => ?_⟩
          refine ⟨_, s6 _ _ (s5 _ _ hD), ?_, ((s4.trans s5).trans s6).mut nD0, ?_⟩
          · rw [List.length_map, List.length_replicate]
            exact small_lt (by omega)
          · rw [upd_same, List.replicate_succ', List.map_append]
            rfl
        · rintro H4 ⟨s4, hD⟩
          refine ⟨D0, _, rfl, SqL.of hD, ?_⟩
          have e : (List.replicate xs.length true).all id = true := by simp
          rw [e]
          exact q _ (s3.trans s4)
      · replace h1 := s3 _ _ h1
        replace h2 := s3 _ _ h2
        refine ⟨_, rfl, _, rfl, a, b, xs, ys, rfl, ?_⟩
        refine .inr ⟨SqT.of h1, SqT.of h2, fun D0 nD0 => lc_it (walk_zipT (K := K) (a := a) (b := b) (xs := xs) (ys := ys) (n := xs.length) (by omega)) (fun i H4 => Same H3 H4 ∧ H4 D0 = some (.lst ((List.replicate i true).map V.bl))) ⟨same_upd nD0, upd_same⟩ (fun i H4 _ ⟨s4, _⟩ => ⟨SqT.of (s4 _ _ h1), SqT.of (s4 _ _ h2)⟩) ?_ ?_⟩
        · rintro i x H4 H5 hi ⟨s4, hD⟩ ⟨U, u, v, rfl, nU, rfl, hu, hv⟩
          replace hu : xs[i]? = some u := hu
          replace hv : ys[i]? = some v := hv
          have huv : Sd n H u v := by
            obtain ⟨v', hv', hr⟩ := paired_getL hp hu
            obtain rfl : v' = v := Option.some.inj (hv'.symm.trans hv)
            exact hr
          have s5 := same_upd (o := .tup [u, v]) nU
          refine ⟨U, _, rfl, SqT.of upd_same, rfl, _, _, rfl, _, _, rfl, rfl, rfl, _, rfl, _, rfl, u, v, rfl, Sd.same ((s3.trans s4).trans s5) n u v huv, fun H6 s6 => ?_⟩
          refine ⟨_, s6 _ _ (s5 _ _ hD), ?_, ((s4.trans s5).trans s6).mut nD0, ?_⟩
          · rw [List.length_map, List.length_replicate]
            exact small_lt (by omega)
          · rw [upd_same, List.replicate_succ', List.map_append]
            rfl
        · rintro H4 ⟨s4, hD⟩
          refine ⟨D0, _, rfl, SqL.of hD, ?_⟩
          have e : (List.replicate xs.length true).all id = true := by simp
          rw [e]
          exact q _ (s3.trans s4)
end
end K11

/-! What the law needs: facts that draws leave, the least between two ranks. -/
namespace K11
open PySem PySem.Spec PyProof.Rows L2
theorem Hnd.tup {H : Hp} {h l a : Addr} {xs : List V} (n : Hnd H h l) (e : H a = some (.tup xs)) : a ≠ h := by
  obtain ⟨ns, b, c, d, f, hn⟩ := n
  exact ne_of e hn.at_ (by intro z; cases z)
theorem Lib.go {C h l lb tt : Addr} {H H' : Hp} {ts : List Tx} (L : Lib C H lb tt ts) (n : Hnd H h l) (s : Sm h H H') : Lib C H' lb tt ts := by
  obtain ⟨dx, ho⟩ := L.ob
  refine ⟨⟨dx, s _ _ ho ?_⟩, s _ _ L.tx (n.tup L.tx), L.ok⟩
  obtain ⟨ns, b, c, d, f, hn⟩ := n
  exact ne_of ho hn.at_ (by intro z; cases z)
theorem Pls.go {h l : Addr} {H H' : Hp} {as : List Addr} {ps : List KM.Pl} (p : Pls H as ps) (n : Hnd H h l) (s : Sm h H H') : Pls H' as ps := Paired.mapP p fun _ _ e => s _ _ e (n.tup e)
/-- what stays through the law's rounds -/
structure Fa (C h l lb tt G : Addr) (as : List Addr) (ts : List Tx) (o : List KM.Pl) (H : Hp) : Prop where
  hd : Hnd H h l
  lb : Lib C H lb tt ts
  du : H G = some (.lst (as.map V.ref))
  ne : G ≠ h
  pl : Pls H as o
theorem Fa.same {C h l lb tt G : Addr} {as : List Addr} {ts : List Tx} {o : List KM.Pl} {H H' : Hp} (f : Fa C h l lb tt G as ts o H) (s : Same H H') : Fa C h l lb tt G as ts o H' :=
  ⟨f.hd.same s, f.lb.same s, s _ _ f.du, f.ne, Pls.same f.pl s⟩
theorem Fa.go {C h l lb tt G : Addr} {as : List Addr} {ts : List Tx} {o : List KM.Pl} {H H' : Hp} (f : Fa C h l lb tt G as ts o H) (g : Go h l H H') : Fa C h l lb tt G as ts o H' :=
  ⟨g.hd, f.lb.go f.hd g.sm, g.sm _ _ f.du f.ne, f.ne, Pls.go f.pl f.hd g.sm⟩
theorem sd_pls {H : Hp} : ∀ {as bs : List Addr} {ps : List KM.Pl}, Pls H as ps → Pls H bs ps → Paired (Sd 1 H) (as.map V.ref) (bs.map V.ref)
  | _, _, _, .nil, .nil => .nil
  | _, _, _, .cons h t, .cons h' t' => .cons ⟨_, _, _, _, rfl, rfl, .inr ⟨h, h'⟩, (by show 2 ≤ 2000; decide), .cons (.inl ⟨_, rfl, rfl⟩) (.cons (.inl ⟨_, rfl, rfl⟩) .nil)⟩ (sd_pls t t')
theorem sd_ints {H : Hp} : ∀ ns : List Int, Paired (Sd 0 H) (ns.map V.int) (ns.map V.int)
  | [] => .nil
  | n :: ns => .cons (.inl ⟨n, rfl, rfl⟩) (sd_ints ns)
/-- the stretch of lengths between two ranks -/
def stretch (ts : List Tx) (o : List KM.Pl) (a b : Nat) : List Int := ((lens ts o).drop (a + 1)).take (b - a)
theorem lens_get {ts : List Tx} {o : List KM.Pl} {k : Nat} (h : k < o.length) : (lens ts o)[k]? = some (lenAt ts o k : Int) := by
  unfold lens
  rw [List.getElem?_map, List.getElem?_range h]
  rfl
theorem lens_len (ts : List Tx) (o : List KM.Pl) : (lens ts o).length = o.length := by
  unfold lens
  rw [List.length_map, List.length_range]
theorem stretch_len {ts : List Tx} {o : List KM.Pl} {a b : Nat} (hab : a < b) (hb : b < o.length) : (stretch ts o a b).length = b - a := by
  unfold stretch
  rw [List.length_take, List.length_drop, lens_len]
  omega
theorem stretch_get {ts : List Tx} {o : List KM.Pl} {a b k : Nat} (hk : k < b - a) (hb : b < o.length) : (stretch ts o a b)[k]? = some (lenAt ts o (a + 1 + k) : Int) := by
  unfold stretch
  rw [List.getElem?_take_of_lt hk, List.getElem?_drop, lens_get (by omega)]
theorem cut_stretch (ts : List Tx) (o : List KM.Pl) {a b : Nat} (hab : a < b) (hb : b < o.length) : cutV ((lens ts o).map V.int) (some ((a + 1 : Nat) : Int)) (some ((b + 1 : Nat) : Int)) = (stretch ts o a b).map V.int := by
  unfold cutV stretch
  rw [HT.sIx_nat, HT.sIx_nat, List.length_map, lens_len, Nat.min_eq_left (by omega), Nat.min_eq_left (by omega), List.map_take, List.map_drop]
  congr 1
  omega
/-- the least of the lengths between two ranks is what the two have in common -/
theorem stretch_min {ts : List Tx} {o : List KM.Pl} (ho : IsOrd ts o) {a b : Nat} (hab : a < b) {p q : KM.Pl} (hp : o[a]? = some p) (hq : o[b]? = some q) {m : Int} (hm : m ∈ stretch ts o a b) (hle : ∀ y ∈ stretch ts o a b, m ≤ y) : m = (KM.lcp (KM.suf ts p) (KM.suf ts q) : Nat) := by
  have hb : b < o.length := get_lt hq
  have hs : (o.map (KM.suf ts)).Pairwise fun a b => ¬ b < a := by
    rw [List.pairwise_map]
    refine ho.rise.imp fun {x y} h => ?_
    rcases h with h | ⟨e, _⟩
    · exact KM.lt_asym h
    · rw [e]
      exact KM.lt_irr _
  have ga : (o.map (KM.suf ts))[a]? = some (KM.suf ts p) := by rw [List.getElem?_map, hp]; rfl
  have gb : (o.map (KM.suf ts))[a + (b - a - 1) + 1]? = some (KM.suf ts q) := by
    rw [show a + (b - a - 1) + 1 = b by omega, List.getElem?_map, hq]
    rfl
  obtain ⟨⟨k, x, y, k1, k2, kx, ky, ke⟩, hall⟩ := KM.lcp_span hs ga gb
  have at_ : ∀ k x y, a < k → (o.map (KM.suf ts))[k - 1]? = some x → (o.map (KM.suf ts))[k]? = some y → lenAt ts o k = KM.lcp x y := by
    intro k x y hk hx hy
    obtain ⟨x', hx', rfl⟩ := map_get hx
    obtain ⟨y', hy', rfl⟩ := map_get hy
    unfold lenAt
    rw [if_neg (by omega), getD_some hx', getD_some hy']
  have h1 : (KM.lcp (KM.suf ts p) (KM.suf ts q) : Int) ∈ stretch ts o a b := by
    have := stretch_get (ts := ts) (o := o) (a := a) (b := b) (k := k - (a + 1)) (by omega) hb
    rw [show a + 1 + (k - (a + 1)) = k by omega, at_ k x y k1 kx ky, ke] at this
    exact List.mem_of_getElem? this
  have h2 := hle _ h1
  obtain ⟨j, hj⟩ := List.mem_iff_getElem?.mp hm
  have hjl := get_lt hj
  rw [stretch_len hab hb] at hjl
  rw [stretch_get hjl hb] at hj
  have e3 : (lenAt ts o (a + 1 + j) : Int) = m := Option.some.inj hj
  have g1 : (o.map (KM.suf ts))[a + 1 + j - 1]? = some (KM.suf ts (o[a + 1 + j - 1]'(by omega))) := by rw [List.getElem?_map, List.getElem?_eq_getElem (by omega)]; rfl
  have g2 : (o.map (KM.suf ts))[a + 1 + j]? = some (KM.suf ts (o[a + 1 + j]'(by omega))) := by rw [List.getElem?_map, List.getElem?_eq_getElem (by omega)]; rfl
  have h3 := hall (a + 1 + j) _ _ (by omega) (by omega) g1 g2
  rw [← at_ _ _ _ (by omega) g1 g2] at h3
  omega
end K11

/-! law -/
namespace K11
open PySem PySem.Spec PyProof.Rows L2
abbrev s_law : Stmt := topS 50
abbrev N_law : List Str := ["_law_script", "_law_hand_here", "_law_texts_here", "_law_library", "_law_due", "_law_told", "_law_commons", "_law_turn", "_law_one", "_law_other", "_law_shared", "_law_both"]
theorem sc_law : FnScope N_law ["_law_script"] (defScope s_law) := ⟨rfl, rfl, rfl, by decide +kernel, rfl, by decide +kernel, by decide +kernel⟩
theorem sum_le_mul {m : Nat} : ∀ {l : List Nat}, (∀ x ∈ l, x ≤ m) → l.sum ≤ l.length * m
  | [], _ => by simp
  | x :: l, h => by
    have := sum_le_mul (l := l) fun y hy => h y (List.mem_cons_of_mem _ hy)
    have h1 := h x List.mem_cons_self
    rw [List.sum_cons, List.length_cons, Nat.succ_mul]
    omega
abbrev txD (t : Tx) : PyData := .str (S t)
theorem dp_txts {K : PySem.W.Frag} {H : Hp} : ∀ ts : List Tx, DpAll K H (tv ts) (ts.map txD)
  | [] => .nil
  | t :: ts => .cons (.str _) (dp_txts ts)
theorem eqv_txts : ∀ ts : List Tx, PyData.eqvAll (ts.map txD) (ts.map txD) = true
  | [] => by simp [PyData.eqvAll]
  | t :: ts => by
    rw [List.map_cons]
    simp only [PyData.eqvAll]
    rw [eqv_S, eqv_txts ts]
    simp
theorem depth_txts : ∀ ts : List Tx, PyData.depthAll (ts.map txD) = 0
  | [] => by simp [PyData.depthAll]
  | t :: ts => by
    have := depth_txts ts
    rw [List.map_cons]
    simp only [PyData.depthAll, PyData.depth]
    omega
theorem strOk_S {t : Tx} (h : ∀ c ∈ t, isSign c) : PyData.strOk (S t) = true := by
  unfold PyData.strOk S
  rw [← Array.all_toList, List.all_eq_true]
  intro c hc
  have := (h c hc).2
  exact decide_eq_true (by omega)
theorem can_txts : ∀ ts : List Tx, (∀ t ∈ ts, ∀ c ∈ t, isSign c) → PyData.canLayAll0 (ts.map txD) = true
  | [], _ => by simp [PyData.canLayAll0]
  | t :: ts, h => by
    have h1 := strOk_S (h t List.mem_cons_self)
    have h2 := can_txts ts fun u hu => h u (List.mem_cons_of_mem _ hu)
    rw [List.map_cons]
    simp [PyData.canLayAll0, h2, PyData.canLay0, h1]
theorem shaped_txts {ts : List Tx} (h : ∀ t ∈ ts, ∀ c ∈ t, isSign c) : SeqAt.shaped (.tuple (ts.map txD)) = true := by
  have := depth_txts ts
  have h2 := can_txts ts h
  unfold SeqAt.shaped
  simp only [PyData.canLay0, PyData.depth]
  rw [h2, Bool.true_and]
  exact decide_eq_true (by omega)
/-- the functions that the law calls -/
structure Fs (P : Program) (w : World) (K : PySem.W.Frag) (mg : Str → Option Value) (base : Heap) (C : Addr) : Prop where
  hand : Co P w K mg base 1 "_law_hand" (sp_hand K)
  texts : Co P w K mg base 5 "_law_texts" sp_texts
  draw : Co P w K mg base 1 "_law_draw" sp_draw
  text : Co P w K mg base 4 "_law_text" sp_text
  order : Co P w K mg base 1 "_law_order" sp_lorder
  ends : Co P w K mg base 3 "endings" (sp_order_of C)
  llens : Co P w K mg base 2 "_law_lengths" sp_llengths
  is1 : Co P w K mg base 2 "_law_is" (sp_is 1)
  is2 : Co P w K mg base 3 "_law_is" (sp_is 2)
  lens : Co P w K mg base 4 "lengths" (sp_lengths C)
  isord : Co P w K mg base 6 "is_order" (sp_order_fault C (.bl true))
  ending : Co P w K mg base 6 "ending" (sp_ending_at C)
  rank : Co P w K mg base 6 "rank" (sp_rank C)
  lending : Co P w K mg base 1 "_law_ending" sp_lending
  lcommon : Co P w K mg base 1 "_law_common" sp_common_of
  common : Co P w K mg base 6 "common" (sp_common_at C)
section
variable {P : Program} {w : World} {K : PySem.W.Frag} {mg : Str → Option Value} {base : Heap}
def spLaw (K : PySem.W.Frag) : Sp := fun vs H Q _ => ∃ (a : Addr) (ns : List Int), vs = [.ref a] ∧ SqL K H a (ns.map V.int) ∧ ns.length ≤ 63 ∧ ∀ H', Q (.bl true) H'
theorem ok_law {f fi C : Addr} {fd fdi : FuncData} (B : Blt mg) (T : LC K mg C) (M : Mk K C fi) (FI : FnOk P w K mg base L2.CX0 3 fi fdi ["self", "texts"] (sp_init C)) (bI : Binds K fdi ["self", "texts"] []) (A1 : Fs P w K mg base C)
    (F : L2.Fun K "law" "law" s_law f fd) : FnOk P w K mg base L2.CX0 7 f fd ["_law_script"] (spLaw K) := by
  refine F.ok sc_law (fun vs H Q E h => ?_) (fun cdv A outer s H vs Q E hr h => ?_)
  · obtain ⟨a, ns, rfl, _⟩ := h
    rfl
  · obtain ⟨a, ns, rfl, ha, hns, q⟩ := h
    have nd := sc_law.nd
    obtain ⟨u, hu, ku⟩ : ∃ u, PSs (cxOf L2.CX0 P w K mg base N_law "law" (defScope s_law) f cdv A outer s H E).nox ((defBody s_law).drop 3) u ∧
        ∀ (h l tt : Addr) (ts : List Tx) (H1 : Hp), Okt ts → H1 tt = some (.tup (tv ts)) → Hnd H1 h l → u { nx := fun _ H' => Q .non H', rt := Q } [some (.ref a), some (.ref h), some (.ref tt), none, none, none, none, none, none, none, none, none] H1 := by
      refine ⟨_, pss_cons (ps_set (i := 3) nd rfl (.inl rfl) (pe_make M FI (hr.mono (by decide)) (by rfl) T.g bI .nil L2.pass0 (pa_cons (pv 2) pa_nil)))
        (pss_cons (ps_set (i := 4) nd rfl (.inl rfl) (pe_co A1.order hr (by decide) (by rfl) (pa_cons (pv 2) pa_nil)))
        (pss_cons (ps_set (i := 5) nd rfl (.inl rfl) (pe_co A1.ends hr (by decide) (by rfl) (pa_cons (pv 3) pa_nil)))
        (pss_cons (ps_set (i := 6) nd rfl (.inl rfl) (pe_co A1.llens hr (by decide) (by rfl) (pa_cons (pv 2) (pa_cons (pv 4) pa_nil))))
        (pss_cons (ps_if (PW.pt (pw_or (pt_not (pt_val (pe_co A1.is2 hr (by decide) (by rfl) (pa_cons (pv 5) (pa_cons (pv 4) pa_nil))))) (pw_or (pt_not (pt_val (pe_co A1.is1 hr (by decide) (by rfl) (pa_cons (pe_co A1.lens hr (by decide) (by rfl) (pa_cons (pv 3) pa_nil)) (pa_cons (pv 6) pa_nil))))) (pw_or1 (pt_not (pt_val (pe_co A1.isord hr (by decide) (by rfl) (pa_cons (pv 3) (pa_cons (pv 5) pa_nil))))))))) pss_never pss_nil)
        (pss_cons (ps_expr (pe_bm PySem.F.plainAttrs_list PySem.F.slot_list_append PySem.type_list_append mt_append (pv 5) (pa_cons (pe_tup (pa_cons (pe_int) (pa_cons (pe_int) pa_nil))) pa_nil)))
        (pss_cons (ps_for PassesOwn.never rfl (pi_range1 (by rfl) B.range (pa_cons (pe_callB (call_min2 rfl) (by rfl) B.min boot_min (pa_cons (pe_callB call_len_seq (by rfl) B.len PySem.boot_len (pa_cons (pv 4) pa_nil)) (pa_cons (pe_int) pa_nil))) pa_nil)) (pg_name (i := 7) nd rfl (.inl rfl)) (pss_cons (ps_set (i := 8) nd rfl (.inl rfl) (pe_co A1.draw hr (by decide) (by rfl) (pa_cons (pv 1) (pa_cons (pe_callB call_len_seq (by rfl) B.len PySem.boot_len (pa_cons (pv 4) pa_nil)) pa_nil))))
        (pss_cons (ps_set (i := 9) nd rfl (.inl rfl) (pe_co A1.draw hr (by decide) (by rfl) (pa_cons (pv 1) (pa_cons (pe_callB call_len_seq (by rfl) B.len PySem.boot_len (pa_cons (pv 4) pa_nil)) pa_nil))))
        (pss_cons (ps_if (pt_not (pt_val (pe_co A1.is1 hr (by decide) (by rfl) (pa_cons (pe_tup (pa_cons (pe_co A1.ending hr (by decide) (by rfl) (pa_cons (pv 3) (pa_cons (pe_ix ix_list (pv 4) (pv 8) (fun _ _ => rfl)) pa_nil))) (pa_cons (pe_co A1.rank hr (by decide) (by rfl) (pa_cons (pv 3) (pa_cons (pe_ix ix_list (pv 4) (pv 8) (fun _ _ => rfl)) pa_nil))) pa_nil))) (pa_cons (pe_tup (pa_cons (pe_co A1.lending hr (by decide) (by rfl) (pa_cons (pv 2) (pa_cons (pe_ix ix_list (pv 4) (pv 8) (fun _ _ => rfl)) pa_nil))) (pa_cons (pv 8) pa_nil))) pa_nil))))) pss_never pss_nil)
        (pss_cons (ps_set (i := 10) nd rfl (.inl rfl) (pe_co A1.lcommon hr (by decide) (by rfl) (pa_cons (pe_co A1.lending hr (by decide) (by rfl) (pa_cons (pv 2) (pa_cons (pe_ix ix_list (pv 4) (pv 8) (fun _ _ => rfl)) pa_nil))) (pa_cons (pe_co A1.lending hr (by decide) (by rfl) (pa_cons (pv 2) (pa_cons (pe_ix ix_list (pv 4) (pv 9) (fun _ _ => rfl)) pa_nil))) pa_nil))))
        (pss_cons (ps_set (i := 11) nd rfl (.inl rfl) (pe_tup (pa_cons (pe_co A1.common hr (by decide) (by rfl) (pa_cons (pv 3) (pa_cons (pe_ix ix_list (pv 4) (pv 8) (fun _ _ => rfl)) (pa_cons (pe_ix ix_list (pv 4) (pv 9) (fun _ _ => rfl)) pa_nil)))) (pa_cons (pe_co A1.common hr (by decide) (by rfl) (pa_cons (pv 3) (pa_cons (pe_ix ix_list (pv 4) (pv 9) (fun _ _ => rfl)) (pa_cons (pe_ix ix_list (pv 4) (pv 8) (fun _ _ => rfl)) pa_nil)))) pa_nil))))
        (pss_cons (ps_if (pt_not (pt_val (pe_co A1.is1 hr (by decide) (by rfl) (pa_cons (pv 11) (pa_cons (pe_tup (pa_cons (pv 10) (pa_cons (pv 10) pa_nil))) pa_nil))))) pss_never pss_nil)
        (pss_one (ps_if (PW.pt (pw_and (pt_cmpR op_ne (pv 8) (pv 9) (nomark _)) (pw_and1 (pt_cmpR op_ne (pv 10) (pe_callB (cr_min rfl) (by rfl) B.min boot_min (pa_cons (pe_slice sl_list (pe_co A1.lens hr (by decide) (by rfl) (pa_cons (pv 3) pa_nil)) (po_some (pe_op op_add (pe_callB (call_min2 rfl) (by rfl) B.min boot_min (pa_cons (pv 8) (pa_cons (pv 9) pa_nil))) pe_int)) (po_some (pe_op op_add (pe_callB (call_max2 rfl) (by rfl) B.max boot_max (pa_cons (pv 8) (pa_cons (pv 9) pa_nil))) pe_int))) pa_nil)) (nomark _))))) pss_never pss_nil)))))))))
        (pss_one (ps_ret (pe_and (pe_co A1.is2 hr (by decide) (by rfl) (pa_cons (pe_co A1.ends hr (by decide) (by rfl) (pa_cons (pv 3) pa_nil)) (pa_cons (pv 4) pa_nil))) (pe_one (pe_cmpR (op_eqD hr.units) (pe_fld (pv 3) rfl) (pv 2) (nomark _)))))))))))), ?_⟩
      intro h l tt ts H1 ok htt hh
      refine ⟨_, rfl, fun x dx nx ndx hne => ⟨x, dx, tt, ts, rfl, upd_same, by rw [upd_ne (ne_of_none htt nx), upd_ne (ne_of_none htt ndx)]; exact htt, ok, fun H2 LB keep => ⟨rfl, ?_⟩⟩⟩
      have s2 : Same H1 H2 := fun b o e => keep b o (by rw [upd_ne (ne_of_none e nx), upd_ne (ne_of_none e ndx)]; exact e) (ne_of_none e nx)
      have hh2 := hh.same s2
      refine ⟨_, rfl, tt, ts, rfl, LB.tx, ok, fun H3 G as o s3 nG hG ho hP => ?_⟩
      have fa3 : Fa C h l x tt G as ts o H3 := ⟨hh2.same s3, LB.same s3, hG, (hh2.new nG).1, hP⟩
      have hal := Paired.length hP
      have hol : o.length ≤ 2000 := by rw [ho.len]; exact ok.sum
      refine ⟨_, rfl, x, tt, ts, rfl, fa3.lb, fun H4 F1 bs o' s4 nF hF ho' hB => ?_⟩
      obtain rfl := ho'.uniq ho
      have fa4 := fa3.same s4
      refine ⟨_, rfl, _, rfl, tt, G, ts, as, o', rfl, fa4.lb.tx, ok, fa4.du, fa4.pl, fun p hp => ho.mem.mp hp, hol, fun H5 W s5 nW hW => ?_⟩
      have fa5 := fa4.same s5
      refine ⟨_, rfl, _, rfl, .ref F1, .ref G, rfl, ⟨F1, G, _, _, rfl, rfl, .inl ⟨s5 _ _ hF, fa5.du⟩, by rw [List.length_map, Paired.length hB]; exact hol, sd_pls (Pls.same hB s5) fa5.pl⟩, fun H6 s6 => ⟨true, rfl, iteF ?_⟩⟩
      have fa6 := fa5.same s6
      refine ⟨_, rfl, x, tt, ts, rfl, fa6.lb, fun H7 Y o2 s7 nY ho2 hY => ?_⟩
      obtain rfl := ho2.uniq ho
      have fa7 := fa6.same s7
      have s57 := s6.trans s7
      refine ⟨_, rfl, .ref Y, .ref W, rfl, ⟨Y, W, _, _, rfl, rfl, .inl ⟨hY, s57 _ _ hW⟩, by rw [List.length_map, lens_len]; exact hol, sd_ints _⟩, fun H8 s8 => ⟨true, rfl, iteF ?_⟩⟩
      have fa8 := fa7.same s8
      have s48 := (s5.trans s57).trans s8
      refine ⟨_, rfl, _, rfl, x, tt, F1, ts, bs, o2, rfl, fa8.lb, s48 _ _ hF, Pls.same hB s48, ho, fun H9 s9 => ⟨true, rfl, iteF ?_⟩⟩
      have s49 := s48.trans s9
      refine ⟨_, rfl, .inl ⟨rfl, _, SqL.of (s49 _ _ hF)⟩, (by show 2 ≤ sizeLine; decide), fun p np => ?_⟩
      have s10 := same_upd (o := .tup [.int 9, .int 9]) np
      refine ⟨F1, _, _, rfl, rfl, s10 _ _ (s49 _ _ hF), by rw [List.length_map, Paired.length hB]; exact small_lt (by omega), ?_⟩
      have fa11 := fa3.same (((s4.trans s49).trans s10).mut (o := .lst (bs.map V.ref ++ [.ref p])) nF)
      generalize upd (upd H9 p (.tup [.int 9, .int 9])) F1 (.lst (bs.map V.ref ++ [.ref p])) = H11 at fa11
      refine ⟨_, rfl, G, as.map V.ref, rfl, .inl (SqL.of fa11.du), _, 6, rfl, _, rfl, ?_, ?_, ?_⟩
      · rw [List.length_map]
        split <;> omega
      · rw [List.length_map]
        split <;> omega
      refine for_range (fun i σ H => ∃ y7 y8 y9 y10 y11, σ = [some (.ref a), some (.ref h), some (.ref tt), some (.ref x), some (.ref G), some (.ref F1), some (.ref W), y7, y8, y9, y10, y11] ∧ Fa C h l x tt G as ts o2 H) ⟨none, none, none, none, none, rfl, fa11⟩ ?_ ?_
      · rintro i σ H12 hi ⟨y7, y8, y9, y10, y11, rfl, fa⟩
        have hpos : 0 < o2.length := by
          rw [List.length_map, hal] at hi
          split at hi <;> omega
        have hcast : ((as.map V.ref).length : Int) = (o2.length : Int) := by rw [List.length_map, hal]
        refine ⟨_, rfl, _, rfl, G, as.map V.ref, rfl, .inl (SqL.of fa.du), h, l, _, rfl, fa.hd, by omega, by omega, fun H13 d1 g1 d10 d11 => ?_⟩
        have fa1 := fa.go g1
        refine ⟨_, rfl, _, rfl, G, as.map V.ref, rfl, .inl (SqL.of fa1.du), h, l, _, rfl, fa1.hd, by omega, by omega, fun H14 d2 g2 d20 d21 => ?_⟩
        have fb := fa1.go g2
        obtain ⟨j1, rfl⟩ : ∃ j : Nat, d1 = (j : Int) := ⟨d1.toNat, by omega⟩
        obtain ⟨j2, rfl⟩ : ∃ j : Nat, d2 = (j : Int) := ⟨d2.toNat, by omega⟩
        have hj1 : j1 < o2.length := by omega
        have hj2 : j2 < o2.length := by omega
        have gp1 : o2[j1]? = some o2[j1] := List.getElem?_eq_getElem hj1
        have gp2 : o2[j2]? = some o2[j2] := List.getElem?_eq_getElem hj2
        obtain ⟨a1, ga1, ha1⟩ := paired_get fb.pl gp1
        obtain ⟨a2, ga2, ha2⟩ := paired_get fb.pl gp2
        have at1 : atI (as.map V.ref) (j1 : Int) = some (.ref a1) := atI_nat (by rw [List.getElem?_map, ga1]; rfl)
        have at2 : atI (as.map V.ref) (j2 : Int) = some (.ref a2) := atI_nat (by rw [List.getElem?_map, ga2]; rfl)
        have ip1 := ho.mem.mp (List.mem_of_getElem? gp1)
        have ip2 := ho.mem.mp (List.mem_of_getElem? gp2)
        generalize hp1 : o2[j1] = p1 at gp1 ha1 ip1
        generalize hp2 : o2[j2] = p2 at gp2 ha2 ip2
        -- ending and rank
        refine ⟨_, rfl, _, rfl, _, rfl, G, as.map V.ref, _, .ref a1, rfl, rfl, SqL.of fb.du, at1, x, tt, a1, ts, p1, rfl, fb.lb, ha1, ip1, ?_⟩
        refine ⟨_, rfl, _, rfl, _, rfl, G, as.map V.ref, _, .ref a1, rfl, rfl, SqL.of fb.du, at1, x, tt, a1, ts, p1, rfl, fb.lb, ha1, ip1, fun H15 o3 i3 s15 ho3 hi3 => ?_⟩
        obtain rfl := ho3.uniq ho
        have ei : i3 = j1 := (List.getElem?_inj (get_lt hi3) ho3.nodup).mp (hi3.trans gp1.symm)
        subst ei
        have fc := fb.same s15
        refine ⟨(by show 2 ≤ sizeLine; decide), fun c1 nc1 => ?_⟩
        have s16 := same_upd (o := .tup [.str (S (KM.suf ts p1)), .int (i3 : Int)]) nc1
        have fd := fc.same s16
        refine ⟨_, rfl, _, rfl, _, rfl, G, as.map V.ref, _, .ref a1, rfl, rfl, SqL.of fd.du, at1, tt, a1, ts, p1, rfl, fd.lb.tx, ok, s16 _ _ (s15 _ _ ha1), ip1, _, rfl, (by show 2 ≤ sizeLine; decide), fun c2 nc2 => ?_⟩
        have s17 := same_upd (o := .tup [.str (S (KM.suf ts p1)), .int (i3 : Int)]) nc2
        refine ⟨.ref c1, .ref c2, rfl, ⟨c1, c2, _, _, rfl, rfl, .inr ⟨s17 _ _ upd_same, upd_same⟩, (by show 2 ≤ 2000; decide), .cons (.inr ⟨_, rfl, rfl⟩) (.cons (.inl ⟨_, rfl, rfl⟩) .nil)⟩, fun H18 s18 => ⟨true, rfl, iteF ?_⟩⟩
        have s58 := ((s15.trans s16).trans s17).trans s18
        have fe := fb.same s58
        replace ha1 := s58 _ _ ha1
        replace ha2 := s58 _ _ ha2
        -- shared
        refine ⟨_, rfl, _, rfl, _, rfl, G, as.map V.ref, _, .ref a1, rfl, rfl, SqL.of fe.du, at1, tt, a1, ts, p1, rfl, fe.lb.tx, ok, ha1, ip1, ?_⟩
        refine ⟨_, rfl, _, rfl, _, rfl, G, as.map V.ref, _, .ref a2, rfl, rfl, SqL.of fe.du, at2, tt, a2, ts, p2, rfl, fe.lb.tx, ok, ha2, ip2, ?_⟩
        refine ⟨_, _, rfl, suf_len ok ip1, suf_len ok ip2, ?_⟩
        -- both
        refine ⟨_, rfl, _, rfl, _, rfl, G, as.map V.ref, _, .ref a1, rfl, rfl, SqL.of fe.du, at1, _, rfl, _, rfl, G, as.map V.ref, _, .ref a2, rfl, rfl, SqL.of fe.du, at2, x, tt, a1, a2, ts, p1, p2, rfl, fe.lb, ha1, ha2, ip1, ip2, ?_⟩
        refine ⟨_, rfl, _, rfl, _, rfl, G, as.map V.ref, _, .ref a2, rfl, rfl, SqL.of fe.du, at2, _, rfl, _, rfl, G, as.map V.ref, _, .ref a1, rfl, rfl, SqL.of fe.du, at1, x, tt, a2, a1, ts, p2, p1, rfl, fe.lb, ha2, ha1, ip2, ip1, ?_⟩
        rw [KM.lcp_comm (KM.suf ts p2) (KM.suf ts p1)]
        refine ⟨(by show 2 ≤ sizeLine; decide), fun c3 nc3 => ?_⟩
        have s19 := same_upd (o := .tup [.int (KM.lcp (KM.suf ts p1) (KM.suf ts p2) : Nat), .int (KM.lcp (KM.suf ts p1) (KM.suf ts p2) : Nat)]) nc3
        refine ⟨_, rfl, _, rfl, _, rfl, (by show 2 ≤ sizeLine; decide), fun c4 nc4 => ?_⟩
        have s20 := same_upd (o := .tup [.int (KM.lcp (KM.suf ts p1) (KM.suf ts p2) : Nat), .int (KM.lcp (KM.suf ts p1) (KM.suf ts p2) : Nat)]) nc4
        refine ⟨.ref c3, .ref c4, rfl, ⟨c3, c4, _, _, rfl, rfl, .inr ⟨s20 _ _ upd_same, upd_same⟩, (by show 2 ≤ 2000; decide), .cons (.inl ⟨_, rfl, rfl⟩) (.cons (.inl ⟨_, rfl, rfl⟩) .nil)⟩, fun H21 s21 => ⟨true, rfl, iteF ?_⟩⟩
        have ff := fe.same ((s19.trans s20).trans s21)
        -- the least between
        refine ⟨_, rfl, _, rfl, rfl, _, rfl, ?_⟩
        by_cases e12 : i3 = j2
        · subst e12
          refine iteNT (decide_eq_true rfl) ?_
          exact ⟨_, _, _, _, _, rfl, ff⟩
        · refine iteIs (by rw [show decide (V.int (i3 : Int) = V.int (j2 : Int)) = false from decide_eq_false (fun z => e12 (by have := V.int.inj z; omega))]; rfl) ?_
          refine ⟨_, rfl, _, rfl, x, tt, ts, rfl, ff.lb, fun H22 Y2 o4 s22 nY2 ho4 hY2 => ?_⟩
          obtain rfl := ho4.uniq ho
          have fg := ff.same s22
          have emn : (if (j2 : Int) < (i3 : Int) then (j2 : Int) else (i3 : Int)) + 1 = ((min i3 j2 + 1 : Nat) : Int) := by split <;> omega
          have emx : (if (j2 : Int) > (i3 : Int) then (j2 : Int) else (i3 : Int)) + 1 = ((max i3 j2 + 1 : Nat) : Int) := by split <;> omega
          refine ⟨_, rfl, _, rfl, _, _, rfl, _, 1, rfl, rfl, _, rfl, _, rfl, _, rfl, _, _, rfl, _, 1, rfl, rfl, _, rfl, Y2, _, rfl, SqL.of hY2, fun Z nZ => ?_⟩
          rw [emn, emx, cut_stretch ts o4 (a := min i3 j2) (b := max i3 j2) (by omega) (by omega)]
          have s23 := same_upd (o := .lst ((stretch ts o4 (min i3 j2) (max i3 j2)).map V.int)) nZ
          refine ⟨Z, stretch ts o4 (min i3 j2) (max i3 j2), rfl, SqL.of upd_same, by rw [stretch_len (by omega) (by omega)]; omega, fun m hm hle => ?_⟩
          have em : m = (KM.lcp (KM.suf ts p1) (KM.suf ts p2) : Nat) := by
            by_cases hlt : i3 < j2
            · rw [Nat.min_eq_left (by omega), Nat.max_eq_right (by omega)] at hm hle
              exact stretch_min ho hlt gp1 gp2 hm hle
            · rw [Nat.min_eq_right (by omega), Nat.max_eq_left (by omega)] at hm hle
              rw [KM.lcp_comm]
              exact stretch_min ho (by omega) gp2 gp1 hm hle
          refine ⟨rfl, _, rfl, iteNT (decide_eq_true (by rw [em])) ?_⟩
          exact ⟨_, _, _, _, _, rfl, fg.same s23⟩
      · rintro σ H12 ⟨y7, y8, y9, y10, y11, rfl, fa⟩
        obtain ⟨dx, hob⟩ := fa.lb.ob
        refine ⟨_, rfl, x, tt, ts, rfl, fa.lb, fun H13 F2 cs o3 s13 nF2 hF2 ho3 hC => ?_⟩
        obtain rfl := ho3.uniq ho
        have fa13 := fa.same s13
        refine ⟨_, rfl, .ref F2, .ref G, rfl, ⟨F2, G, _, _, rfl, rfl, .inl ⟨hF2, fa13.du⟩, by rw [List.length_map, Paired.length hC]; exact hol, sd_pls hC fa13.pl⟩, fun H14 s14 => ⟨true, rfl, iteT ?_⟩⟩
        have fa14 := fa13.same s14
        obtain ⟨dx', hob'⟩ := fa14.lb.ob
        refine ⟨_, rfl, x, C, dx', lf tt, .ref tt, rfl, hob', T.cl, T.n, lf_texts tt, _, rfl, ?_⟩
        refine ⟨.tuple (ts.map txD), .tuple (ts.map txD), .tup (SqT.of fa14.lb.tx) (dp_txts ts), .tup (SqT.of fa14.lb.tx) (dp_txts ts), shaped_txts ok.signs, shaped_txts ok.signs, ?_⟩
        have e : PyData.eqv (.tuple (ts.map txD)) (.tuple (ts.map txD)) = true := by
          simp only [PyData.eqv]
          exact eqv_txts ts
        rw [e]
        exact q _
    refine ⟨_, pss_cons (ps_set (i := 1) nd rfl (.inl rfl) (pe_co A1.hand hr (by decide) (by rfl) (pa_cons (pv 0) pa_nil)))
      (pss_cons (ps_set (i := 2) nd rfl (.inl rfl) (pe_co A1.texts hr (by decide) (by rfl) (pa_cons (pv 1) (pa_cons pe_int pa_nil))))
      (pss_cons (ps_if (pt_cmpR op_eq (pe_co A1.draw hr (by decide) (by rfl) (pa_cons (pv 1) (pa_cons pe_int pa_nil))) pe_int (nomark _)) (pss_one (ps_set (i := 2) nd rfl (.inl rfl) (pe_tup (pa_cons (pe_co A1.text hr (by decide) (by rfl) (pa_cons (pv 1) (pa_cons pe_int pa_nil))) pa_nil)))) pss_nil) hu)), ?_⟩
    refine ⟨_, rfl, a, ns, rfl, ha, hns, fun H1 h l s1 nh hh => ?_⟩
    refine ⟨_, rfl, h, l, 14, rfl, hh, by decide, fun H2 tt ts g2 ntt htt hl hm hs => ?_⟩
    have ok : Okt ts := ⟨hl, by
      have h1 := sum_le_mul (m := 14) (l := ts.map List.length) (fun x hx => by
        obtain ⟨t, ht, rfl⟩ := List.mem_map.mp hx
        exact hm t ht)
      rw [List.length_map] at h1
      omega, hs⟩
    refine ⟨_, rfl, h, l, 12, rfl, g2.hd, by decide, by decide, fun H3 d g3 d0 d12 => ⟨rfl, _, rfl, ?_⟩⟩
    by_cases hd0 : d = 0
    · refine iteIs (decide_eq_true (by rw [hd0])) ?_
      refine ⟨_, rfl, h, l, 200, rfl, g3.hd, by decide, fun H4 t g4 ht hts => ⟨(by show 1 ≤ sizeLine; decide), fun p hp => ?_⟩⟩
      have s5 := same_upd (o := .tup [.str (S t)]) hp
      exact ku h l p [t] _ ⟨(by show 1 ≤ 8; decide), (by show t.length + 0 ≤ 2000; omega), fun x hx => by rw [List.mem_singleton.mp hx]; exact hts⟩ upd_same (g4.hd.same s5)
    · refine iteIsn (decide_eq_false (fun z => hd0 (V.int.inj z))) ?_
      exact ku h l tt ts H3 ok (g3.sm _ _ htt (g2.hd.tup htt)) g3.hd
end
end K11

/-! What the top has written. -/
namespace K11
open PySem PySem.Spec PyProof.Rows L2
theorem all_mk {l : PySem.W.OpenLaw} {w : World} {K : PySem.W.Frag} {h : Heap} {mg : Str → Option Value} {fa C f1 f2 f3 f4 f5 f6 f7 f8 f9 f10 f11 f12 f13 f14 f15 f16 f17 f18 f19 f20 f21 f22 f23 f24 f25 f26 f27 f28 f29 f30 f31 f32 f33 f34 f35 f36 f37 f38 f39 : Addr} (X : K.In h) (G : h.Ns mainGlobals mg) (hfa : mg "law" = some (.ref fa)) {t1 t2 t3 t4 : Tok}
    {od1 od2 od3 od4 od5 od6 od7 od8 od9 od10 od11 od12 od13 od14 od15 od16 od17 od18 od19 od20 od21 od22 od23 od24 od25 od26 od27 od28 od29 od30 od31 od32 od33 od34 od35 od36 od37 od38 od39 an1 an2 an3 an4 an5 an6 an7 an8 an9 an10 an11 an12 an13 an14 an15 an16 an17 an18 an19 an20 an21 an22 an23 an24 an25 an26 an27 an28 an29 an30 an31 an32 an33 an34 an35 an36 an37 an38 an39 : Option Addr} {sl1 sl2 sl3 sl4 sl5 sl6 sl7 sl8 sl9 sl10 sl11 sl12 sl13 sl14 sl15 sl16 sl17 sl18 sl19 sl20 sl21 sl22 sl23 sl24 sl25 sl26 sl27 sl28 sl29 sl30 sl31 sl32 sl33 sl34 sl35 sl36 sl37 sl38 sl39 : Array (Option Value)} {oc1 oc2 oc3 oc4 oc5 oc6 oc7 oc8 oc9 oc10 oc11 oc12 oc13 oc14 oc15 oc16 oc17 oc18 oc19 oc20 oc21 oc22 oc23 oc24 oc25 oc26 oc27 oc28 oc29 oc30 oc31 oc32 oc33 oc34 oc35 oc36 oc37 oc38 oc39 kV1 kV2 kV3 kV4 kV5 kV6 kV7 kV8 kV9 kV10 kV11 kV12 kV13 kV14 kV15 kV16 kV17 kV18 kV19 kV20 kV21 kV22 kV23 kV24 kV25 kV26 kV27 kV28 kV29 kV30 kV31 kV32 kV33 kV34 kV35 kV36 kV37 kV38 kV39 dc1 dc2 dc3 dc4 dc5 dc6 dc7 dc8 dc9 dc10 dc11 dc12 dc13 dc14 dc15 dc16 dc17 dc18 dc19 dc20 dc21 dc22 dc23 dc24 dc25 dc26 dc27 dc28 dc29 dc30 dc31 dc32 dc33 dc34 dc35 dc36 dc37 dc38 dc39 pm1 pm2 pm3 pm4 pm5 pm6 pm7 pm8 pm9 pm10 pm11 pm12 pm13 pm14 pm15 pm16 pm17 pm18 pm19 pm20 pm21 pm22 pm23 pm24 pm25 pm26 pm27 pm28 pm29 pm30 pm31 pm32 pm33 pm34 pm35 pm36 pm37 pm38 pm39 cd1 cd2 cd3 cd4 cd5 cd6 cd7 cd8 cd9 cd10 cd11 cd12 cd13 cd14 cd15 cd16 cd17 cd18 cd19 cd20 cd21 cd22 cd23 cd24 cd25 cd26 cd27 cd28 cd29 cd30 cd31 cd32 cd33 cd34 cd35 cd36 cd37 cd38 cd39 ct1 ct2 ct3 ct4 ct5 ct6 ct7 ct8 ct9 ct10 ct11 ct12 ct13 ct14 ct15 ct16 ct17 ct18 ct19 ct20 ct21 ct22 ct23 ct24 ct25 ct26 ct27 ct28 ct29 ct30 ct31 ct32 ct33 ct34 ct35 ct36 ct37 ct38 ct39 : Value}
    (a1 : PySem.W.nsIn K mainGlobals "is_integer" = some (some (.ref f1))) (l1 : K.lookup f1 = some ⟨oc1, od1, .func (PySem.W.fnOf "is_integer" "is_integer" (defArgs (topS 8)) (defBody (topS 8)) (defScope (topS 8)) .none kV1 dc1 pm1 an1 cd1 ct1), sl1⟩) (c1 : PySem.W.codeIn K cd1 "is_integer" = true) (k1 : PySem.W.keepIn K (.ref f1) = true)
    (a2 : PySem.W.nsIn K mainGlobals "is_within" = some (some (.ref f2))) (l2 : K.lookup f2 = some ⟨oc2, od2, .func (PySem.W.fnOf "is_within" "is_within" (defArgs (topS 9)) (defBody (topS 9)) (defScope (topS 9)) .none kV2 dc2 pm2 an2 cd2 ct2), sl2⟩) (c2 : PySem.W.codeIn K cd2 "is_within" = true) (k2 : PySem.W.keepIn K (.ref f2) = true)
    (a3 : PySem.W.nsIn K mainGlobals "is_below" = some (some (.ref f3))) (l3 : K.lookup f3 = some ⟨oc3, od3, .func (PySem.W.fnOf "is_below" "is_below" (defArgs (topS 10)) (defBody (topS 10)) (defScope (topS 10)) .none kV3 dc3 pm3 an3 cd3 ct3), sl3⟩) (c3 : PySem.W.codeIn K cd3 "is_below" = true) (k3 : PySem.W.keepIn K (.ref f3) = true)
    (a4 : PySem.W.nsIn K mainGlobals "is_sized" = some (some (.ref f4))) (l4 : K.lookup f4 = some ⟨oc4, od4, .func (PySem.W.fnOf "is_sized" "is_sized" (defArgs (topS 11)) (defBody (topS 11)) (defScope (topS 11)) .none kV4 dc4 pm4 an4 cd4 ct4), sl4⟩) (c4 : PySem.W.codeIn K cd4 "is_sized" = true) (k4 : PySem.W.keepIn K (.ref f4) = true)
    (a5 : PySem.W.nsIn K mainGlobals "is_pair" = some (some (.ref f5))) (l5 : K.lookup f5 = some ⟨oc5, od5, .func (PySem.W.fnOf "is_pair" "is_pair" (defArgs (topS 12)) (defBody (topS 12)) (defScope (topS 12)) .none kV5 dc5 pm5 an5 cd5 ct5), sl5⟩) (c5 : PySem.W.codeIn K cd5 "is_pair" = true) (k5 : PySem.W.keepIn K (.ref f5) = true)
    (a6 : PySem.W.nsIn K mainGlobals "is_listed" = some (some (.ref f6))) (l6 : K.lookup f6 = some ⟨oc6, od6, .func (PySem.W.fnOf "is_listed" "is_listed" (defArgs (topS 13)) (defBody (topS 13)) (defScope (topS 13)) .none kV6 dc6 pm6 an6 cd6 ct6), sl6⟩) (c6 : PySem.W.codeIn K cd6 "is_listed" = true) (k6 : PySem.W.keepIn K (.ref f6) = true)
    (a7 : PySem.W.nsIn K mainGlobals "are_signs" = some (some (.ref f7))) (l7 : K.lookup f7 = some ⟨oc7, od7, .func (PySem.W.fnOf "are_signs" "are_signs" (defArgs (topS 14)) (defBody (topS 14)) (defScope (topS 14)) .none kV7 dc7 pm7 an7 cd7 ct7), sl7⟩) (c7 : PySem.W.codeIn K cd7 "are_signs" = true) (k7 : PySem.W.keepIn K (.ref f7) = true)
    (a8 : PySem.W.nsIn K mainGlobals "first_wrong" = some (some (.ref f8))) (l8 : K.lookup f8 = some ⟨oc8, od8, .func (PySem.W.fnOf "first_wrong" "first_wrong" (defArgs (topS 17)) (defBody (topS 17)) (defScope (topS 17)) .none kV8 dc8 pm8 an8 cd8 ct8), sl8⟩) (c8 : PySem.W.codeIn K cd8 "first_wrong" = true) (k8 : PySem.W.keepIn K (.ref f8) = true)
    (a9 : PySem.W.nsIn K mainGlobals "is_place" = some (some (.ref f9))) (l9 : K.lookup f9 = some ⟨oc9, od9, .func (PySem.W.fnOf "is_place" "is_place" (defArgs (topS 19)) (defBody (topS 19)) (defScope (topS 19)) .none kV9 dc9 pm9 an9 cd9 ct9), sl9⟩) (c9 : PySem.W.codeIn K cd9 "is_place" = true) (k9 : PySem.W.keepIn K (.ref f9) = true)
    (a10 : PySem.W.nsIn K mainGlobals "check_place" = some (some (.ref f10))) (l10 : K.lookup f10 = some ⟨oc10, od10, .func (PySem.W.fnOf "check_place" "check_place" (defArgs (topS 20)) (defBody (topS 20)) (defScope (topS 20)) .none kV10 dc10 pm10 an10 cd10 ct10), sl10⟩) (c10 : PySem.W.codeIn K cd10 "check_place" = true) (k10 : PySem.W.keepIn K (.ref f10) = true)
    (a11 : PySem.W.nsIn K mainGlobals "all_places" = some (some (.ref f11))) (l11 : K.lookup f11 = some ⟨oc11, od11, .func (PySem.W.fnOf "all_places" "all_places" (defArgs (topS 21)) (defBody (topS 21)) (defScope (topS 21)) .none kV11 dc11 pm11 an11 cd11 ct11), sl11⟩) (c11 : PySem.W.codeIn K cd11 "all_places" = true) (k11 : PySem.W.keepIn K (.ref f11) = true)
    (a12 : PySem.W.nsIn K mainGlobals "ending_at" = some (some (.ref f12))) (l12 : K.lookup f12 = some ⟨oc12, od12, .func (PySem.W.fnOf "ending_at" "ending_at" (defArgs (topS 22)) (defBody (topS 22)) (defScope (topS 22)) .none kV12 dc12 pm12 an12 cd12 ct12), sl12⟩) (c12 : PySem.W.codeIn K cd12 "ending_at" = true) (k12 : PySem.W.keepIn K (.ref f12) = true)
    (a13 : PySem.W.nsIn K mainGlobals "numbered" = some (some (.ref f13))) (l13 : K.lookup f13 = some ⟨oc13, od13, .func (PySem.W.fnOf "numbered" "numbered" (defArgs (topS 24)) (defBody (topS 24)) (defScope (topS 24)) .none kV13 dc13 pm13 an13 cd13 ct13), sl13⟩) (c13 : PySem.W.codeIn K cd13 "numbered" = true) (k13 : PySem.W.keepIn K (.ref f13) = true)
    (a14 : PySem.W.nsIn K mainGlobals "tails_of" = some (some (.ref f14))) (l14 : K.lookup f14 = some ⟨oc14, od14, .func (PySem.W.fnOf "tails_of" "tails_of" (defArgs (topS 25)) (defBody (topS 25)) (defScope (topS 25)) .none kV14 dc14 pm14 an14 cd14 ct14), sl14⟩) (c14 : PySem.W.codeIn K cd14 "tails_of" = true) (k14 : PySem.W.keepIn K (.ref f14) = true)
    (a15 : PySem.W.nsIn K mainGlobals "order_of" = some (some (.ref f15))) (l15 : K.lookup f15 = some ⟨oc15, od15, .func (PySem.W.fnOf "order_of" "order_of" (defArgs (topS 26)) (defBody (topS 26)) (defScope (topS 26)) .none kV15 dc15 pm15 an15 cd15 ct15), sl15⟩) (c15 : PySem.W.codeIn K cd15 "order_of" = true) (k15 : PySem.W.keepIn K (.ref f15) = true)
    (a16 : PySem.W.nsIn K mainGlobals "endings" = some (some (.ref f16))) (l16 : K.lookup f16 = some ⟨oc16, od16, .func (PySem.W.fnOf "endings" "endings" (defArgs (topS 27)) (defBody (topS 27)) (defScope (topS 27)) .none kV16 dc16 pm16 an16 cd16 ct16), sl16⟩) (c16 : PySem.W.codeIn K cd16 "endings" = true) (k16 : PySem.W.keepIn K (.ref f16) = true)
    (a17 : PySem.W.nsIn K mainGlobals "ending" = some (some (.ref f17))) (l17 : K.lookup f17 = some ⟨oc17, od17, .func (PySem.W.fnOf "ending" "ending" (defArgs (topS 28)) (defBody (topS 28)) (defScope (topS 28)) .none kV17 dc17 pm17 an17 cd17 ct17), sl17⟩) (c17 : PySem.W.codeIn K cd17 "ending" = true) (k17 : PySem.W.keepIn K (.ref f17) = true)
    (a18 : PySem.W.nsIn K mainGlobals "common_of" = some (some (.ref f18))) (l18 : K.lookup f18 = some ⟨oc18, od18, .func (PySem.W.fnOf "common_of" "common_of" (defArgs (topS 29)) (defBody (topS 29)) (defScope (topS 29)) .none kV18 dc18 pm18 an18 cd18 ct18), sl18⟩) (c18 : PySem.W.codeIn K cd18 "common_of" = true) (k18 : PySem.W.keepIn K (.ref f18) = true)
    (a19 : PySem.W.nsIn K mainGlobals "common_at" = some (some (.ref f19))) (l19 : K.lookup f19 = some ⟨oc19, od19, .func (PySem.W.fnOf "common_at" "common_at" (defArgs (topS 30)) (defBody (topS 30)) (defScope (topS 30)) .none kV19 dc19 pm19 an19 cd19 ct19), sl19⟩) (c19 : PySem.W.codeIn K cd19 "common_at" = true) (k19 : PySem.W.keepIn K (.ref f19) = true)
    (a20 : PySem.W.nsIn K mainGlobals "rank" = some (some (.ref f20))) (l20 : K.lookup f20 = some ⟨oc20, od20, .func (PySem.W.fnOf "rank" "rank" (defArgs (topS 31)) (defBody (topS 31)) (defScope (topS 31)) .none kV20 dc20 pm20 an20 cd20 ct20), sl20⟩) (c20 : PySem.W.codeIn K cd20 "rank" = true) (k20 : PySem.W.keepIn K (.ref f20) = true)
    (a21 : PySem.W.nsIn K mainGlobals "common" = some (some (.ref f21))) (l21 : K.lookup f21 = some ⟨oc21, od21, .func (PySem.W.fnOf "common" "common" (defArgs (topS 32)) (defBody (topS 32)) (defScope (topS 32)) .none kV21 dc21 pm21 an21 cd21 ct21), sl21⟩) (c21 : PySem.W.codeIn K cd21 "common" = true) (k21 : PySem.W.keepIn K (.ref f21) = true)
    (a22 : PySem.W.nsIn K mainGlobals "lengths_of" = some (some (.ref f22))) (l22 : K.lookup f22 = some ⟨oc22, od22, .func (PySem.W.fnOf "lengths_of" "lengths_of" (defArgs (topS 33)) (defBody (topS 33)) (defScope (topS 33)) .none kV22 dc22 pm22 an22 cd22 ct22), sl22⟩) (c22 : PySem.W.codeIn K cd22 "lengths_of" = true) (k22 : PySem.W.keepIn K (.ref f22) = true)
    (a23 : PySem.W.nsIn K mainGlobals "lengths" = some (some (.ref f23))) (l23 : K.lookup f23 = some ⟨oc23, od23, .func (PySem.W.fnOf "lengths" "lengths" (defArgs (topS 34)) (defBody (topS 34)) (defScope (topS 34)) .none kV23 dc23 pm23 an23 cd23 ct23), sl23⟩) (c23 : PySem.W.codeIn K cd23 "lengths" = true) (k23 : PySem.W.keepIn K (.ref f23) = true)
    (a24 : PySem.W.nsIn K mainGlobals "key_of" = some (some (.ref f24))) (l24 : K.lookup f24 = some ⟨oc24, od24, .func (PySem.W.fnOf "key_of" "key_of" (defArgs (topS 35)) (defBody (topS 35)) (defScope (topS 35)) .none kV24 dc24 pm24 an24 cd24 ct24), sl24⟩) (c24 : PySem.W.codeIn K cd24 "key_of" = true) (k24 : PySem.W.keepIn K (.ref f24) = true)
    (a25 : PySem.W.nsIn K mainGlobals "order_fault" = some (some (.ref f25))) (l25 : K.lookup f25 = some ⟨oc25, od25, .func (PySem.W.fnOf "order_fault" "order_fault" (defArgs (topS 36)) (defBody (topS 36)) (defScope (topS 36)) .none kV25 dc25 pm25 an25 cd25 ct25), sl25⟩) (c25 : PySem.W.codeIn K cd25 "order_fault" = true) (k25 : PySem.W.keepIn K (.ref f25) = true)
    (a26 : PySem.W.nsIn K mainGlobals "is_order" = some (some (.ref f26))) (l26 : K.lookup f26 = some ⟨oc26, od26, .func (PySem.W.fnOf "is_order" "is_order" (defArgs (topS 37)) (defBody (topS 37)) (defScope (topS 37)) .none kV26 dc26 pm26 an26 cd26 ct26), sl26⟩) (c26 : PySem.W.codeIn K cd26 "is_order" = true) (k26 : PySem.W.keepIn K (.ref f26) = true)
    (a27 : PySem.W.nsIn K mainGlobals "_law_hand" = some (some (.ref f27))) (l27 : K.lookup f27 = some ⟨oc27, od27, .func (PySem.W.fnOf "_law_hand" "_law_hand" (defArgs (topS 39)) (defBody (topS 39)) (defScope (topS 39)) .none kV27 dc27 pm27 an27 cd27 ct27), sl27⟩) (c27 : PySem.W.codeIn K cd27 "_law_hand" = true) (k27 : PySem.W.keepIn K (.ref f27) = true)
    (a28 : PySem.W.nsIn K mainGlobals "_law_draw" = some (some (.ref f28))) (l28 : K.lookup f28 = some ⟨oc28, od28, .func (PySem.W.fnOf "_law_draw" "_law_draw" (defArgs (topS 40)) (defBody (topS 40)) (defScope (topS 40)) .none kV28 dc28 pm28 an28 cd28 ct28), sl28⟩) (c28 : PySem.W.codeIn K cd28 "_law_draw" = true) (k28 : PySem.W.keepIn K (.ref f28) = true)
    (a29 : PySem.W.nsIn K mainGlobals "_law_is" = some (some (.ref f29))) (l29 : K.lookup f29 = some ⟨oc29, od29, .func (PySem.W.fnOf "_law_is" "_law_is" (defArgs (topS 41)) (defBody (topS 41)) (defScope (topS 41)) .none kV29 dc29 pm29 an29 cd29 ct29), sl29⟩) (c29 : PySem.W.codeIn K cd29 "_law_is" = true) (k29 : PySem.W.keepIn K (.ref f29) = true)
    (a30 : PySem.W.nsIn K mainGlobals "_law_any_sign" = some (some (.ref f30))) (l30 : K.lookup f30 = some ⟨oc30, od30, .func (PySem.W.fnOf "_law_any_sign" "_law_any_sign" (defArgs (topS 42)) (defBody (topS 42)) (defScope (topS 42)) .none kV30 dc30 pm30 an30 cd30 ct30), sl30⟩) (c30 : PySem.W.codeIn K cd30 "_law_any_sign" = true) (k30 : PySem.W.keepIn K (.ref f30) = true)
    (a31 : PySem.W.nsIn K mainGlobals "_law_sign" = some (some (.ref f31))) (l31 : K.lookup f31 = some ⟨oc31, od31, .func (PySem.W.fnOf "_law_sign" "_law_sign" (defArgs (topS 43)) (defBody (topS 43)) (defScope (topS 43)) .none kV31 dc31 pm31 an31 cd31 ct31), sl31⟩) (c31 : PySem.W.codeIn K cd31 "_law_sign" = true) (k31 : PySem.W.keepIn K (.ref f31) = true)
    (a32 : PySem.W.nsIn K mainGlobals "_law_text" = some (some (.ref f32))) (l32 : K.lookup f32 = some ⟨oc32, od32, .func (PySem.W.fnOf "_law_text" "_law_text" (defArgs (topS 44)) (defBody (topS 44)) (defScope (topS 44)) .none kV32 dc32 pm32 an32 cd32 ct32), sl32⟩) (c32 : PySem.W.codeIn K cd32 "_law_text" = true) (k32 : PySem.W.keepIn K (.ref f32) = true)
    (a33 : PySem.W.nsIn K mainGlobals "_law_texts" = some (some (.ref f33))) (l33 : K.lookup f33 = some ⟨oc33, od33, .func (PySem.W.fnOf "_law_texts" "_law_texts" (defArgs (topS 45)) (defBody (topS 45)) (defScope (topS 45)) .none kV33 dc33 pm33 an33 cd33 ct33), sl33⟩) (c33 : PySem.W.codeIn K cd33 "_law_texts" = true) (k33 : PySem.W.keepIn K (.ref f33) = true)
    (a34 : PySem.W.nsIn K mainGlobals "_law_order" = some (some (.ref f34))) (l34 : K.lookup f34 = some ⟨oc34, od34, .func (PySem.W.fnOf "_law_order" "_law_order" (defArgs (topS 46)) (defBody (topS 46)) (defScope (topS 46)) .none kV34 dc34 pm34 an34 cd34 ct34), sl34⟩) (c34 : PySem.W.codeIn K cd34 "_law_order" = true) (k34 : PySem.W.keepIn K (.ref f34) = true)
    (a35 : PySem.W.nsIn K mainGlobals "_law_ending" = some (some (.ref f35))) (l35 : K.lookup f35 = some ⟨oc35, od35, .func (PySem.W.fnOf "_law_ending" "_law_ending" (defArgs (topS 47)) (defBody (topS 47)) (defScope (topS 47)) .none kV35 dc35 pm35 an35 cd35 ct35), sl35⟩) (c35 : PySem.W.codeIn K cd35 "_law_ending" = true) (k35 : PySem.W.keepIn K (.ref f35) = true)
    (a36 : PySem.W.nsIn K mainGlobals "_law_common" = some (some (.ref f36))) (l36 : K.lookup f36 = some ⟨oc36, od36, .func (PySem.W.fnOf "_law_common" "_law_common" (defArgs (topS 48)) (defBody (topS 48)) (defScope (topS 48)) .none kV36 dc36 pm36 an36 cd36 ct36), sl36⟩) (c36 : PySem.W.codeIn K cd36 "_law_common" = true) (k36 : PySem.W.keepIn K (.ref f36) = true)
    (a37 : PySem.W.nsIn K mainGlobals "_law_lengths" = some (some (.ref f37))) (l37 : K.lookup f37 = some ⟨oc37, od37, .func (PySem.W.fnOf "_law_lengths" "_law_lengths" (defArgs (topS 49)) (defBody (topS 49)) (defScope (topS 49)) .none kV37 dc37 pm37 an37 cd37 ct37), sl37⟩) (c37 : PySem.W.codeIn K cd37 "_law_lengths" = true) (k37 : PySem.W.keepIn K (.ref f37) = true)
    (aC : PySem.W.nsIn K mainGlobals "Library" = some (some (.ref C)))
    (a38 : PySem.W.findIn K (.ref C) "__init__" = some (some (.ref f38))) (i38 : PySem.W.isFn K (.ref f38) = true) (l38 : K.lookup f38 = some ⟨oc38, od38, .func (PySem.W.fnOf "__init__" "Library.__init__" (defArgs s_init) (defBody s_init) (defScope s_init) .none kV38 dc38 pm38 an38 cd38 ct38), sl38⟩) (c38 : PySem.W.codeIn K cd38 "Library.__init__" = true) (k38 : PySem.W.keepIn K (.ref f38) = true)
    (a39 : PySem.W.nsIn K mainGlobals "law" = some (some (.ref f39))) (l39 : K.lookup f39 = some ⟨oc39, od39, .func (PySem.W.fnOf "law" "law" (defArgs (topS 50)) (defBody (topS 50)) (defScope (topS 50)) .none kV39 dc39 pm39 an39 cd39 ct39), sl39⟩) (c39 : PySem.W.codeIn K cd39 "law" = true) (k39 : PySem.W.keepIn K (.ref f39) = true)
    (pg : PySem.W.plainGet K C Str.empty = true) (hd : PySem.W.hasDictIn K C = true) (po : PySem.W.plainOver K C = true) (sa : PySem.W.findIn K (.ref C) "__setattr__" = some (some (.builtin "object.__setattr__"))) (mk : PySem.W.makesIn K C = true) (kc : PySem.W.keepIn K (.ref C) = true) (nT : PySem.W.findIn K (.ref C) "texts" = some none)
    (m1 : PySem.W.nsIn K mainGlobals "MOST_SIGNS" = some (some (.int 2000 t1))) (m2 : PySem.W.nsIn K mainGlobals "FIRST_SIGN" = some (some (.str (Str.ofString " ") t2))) (m3 : PySem.W.nsIn K mainGlobals "LAST_SIGN" = some (some (.str (Str.ofString "~") t3))) (m4 : PySem.W.nsIn K mainGlobals "MOST_TEXTS" = some (some (.int 8 t4)))
    (z_isi : PySem.W.nsIn K mainGlobals "isinstance" = some none)
    (z_int : PySem.W.nsIn K mainGlobals "int" = some none)
    (z_bool : PySem.W.nsIn K mainGlobals "bool" = some none)
    (z_tuple : PySem.W.nsIn K mainGlobals "tuple" = some none)
    (z_list : PySem.W.nsIn K mainGlobals "list" = some none)
    (z_str : PySem.W.nsIn K mainGlobals "str" = some none)
    (z_all : PySem.W.nsIn K mainGlobals "all" = some none)
    (z_len : PySem.W.nsIn K mainGlobals "len" = some none)
    (z_sum : PySem.W.nsIn K mainGlobals "sum" = some none)
    (z_enum : PySem.W.nsIn K mainGlobals "enumerate" = some none)
    (z_range : PySem.W.nsIn K mainGlobals "range" = some none)
    (z_sorted : PySem.W.nsIn K mainGlobals "sorted" = some none)
    (z_max : PySem.W.nsIn K mainGlobals "max" = some none)
    (z_min : PySem.W.nsIn K mainGlobals "min" = some none)
    (z_zip : PySem.W.nsIn K mainGlobals "zip" = some none) :
    ∃ fd : FuncData, (∀ (s : Shared) (v : Value), BindsTo s fd ⟨[v], []⟩ [("_law_script", v)]) ∧ ∀ base : Heap, K.In base → base.Ns mainGlobals mg → FnOk l.prog w K mg base CX0 7 fa fd ["_law_script"] (spLaw K) := by
  have e := hfa.symm.trans (PySem.W.mg_of X G a39)
  cases e
  have B : Blt mg := ⟨PySem.W.mg_none_of X G z_isi, PySem.W.mg_none_of X G z_int, PySem.W.mg_none_of X G z_bool, PySem.W.mg_none_of X G z_tuple, PySem.W.mg_none_of X G z_list, PySem.W.mg_none_of X G z_str, PySem.W.mg_none_of X G z_all, PySem.W.mg_none_of X G z_len, PySem.W.mg_none_of X G z_sum, PySem.W.mg_none_of X G z_enum, PySem.W.mg_none_of X G z_range, PySem.W.mg_none_of X G z_sorted, PySem.W.mg_none_of X G z_max, PySem.W.mg_none_of X G z_min, PySem.W.mg_none_of X G z_zip⟩
  have CS : Cst mg := ⟨⟨_, PySem.W.mg_of X G m1⟩, ⟨_, PySem.W.mg_of X G m2⟩, ⟨_, PySem.W.mg_of X G m3⟩, ⟨_, PySem.W.mg_of X G m4⟩⟩
  have T : LC K mg C := ⟨⟨pg, hd, po, sa⟩, nT, PySem.W.mg_of X G aC⟩
  have F1 := fun_mk (st := topS 8) l1 c1 k1
  have d1 : Dn K mg "is_integer" (topS 8) ["thing"] f1 _ := ⟨F1, PySem.W.mg_of X G a1, F1.binds (ps := ["thing"]) fun _ _ _ _ _ _ us hl => match us, hl with | [_], _ => rfl⟩
  have F2 := fun_mk (st := topS 9) l2 c2 k2
  have d2 : Dn K mg "is_within" (topS 9) ["thing", "least", "most"] f2 _ := ⟨F2, PySem.W.mg_of X G a2, F2.binds (ps := ["thing", "least", "most"]) fun _ _ _ _ _ _ us hl => match us, hl with | [_, _, _], _ => rfl⟩
  have F3 := fun_mk (st := topS 10) l3 c3 k3
  have d3 : Dn K mg "is_below" (topS 10) ["thing", "many"] f3 _ := ⟨F3, PySem.W.mg_of X G a3, F3.binds (ps := ["thing", "many"]) fun _ _ _ _ _ _ us hl => match us, hl with | [_, _], _ => rfl⟩
  have F4 := fun_mk (st := topS 11) l4 c4 k4
  have d4 : Dn K mg "is_sized" (topS 11) ["thing", "least", "most"] f4 _ := ⟨F4, PySem.W.mg_of X G a4, F4.binds (ps := ["thing", "least", "most"]) fun _ _ _ _ _ _ us hl => match us, hl with | [_, _, _], _ => rfl⟩
  have F5 := fun_mk (st := topS 12) l5 c5 k5
  have d5 : Dn K mg "is_pair" (topS 12) ["thing"] f5 _ := ⟨F5, PySem.W.mg_of X G a5, F5.binds (ps := ["thing"]) fun _ _ _ _ _ _ us hl => match us, hl with | [_], _ => rfl⟩
  have F6 := fun_mk (st := topS 13) l6 c6 k6
  have d6 : Dn K mg "is_listed" (topS 13) ["thing"] f6 _ := ⟨F6, PySem.W.mg_of X G a6, F6.binds (ps := ["thing"]) fun _ _ _ _ _ _ us hl => match us, hl with | [_], _ => rfl⟩
  have F7 := fun_mk (st := topS 14) l7 c7 k7
  have d7 : Dn K mg "are_signs" (topS 14) ["thing"] f7 _ := ⟨F7, PySem.W.mg_of X G a7, F7.binds (ps := ["thing"]) fun _ _ _ _ _ _ us hl => match us, hl with | [_], _ => rfl⟩
  have F8 := fun_mk (st := topS 17) l8 c8 k8
  have d8 : Dn K mg "first_wrong" (topS 17) ["thing"] f8 _ := ⟨F8, PySem.W.mg_of X G a8, F8.binds (ps := ["thing"]) fun _ _ _ _ _ _ us hl => match us, hl with | [_], _ => rfl⟩
  have F9 := fun_mk (st := topS 19) l9 c9 k9
  have d9 : Dn K mg "is_place" (topS 19) ["library", "thing"] f9 _ := ⟨F9, PySem.W.mg_of X G a9, F9.binds (ps := ["library", "thing"]) fun _ _ _ _ _ _ us hl => match us, hl with | [_, _], _ => rfl⟩
  have F10 := fun_mk (st := topS 20) l10 c10 k10
  have d10 : Dn K mg "check_place" (topS 20) ["library", "thing"] f10 _ := ⟨F10, PySem.W.mg_of X G a10, F10.binds (ps := ["library", "thing"]) fun _ _ _ _ _ _ us hl => match us, hl with | [_, _], _ => rfl⟩
  have F11 := fun_mk (st := topS 21) l11 c11 k11
  have d11 : Dn K mg "all_places" (topS 21) ["library"] f11 _ := ⟨F11, PySem.W.mg_of X G a11, F11.binds (ps := ["library"]) fun _ _ _ _ _ _ us hl => match us, hl with | [_], _ => rfl⟩
  have F12 := fun_mk (st := topS 22) l12 c12 k12
  have d12 : Dn K mg "ending_at" (topS 22) ["library", "place"] f12 _ := ⟨F12, PySem.W.mg_of X G a12, F12.binds (ps := ["library", "place"]) fun _ _ _ _ _ _ us hl => match us, hl with | [_, _], _ => rfl⟩
  have F13 := fun_mk (st := topS 24) l13 c13 k13
  have d13 : Dn K mg "numbered" (topS 24) ["keys"] f13 _ := ⟨F13, PySem.W.mg_of X G a13, F13.binds (ps := ["keys"]) fun _ _ _ _ _ _ us hl => match us, hl with | [_], _ => rfl⟩
  have F14 := fun_mk (st := topS 25) l14 c14 k14
  have d14 : Dn K mg "tails_of" (topS 25) ["library", "places", "many"] f14 _ := ⟨F14, PySem.W.mg_of X G a14, F14.binds (ps := ["library", "places", "many"]) fun _ _ _ _ _ _ us hl => match us, hl with | [_, _, _], _ => rfl⟩
  have F15 := fun_mk (st := topS 26) l15 c15 k15
  have d15 : Dn K mg "order_of" (topS 26) ["library"] f15 _ := ⟨F15, PySem.W.mg_of X G a15, F15.binds (ps := ["library"]) fun _ _ _ _ _ _ us hl => match us, hl with | [_], _ => rfl⟩
  have F16 := fun_mk (st := topS 27) l16 c16 k16
  have d16 : Dn K mg "endings" (topS 27) ["library"] f16 _ := ⟨F16, PySem.W.mg_of X G a16, F16.binds (ps := ["library"]) fun _ _ _ _ _ _ us hl => match us, hl with | [_], _ => rfl⟩
  have F17 := fun_mk (st := topS 28) l17 c17 k17
  have d17 : Dn K mg "ending" (topS 28) ["library", "place"] f17 _ := ⟨F17, PySem.W.mg_of X G a17, F17.binds (ps := ["library", "place"]) fun _ _ _ _ _ _ us hl => match us, hl with | [_, _], _ => rfl⟩
  have F18 := fun_mk (st := topS 29) l18 c18 k18
  have d18 : Dn K mg "common_of" (topS 29) ["one", "other"] f18 _ := ⟨F18, PySem.W.mg_of X G a18, F18.binds (ps := ["one", "other"]) fun _ _ _ _ _ _ us hl => match us, hl with | [_, _], _ => rfl⟩
  have F19 := fun_mk (st := topS 30) l19 c19 k19
  have d19 : Dn K mg "common_at" (topS 30) ["library", "one", "other"] f19 _ := ⟨F19, PySem.W.mg_of X G a19, F19.binds (ps := ["library", "one", "other"]) fun _ _ _ _ _ _ us hl => match us, hl with | [_, _, _], _ => rfl⟩
  have F20 := fun_mk (st := topS 31) l20 c20 k20
  have d20 : Dn K mg "rank" (topS 31) ["library", "place"] f20 _ := ⟨F20, PySem.W.mg_of X G a20, F20.binds (ps := ["library", "place"]) fun _ _ _ _ _ _ us hl => match us, hl with | [_, _], _ => rfl⟩
  have F21 := fun_mk (st := topS 32) l21 c21 k21
  have d21 : Dn K mg "common" (topS 32) ["library", "one", "other"] f21 _ := ⟨F21, PySem.W.mg_of X G a21, F21.binds (ps := ["library", "one", "other"]) fun _ _ _ _ _ _ us hl => match us, hl with | [_, _, _], _ => rfl⟩
  have F22 := fun_mk (st := topS 33) l22 c22 k22
  have d22 : Dn K mg "lengths_of" (topS 33) ["library", "order"] f22 _ := ⟨F22, PySem.W.mg_of X G a22, F22.binds (ps := ["library", "order"]) fun _ _ _ _ _ _ us hl => match us, hl with | [_, _], _ => rfl⟩
  have F23 := fun_mk (st := topS 34) l23 c23 k23
  have d23 : Dn K mg "lengths" (topS 34) ["library"] f23 _ := ⟨F23, PySem.W.mg_of X G a23, F23.binds (ps := ["library"]) fun _ _ _ _ _ _ us hl => match us, hl with | [_], _ => rfl⟩
  have F24 := fun_mk (st := topS 35) l24 c24 k24
  have d24 : Dn K mg "key_of" (topS 35) ["library", "place"] f24 _ := ⟨F24, PySem.W.mg_of X G a24, F24.binds (ps := ["library", "place"]) fun _ _ _ _ _ _ us hl => match us, hl with | [_, _], _ => rfl⟩
  have F25 := fun_mk (st := topS 36) l25 c25 k25
  have d25 : Dn K mg "order_fault" (topS 36) ["library", "thing"] f25 _ := ⟨F25, PySem.W.mg_of X G a25, F25.binds (ps := ["library", "thing"]) fun _ _ _ _ _ _ us hl => match us, hl with | [_, _], _ => rfl⟩
  have F26 := fun_mk (st := topS 37) l26 c26 k26
  have d26 : Dn K mg "is_order" (topS 37) ["library", "thing"] f26 _ := ⟨F26, PySem.W.mg_of X G a26, F26.binds (ps := ["library", "thing"]) fun _ _ _ _ _ _ us hl => match us, hl with | [_, _], _ => rfl⟩
  have F27 := fun_mk (st := topS 39) l27 c27 k27
  have d27 : Dn K mg "_law_hand" (topS 39) ["_law_script"] f27 _ := ⟨F27, PySem.W.mg_of X G a27, F27.binds (ps := ["_law_script"]) fun _ _ _ _ _ _ us hl => match us, hl with | [_], _ => rfl⟩
  have F28 := fun_mk (st := topS 40) l28 c28 k28
  have d28 : Dn K mg "_law_draw" (topS 40) ["_law_hand_here", "_law_many"] f28 _ := ⟨F28, PySem.W.mg_of X G a28, F28.binds (ps := ["_law_hand_here", "_law_many"]) fun _ _ _ _ _ _ us hl => match us, hl with | [_, _], _ => rfl⟩
  have F29 := fun_mk (st := topS 41) l29 c29 k29
  have d29 : Dn K mg "_law_is" (topS 41) ["_law_told", "_law_due"] f29 _ := ⟨F29, PySem.W.mg_of X G a29, F29.binds (ps := ["_law_told", "_law_due"]) fun _ _ _ _ _ _ us hl => match us, hl with | [_, _], _ => rfl⟩
  have F30 := fun_mk (st := topS 42) l30 c30 k30
  have d30 : Dn K mg "_law_any_sign" (topS 42) ["_law_hand_here"] f30 _ := ⟨F30, PySem.W.mg_of X G a30, F30.binds (ps := ["_law_hand_here"]) fun _ _ _ _ _ _ us hl => match us, hl with | [_], _ => rfl⟩
  have F31 := fun_mk (st := topS 43) l31 c31 k31
  have d31 : Dn K mg "_law_sign" (topS 43) ["_law_hand_here", "_law_kind"] f31 _ := ⟨F31, PySem.W.mg_of X G a31, F31.binds (ps := ["_law_hand_here", "_law_kind"]) fun _ _ _ _ _ _ us hl => match us, hl with | [_, _], _ => rfl⟩
  have F32 := fun_mk (st := topS 44) l32 c32 k32
  have d32 : Dn K mg "_law_text" (topS 44) ["_law_hand_here", "_law_most"] f32 _ := ⟨F32, PySem.W.mg_of X G a32, F32.binds (ps := ["_law_hand_here", "_law_most"]) fun _ _ _ _ _ _ us hl => match us, hl with | [_, _], _ => rfl⟩
  have F33 := fun_mk (st := topS 45) l33 c33 k33
  have d33 : Dn K mg "_law_texts" (topS 45) ["_law_hand_here", "_law_most"] f33 _ := ⟨F33, PySem.W.mg_of X G a33, F33.binds (ps := ["_law_hand_here", "_law_most"]) fun _ _ _ _ _ _ us hl => match us, hl with | [_, _], _ => rfl⟩
  have F34 := fun_mk (st := topS 46) l34 c34 k34
  have d34 : Dn K mg "_law_order" (topS 46) ["_law_texts_here"] f34 _ := ⟨F34, PySem.W.mg_of X G a34, F34.binds (ps := ["_law_texts_here"]) fun _ _ _ _ _ _ us hl => match us, hl with | [_], _ => rfl⟩
  have F35 := fun_mk (st := topS 47) l35 c35 k35
  have d35 : Dn K mg "_law_ending" (topS 47) ["_law_texts_here", "_law_place"] f35 _ := ⟨F35, PySem.W.mg_of X G a35, F35.binds (ps := ["_law_texts_here", "_law_place"]) fun _ _ _ _ _ _ us hl => match us, hl with | [_, _], _ => rfl⟩
  have F36 := fun_mk (st := topS 48) l36 c36 k36
  have d36 : Dn K mg "_law_common" (topS 48) ["_law_one", "_law_other"] f36 _ := ⟨F36, PySem.W.mg_of X G a36, F36.binds (ps := ["_law_one", "_law_other"]) fun _ _ _ _ _ _ us hl => match us, hl with | [_, _], _ => rfl⟩
  have F37 := fun_mk (st := topS 49) l37 c37 k37
  have d37 : Dn K mg "_law_lengths" (topS 49) ["_law_texts_here", "_law_order_here"] f37 _ := ⟨F37, PySem.W.mg_of X G a37, F37.binds (ps := ["_law_texts_here", "_law_order_here"]) fun _ _ _ _ _ _ us hl => match us, hl with | [_, _], _ => rfl⟩
  have FI := fun_mk (st := s_init) l38 c38 k38
  have bI := FI.binds (ps := ["self", "texts"]) fun _ _ _ _ _ _ us hl => match us, hl with | [_, _], _ => rfl
  have FL := fun_mk (st := s_law) l39 c39 k39
  refine ⟨PySem.W.fnOf "law" "law" (defArgs s_law) (defBody s_law) (defScope s_law) .none kV39 dc39 pm39 an39 cd39 ct39, fun s v => .of_eq rfl, fun base _ _ => ?_⟩
  have c_is_integer := co_is_integer (P := l.prog) (w := w) (base := base) B d1
  have c_is_within := co_is_within (P := l.prog) (w := w) (base := base) c_is_integer d2
  have c_is_below := co_is_below (P := l.prog) (w := w) (base := base) c_is_within d3
  have c_is_sized := co_is_sized (P := l.prog) (w := w) (base := base) B d4
  have c_is_pair := co_is_pair (P := l.prog) (w := w) (base := base) c_is_sized d5
  have c_is_listed := co_is_listed (P := l.prog) (w := w) (base := base) B d6
  have c_are_signs := co_are_signs (P := l.prog) (w := w) (base := base) B CS d7
  have c_first_wrong := co_first_wrong (P := l.prog) (w := w) (base := base) B CS c_is_sized c_are_signs d8
  have c_is_place := co_is_place (P := l.prog) (w := w) (base := base) B T c_is_pair c_is_below d9
  have c_check_place := co_check_place (P := l.prog) (w := w) (base := base) c_is_place d10
  have c_all_places := co_all_places (P := l.prog) (w := w) (base := base) B T d11
  have c_ending_at := co_ending_at (P := l.prog) (w := w) (base := base) T d12
  have c_numberedS := co_numbered (P := l.prog) (w := w) (base := base) (RS K) B d13
  have c_numberedP := co_numbered (P := l.prog) (w := w) (base := base) (RP K) B d13
  have c_tails_of := co_tails_of (P := l.prog) (w := w) (base := base) B d14
  have c_order_of := co_order_of (P := l.prog) (w := w) (base := base) B T c_all_places c_numberedS c_numberedP c_tails_of d15
  have c_endings := co_endings (P := l.prog) (w := w) (base := base) c_order_of d16
  have c_ending := co_ending (P := l.prog) (w := w) (base := base) c_check_place c_ending_at d17
  have c_common_of := co_common_of (P := l.prog) (w := w) (base := base) B d18
  have c_common_at := co_common_at (P := l.prog) (w := w) (base := base) c_ending_at c_common_of d19
  have c_rank := co_rank (P := l.prog) (w := w) (base := base) c_check_place c_order_of d20
  have c_common := co_common (P := l.prog) (w := w) (base := base) c_check_place c_common_at d21
  have c_lengths_of := co_lengths_of (P := l.prog) (w := w) (base := base) B c_common_at d22
  have c_lengths := co_lengths (P := l.prog) (w := w) (base := base) c_order_of c_lengths_of d23
  have c_key_of := co_key_of (P := l.prog) (w := w) (base := base) c_ending_at d24
  have c_order_fault := co_order_fault (P := l.prog) (w := w) (base := base) B c_all_places c_is_listed c_is_place c_key_of d25
  have c_is_order := co_is_order (P := l.prog) (w := w) (base := base) c_order_fault d26
  have c__law_hand := co_hand (P := l.prog) (w := w) (base := base) B d27
  have c__law_draw := co_draw (P := l.prog) (w := w) (base := base) B d28
  have c_is1 := co_is (P := l.prog) (w := w) (base := base) B d29 1
  have c_is2 := co_is (P := l.prog) (w := w) (base := base) B d29 2
  have c__law_any_sign := co_any_sign (P := l.prog) (w := w) (base := base) B c__law_draw d30
  have c__law_sign := co_sign (P := l.prog) (w := w) (base := base) B c__law_draw c__law_any_sign d31
  have c__law_text := co_text (P := l.prog) (w := w) (base := base) B c__law_draw c__law_sign d32
  have c__law_texts := co_texts (P := l.prog) (w := w) (base := base) B c__law_draw c__law_text d33
  have c__law_order := co_lorder (P := l.prog) (w := w) (base := base) B d34
  have c__law_ending := co_lending (P := l.prog) (w := w) (base := base)  d35
  have c__law_common := co_lcommon (P := l.prog) (w := w) (base := base) B d36
  have c__law_lengths := co_llengths (P := l.prog) (w := w) (base := base) B c__law_ending c__law_common d37
  have okI := ok_init (P := l.prog) (w := w) (base := base) FI T c_first_wrong
  exact ok_law B T ⟨mk, a38, i38, kc⟩ okI bI ⟨c__law_hand, c__law_texts, c__law_draw, c__law_text, c__law_order, c_endings, c__law_lengths, c_is1, c_is2, c_lengths, c_is_order, c_ending, c_rank, c__law_ending, c__law_common, c_common⟩ FL
end K11

open PySem PySem.W PyProof.Rows
set_option maxRecDepth 100000 in
set_option maxHeartbeats 0 in
theorem PySem.Challenge.cw_everypiece_k11_whole_order_and_lengths_holds : PySem.Challenge.rw_everypiece_k11_whole_order_and_lengths.Holds := by
  w_on; o_law; k_head; (case hw => w_witness2)
  k_fill
  refine L2.walk_of (l := PySem.Challenge.rw_everypiece_k11_whole_order_and_lengths) (n := 63) (k := 7) (x := "_law_script") (CX := fun _ => L2.CX0) (sp := fun w => K11.spLaw _) rfl (by decide) rfl ⟨rfl, by decide, by decide⟩ (fun w h Y => PySem.W.kIn_of Y) ?F (fun _ _ a ns hl _ hS => ⟨a, ns, rfl, hS, hl, fun _ => rfl⟩) (fun _ _ _ _ _ h => h)
  case F =>
    intro w mg fa h KX G hmg
    refine' K11.all_mk KX G hmg ?a1 ?l1 ?c1 ?k1 ?a2 ?l2 ?c2 ?k2 ?a3 ?l3 ?c3 ?k3 ?a4 ?l4 ?c4 ?k4 ?a5 ?l5 ?c5 ?k5 ?a6 ?l6 ?c6 ?k6 ?a7 ?l7 ?c7 ?k7 ?a8 ?l8 ?c8 ?k8 ?a9 ?l9 ?c9 ?k9 ?a10 ?l10 ?c10 ?k10 ?a11 ?l11 ?c11 ?k11 ?a12 ?l12 ?c12 ?k12 ?a13 ?l13 ?c13 ?k13 ?a14 ?l14 ?c14 ?k14 ?a15 ?l15 ?c15 ?k15 ?a16 ?l16 ?c16 ?k16 ?a17 ?l17 ?c17 ?k17 ?a18 ?l18 ?c18 ?k18 ?a19 ?l19 ?c19 ?k19 ?a20 ?l20 ?c20 ?k20 ?a21 ?l21 ?c21 ?k21 ?a22 ?l22 ?c22 ?k22 ?a23 ?l23 ?c23 ?k23 ?a24 ?l24 ?c24 ?k24 ?a25 ?l25 ?c25 ?k25 ?a26 ?l26 ?c26 ?k26 ?a27 ?l27 ?c27 ?k27 ?a28 ?l28 ?c28 ?k28 ?a29 ?l29 ?c29 ?k29 ?a30 ?l30 ?c30 ?k30 ?a31 ?l31 ?c31 ?k31 ?a32 ?l32 ?c32 ?k32 ?a33 ?l33 ?c33 ?k33 ?a34 ?l34 ?c34 ?k34 ?a35 ?l35 ?c35 ?k35 ?a36 ?l36 ?c36 ?k36 ?a37 ?l37 ?c37 ?k37 ?aC ?a38 ?i38 ?l38 ?c38 ?k38 ?a39 ?l39 ?c39 ?k39 ?pg ?hd ?po ?sa ?mk ?kc ?nT ?m1 ?m2 ?m3 ?m4 ?z_isi ?z_int ?z_bool ?z_tuple ?z_list ?z_str ?z_all ?z_len ?z_sum ?z_enum ?z_range ?z_sorted ?z_max ?z_min ?z_zip
    (case a1 => k_is); (case l1 => k_is); (case c1 => k_is); (case k1 => k_is); (case a2 => k_is); (case l2 => k_is)
    (case c2 => k_is); (case k2 => k_is); (case a3 => k_is); (case l3 => k_is); (case c3 => k_is); (case k3 => k_is)
    (case a4 => k_is); (case l4 => k_is); (case c4 => k_is); (case k4 => k_is); (case a5 => k_is); (case l5 => k_is)
    (case c5 => k_is); (case k5 => k_is); (case a6 => k_is); (case l6 => k_is); (case c6 => k_is); (case k6 => k_is)
    (case a7 => k_is); (case l7 => k_is); (case c7 => k_is); (case k7 => k_is); (case a8 => k_is); (case l8 => k_is)
    (case c8 => k_is); (case k8 => k_is); (case a9 => k_is); (case l9 => k_is); (case c9 => k_is); (case k9 => k_is)
    (case a10 => k_is); (case l10 => k_is); (case c10 => k_is); (case k10 => k_is); (case a11 => k_is); (case l11 => k_is)
    (case c11 => k_is); (case k11 => k_is); (case a12 => k_is); (case l12 => k_is); (case c12 => k_is); (case k12 => k_is)
    (case a13 => k_is); (case l13 => k_is); (case c13 => k_is); (case k13 => k_is); (case a14 => k_is); (case l14 => k_is)
    (case c14 => k_is); (case k14 => k_is); (case a15 => k_is); (case l15 => k_is); (case c15 => k_is); (case k15 => k_is)
    (case a16 => k_is); (case l16 => k_is); (case c16 => k_is); (case k16 => k_is); (case a17 => k_is); (case l17 => k_is)
    (case c17 => k_is); (case k17 => k_is); (case a18 => k_is); (case l18 => k_is); (case c18 => k_is); (case k18 => k_is)
    (case a19 => k_is); (case l19 => k_is); (case c19 => k_is); (case k19 => k_is); (case a20 => k_is); (case l20 => k_is)
    (case c20 => k_is); (case k20 => k_is); (case a21 => k_is); (case l21 => k_is); (case c21 => k_is); (case k21 => k_is)
    (case a22 => k_is); (case l22 => k_is); (case c22 => k_is); (case k22 => k_is); (case a23 => k_is); (case l23 => k_is)
    (case c23 => k_is); (case k23 => k_is); (case a24 => k_is); (case l24 => k_is); (case c24 => k_is); (case k24 => k_is)
    (case a25 => k_is); (case l25 => k_is); (case c25 => k_is); (case k25 => k_is); (case a26 => k_is); (case l26 => k_is)
    (case c26 => k_is); (case k26 => k_is); (case a27 => k_is); (case l27 => k_is); (case c27 => k_is); (case k27 => k_is)
    (case a28 => k_is); (case l28 => k_is); (case c28 => k_is); (case k28 => k_is); (case a29 => k_is); (case l29 => k_is)
    (case c29 => k_is); (case k29 => k_is); (case a30 => k_is); (case l30 => k_is); (case c30 => k_is); (case k30 => k_is)
    (case a31 => k_is); (case l31 => k_is); (case c31 => k_is); (case k31 => k_is); (case a32 => k_is); (case l32 => k_is)
    (case c32 => k_is); (case k32 => k_is); (case a33 => k_is); (case l33 => k_is); (case c33 => k_is); (case k33 => k_is)
    (case a34 => k_is); (case l34 => k_is); (case c34 => k_is); (case k34 => k_is); (case a35 => k_is); (case l35 => k_is)
    (case c35 => k_is); (case k35 => k_is); (case a36 => k_is); (case l36 => k_is); (case c36 => k_is); (case k36 => k_is)
    (case a37 => k_is); (case l37 => k_is); (case c37 => k_is); (case k37 => k_is); (case aC => k_is); (case a38 => k_is)
    (case i38 => k_is); (case l38 => k_is); (case c38 => k_is); (case k38 => k_is); (case a39 => k_is); (case l39 => k_is)
    (case c39 => k_is); (case k39 => k_is); (case pg => k_is); (case hd => k_is); (case po => k_is); (case sa => k_is)
    (case mk => k_is); (case kc => k_is); (case nT => k_is); (case m1 => k_is); (case m2 => k_is); (case m3 => k_is)
    (case m4 => k_is); (case z_isi => k_is); (case z_int => k_is); (case z_bool => k_is); (case z_tuple => k_is); (case z_list => k_is)
    (case z_str => k_is); (case z_all => k_is); (case z_len => k_is); (case z_sum => k_is); (case z_enum => k_is); (case z_range => k_is)
    (case z_sorted => k_is); (case z_max => k_is); (case z_min => k_is); (case z_zip => k_is)
