import PyProof.Rows.All
import Wide.All
import OpenK.AllK
import Wide.FinOn
import HandS.ForMost
import HandS.Sort
import HandS.SortOrd
import HandS.SortRule
import HandS.SortInts
import HandS.Set
import HandS.Strs
import HandS.SetFor
import HandS.TupSets
import HandS.DictComp
import HandS.ListItems
import HandS.Style
import HandS.Conv
import HandS.Flow
import HandS.IsInst
import HandS.TupAny
import HandS.Defaults
import HandS.DictTup
import HandS.SortKw
import HandS.Walk
import KE.DataMinMax
import KE.KDictPairs
import PySem.Challenge.RW_nodice_k12_whole_more_chips_by_a_power_o
set_option Elab.async false
set_option maxRecDepth 100000
set_option maxHeartbeats 4000000
/-! The plain law: dicts of ints as lists of pairs, chips spread by halves. No program in sight. -/
namespace NK
abbrev PL := List (Int × Int)
section
variable {β : Type}
def getA (D : List (Int × β)) (k : Int) : Option β := (D.find? fun p => decide (p.1 = k)).map (·.2)
def putA (D : List (Int × β)) (k : Int) (v : β) : List (Int × β) :=
  if (D.any fun p => decide (p.1 = k)) = true then D.map (fun p => if p.1 = k then (p.1, v) else p) else D ++ [(k, v)]
def keys (D : List (Int × β)) : List Int := D.map (·.1)
theorem getA_nil {k : Int} : getA ([] : List (Int × β)) k = none := rfl
theorem getA_pos {p : Int × β} {r : List (Int × β)} {k : Int} (e : p.1 = k) : getA (p :: r) k = some p.2 := by simp [getA, e]
theorem getA_neg {p : Int × β} {r : List (Int × β)} {k : Int} (e : ¬ p.1 = k) : getA (p :: r) k = getA r k := by simp [getA, e]
theorem getA_cons (a : Int) (v : β) (r : List (Int × β)) (k : Int) : getA ((a, v) :: r) k = if a = k then some v else getA r k := by
  by_cases e : a = k
  · rw [if_pos e, getA_pos (p := (a, v)) e]
  · rw [if_neg e, getA_neg (p := (a, v)) e]
theorem any_iff {D : List (Int × β)} {k : Int} : (D.any fun p => decide (p.1 = k)) = true ↔ k ∈ keys D := by
  simp only [List.any_eq_true, decide_eq_true_eq, keys, List.mem_map]
theorem getA_none : ∀ {D : List (Int × β)} {k : Int}, k ∉ keys D → getA D k = none
  | [], _, _ => rfl
  | p :: r, k, h => by
    have h1 : ¬ p.1 = k := fun e => h (by simp [keys, e])
    rw [getA_neg h1]
    exact getA_none fun m => h (by simp only [keys, List.map_cons, List.mem_cons]; exact .inr m)
theorem getA_mem : ∀ {D : List (Int × β)} {k : Int} {v : β}, getA D k = some v → (k, v) ∈ D
  | [], _, _, h => by cases h
  | p :: r, k, v, h => by
    by_cases e : p.1 = k
    · rw [getA_pos e] at h
      cases h
      subst e
      exact List.mem_cons_self
    · rw [getA_neg e] at h
      exact List.mem_cons_of_mem _ (getA_mem h)
theorem getA_keys {D : List (Int × β)} {k : Int} {v : β} (h : getA D k = some v) : k ∈ keys D := List.mem_map.mpr ⟨_, getA_mem h, rfl⟩
theorem getA_of : ∀ {D : List (Int × β)}, (keys D).Nodup → ∀ {p : Int × β}, p ∈ D → getA D p.1 = some p.2
  | [], _, p, h => by cases h
  | q :: r, hn, p, h => by
    have hn' : (q.1 :: keys r).Nodup := hn
    obtain ⟨h1, h2⟩ := List.nodup_cons.mp hn'
    rcases List.mem_cons.mp h with e | h
    · subst e
      exact getA_pos rfl
    · have : ¬ q.1 = p.1 := fun e => h1 (by rw [e]; exact List.mem_map.mpr ⟨p, h, rfl⟩)
      rw [getA_neg this]
      exact getA_of h2 h
theorem getA_some_of_key {D : List (Int × β)} {k : Int} (h : k ∈ keys D) : ∃ v, getA D k = some v := by
  cases e : getA D k with
  | some v => exact ⟨v, rfl⟩
  | none =>
    exfalso
    obtain ⟨p, hp, e2⟩ := List.mem_map.mp h
    unfold getA at e
    rw [Option.map_eq_none_iff, List.find?_eq_none] at e
    exact e p hp (decide_eq_true e2)
theorem getA_map_other {k j : Int} {v : β} (hj : j ≠ k) : ∀ D : List (Int × β), getA (D.map fun p => if p.1 = k then (p.1, v) else p) j = getA D j
  | [] => rfl
  | p :: r => by
    rw [List.map_cons]
    by_cases e : p.1 = j
    · have : ¬ p.1 = k := fun z => hj (e.symm.trans z)
      rw [if_neg this, getA_pos e, getA_pos e]
    · have e2 : ¬ (if p.1 = k then (p.1, v) else p).1 = j := by
        by_cases q : p.1 = k
        · rw [if_pos q]; exact e
        · rw [if_neg q]; exact e
      rw [getA_neg e2, getA_neg e]
      exact getA_map_other hj r
theorem getA_map_same {k : Int} {v : β} : ∀ {D : List (Int × β)}, k ∈ keys D → getA (D.map fun p => if p.1 = k then (p.1, v) else p) k = some v
  | [], h => by cases h
  | p :: r, h => by
    rw [List.map_cons]
    by_cases e : p.1 = k
    · rw [if_pos e, getA_cons, if_pos e]
    · rw [if_neg e, getA_neg e]
      have h' : k = p.1 ∨ k ∈ keys r := by simpa [keys] using h
      exact getA_map_same (h'.resolve_left fun z => e z.symm)
theorem getA_append {k : Int} {v : β} : ∀ {D : List (Int × β)} (j : Int), k ∉ keys D → getA (D ++ [(k, v)]) j = if j = k then some v else getA D j
  | [], j, _ => by
    by_cases e : j = k
    · rw [if_pos e, List.nil_append, getA_pos e.symm]
    · rw [if_neg e, List.nil_append, getA_neg (fun z => e z.symm)]
  | p :: r, j, h => by
    have h' : ¬ (k = p.1 ∨ k ∈ keys r) := by simpa [keys] using h
    rw [List.cons_append]
    by_cases e : p.1 = j
    · have : ¬ j = k := fun z => h' (.inl (z.symm.trans e.symm))
      rw [getA_pos e, if_neg this, getA_pos e]
    · rw [getA_neg e, getA_neg e]
      exact getA_append j fun m => h' (.inr m)
theorem getA_put (D : List (Int × β)) (k j : Int) (v : β) : getA (putA D k v) j = if j = k then some v else getA D j := by
  unfold putA
  by_cases h : k ∈ keys D
  · rw [if_pos (any_iff.mpr h)]
    by_cases e : j = k
    · rw [if_pos e, e]; exact getA_map_same h
    · rw [if_neg e]; exact getA_map_other e D
  · rw [if_neg fun z => h (any_iff.mp z)]
    exact getA_append j h
theorem keys_put (D : List (Int × β)) (k : Int) (v : β) : keys (putA D k v) = if k ∈ keys D then keys D else keys D ++ [k] := by
  unfold putA
  by_cases h : k ∈ keys D
  · rw [if_pos (any_iff.mpr h), if_pos h]
    unfold keys
    rw [List.map_map]
    apply List.map_congr_left
    intro p _
    by_cases e : p.1 = k <;> simp [e]
  · rw [if_neg fun z => h (any_iff.mp z), if_neg h]
    simp [keys]
theorem mem_keys_put {D : List (Int × β)} {k x : Int} {v : β} : x ∈ keys (putA D k v) ↔ x = k ∨ x ∈ keys D := by
  rw [keys_put]
  by_cases h : k ∈ keys D
  · rw [if_pos h]
    exact ⟨.inr, fun z => z.elim (fun e => e ▸ h) id⟩
  · rw [if_neg h, List.mem_append, List.mem_singleton]
    exact Or.comm
theorem nodup_put {D : List (Int × β)} (k : Int) (v : β) (hn : (keys D).Nodup) : (keys (putA D k v)).Nodup := by
  rw [keys_put]
  by_cases h : k ∈ keys D
  · rw [if_pos h]; exact hn
  · rw [if_neg h]
    rw [List.nodup_append]
    refine ⟨hn, by simp, fun a ha b hb e => ?_⟩
    rw [List.mem_singleton.mp hb] at e
    exact h (e ▸ ha)
theorem mem_put {D : List (Int × β)} {k : Int} {v : β} {p : Int × β} (h : p ∈ putA D k v) : p = (k, v) ∨ p ∈ D := by
  unfold putA at h
  split at h
  · obtain ⟨q, hq, e⟩ := List.mem_map.mp h
    by_cases z : q.1 = k
    · rw [if_pos z] at e
      left
      rw [← e, z]
    · rw [if_neg z] at e
      right
      rw [← e]; exact hq
  · rcases List.mem_append.mp h with h | h
    · exact .inr h
    · exact .inl (List.mem_singleton.mp h)
theorem length_put (D : List (Int × β)) (k : Int) (v : β) : (putA D k v).length ≤ D.length + 1 := by
  unfold putA
  split
  · rw [List.length_map]; omega
  · rw [List.length_append]; exact Nat.le_refl _
end

/-- d.get(k, 0) -/
def look (D : PL) (k : Int) : Int := (getA D k).getD 0
theorem look_nil {k : Int} : look [] k = 0 := rfl
theorem look_none {D : PL} {k : Int} (h : k ∉ keys D) : look D k = 0 := by rw [look, getA_none h]; rfl
theorem look_of {D : PL} (hn : (keys D).Nodup) {p : Int × Int} (h : p ∈ D) : look D p.1 = p.2 := by rw [look, getA_of hn h]; rfl
theorem look_mem {D : PL} {k : Int} (h : k ∈ keys D) : (k, look D k) ∈ D := by
  obtain ⟨v, e⟩ := getA_some_of_key h
  have : look D k = v := by rw [look, e]; rfl
  rw [this]; exact getA_mem e
theorem look_put (D : PL) (k j v : Int) : look (putA D k v) j = if j = k then v else look D j := by
  unfold look
  rw [getA_put]
  split <;> rfl
def addAt (D : PL) (k v : Int) : PL := putA D k (look D k + v)
theorem look_addAt (D : PL) (k v x : Int) : look (addAt D k v) x = look D x + (if x = k then v else 0) := by
  unfold addAt
  rw [look_put]
  by_cases e : x = k
  · rw [if_pos e, if_pos e, e]
  · rw [if_neg e, if_neg e]; omega
theorem mem_keys_addAt {D : PL} {k v x : Int} : x ∈ keys (addAt D k v) ↔ x = k ∨ x ∈ keys D := mem_keys_put
theorem nodup_addAt {D : PL} (k v : Int) (h : (keys D).Nodup) : (keys (addAt D k v)).Nodup := nodup_put _ _ h
theorem length_addAt (D : PL) (k v : Int) : (addAt D k v).length ≤ D.length + 1 := length_put _ _ _

/-- one triple: so many to the left, so many to the right -/
def spread1 (D : PL) (t : Int × Int × Int) : PL := addAt (addAt D (t.1 - 1) t.2.1) (t.1 + 1) t.2.2
def spread (T : List (Int × Int × Int)) (D : PL) : PL := T.foldl spread1 D
def toX (x : Int) (t : Int × Int × Int) : Int := (if x = t.1 - 1 then t.2.1 else 0) + (if x = t.1 + 1 then t.2.2 else 0)
theorem look_spread1 (D : PL) (t : Int × Int × Int) (x : Int) : look (spread1 D t) x = look D x + toX x t := by
  unfold spread1 toX
  rw [look_addAt, look_addAt]
  omega
theorem look_spread : ∀ (T : List (Int × Int × Int)) (D : PL) (x : Int), look (spread T D) x = look D x + (T.map (toX x)).sum
  | [], D, x => by simp [spread]
  | t :: T, D, x => by
    show look (spread T (spread1 D t)) x = _
    rw [look_spread T, look_spread1, List.map_cons, List.sum_cons]
    omega
theorem mem_keys_spread : ∀ (T : List (Int × Int × Int)) (D : PL) (x : Int), x ∈ keys (spread T D) ↔ x ∈ keys D ∨ ∃ t ∈ T, x = t.1 - 1 ∨ x = t.1 + 1
  | [], D, x => by simp [spread]
  | t :: T, D, x => by
    show x ∈ keys (spread T (spread1 D t)) ↔ _
    rw [mem_keys_spread T]
    unfold spread1
    rw [mem_keys_addAt, mem_keys_addAt]
    simp only [List.mem_cons, exists_eq_or_imp]
    constructor
    · rintro ((h | h | h) | h)
      · exact .inr (.inl (.inr h))
      · exact .inr (.inl (.inl h))
      · exact .inl h
      · exact .inr (.inr h)
    · rintro (h | (h | h) | h)
      · exact .inl (.inr (.inr h))
      · exact .inl (.inr (.inl h))
      · exact .inl (.inl h)
      · exact .inr h
theorem nodup_spread : ∀ (T : List (Int × Int × Int)) {D : PL}, (keys D).Nodup → (keys (spread T D)).Nodup
  | [], _, h => h
  | _ :: T, _, h => nodup_spread T (nodup_addAt _ _ (nodup_addAt _ _ h))
theorem length_spread : ∀ (T : List (Int × Int × Int)) (D : PL), (spread T D).length ≤ D.length + 2 * T.length
  | [], D => by simp [spread]
  | t :: T, D => by
    have h1 := length_spread T (spread1 D t)
    have h2 := length_addAt (addAt D (t.1 - 1) t.2.1) (t.1 + 1) t.2.2
    have h3 := length_addAt D (t.1 - 1) t.2.1
    have h4 : (spread1 D t).length ≤ D.length + 2 := by unfold spread1; omega
    have h5 : (spread (t :: T) D).length = (spread T (spread1 D t)).length := rfl
    rw [h5, List.length_cons]; omega
/-- the sum over triples of unlike spots is told by their look-ups -/
theorem sum_toX : ∀ (T : List (Int × Int × Int)) (x : Int), (T.map (·.1)).Nodup → (T.map (toX x)).sum = look (T.map fun t => (t.1, t.2.1)) (x + 1) + look (T.map fun t => (t.1, t.2.2)) (x - 1)
  | [], x, _ => by simp [look, getA]
  | t :: T, x, h => by
    have h' : (t.1 :: T.map (·.1)).Nodup := h
    obtain ⟨h1, h2⟩ := List.nodup_cons.mp h'
    have ih := sum_toX T x h2
    rw [List.map_cons, List.sum_cons, ih, List.map_cons, List.map_cons]
    have n1 : ∀ y, t.1 = y → look (T.map fun t => (t.1, t.2.1)) y = 0 := fun y e => look_none (by
      intro m
      apply h1
      rw [e]
      simpa [keys, List.map_map] using m)
    have n2 : ∀ y, t.1 = y → look (T.map fun t => (t.1, t.2.2)) y = 0 := fun y e => look_none (by
      intro m
      apply h1
      rw [e]
      simpa [keys, List.map_map] using m)
    have c1 : look ((t.1, t.2.1) :: T.map fun t => (t.1, t.2.1)) (x + 1) = (if x = t.1 - 1 then t.2.1 else 0) + look (T.map fun t => (t.1, t.2.1)) (x + 1) := by
      by_cases e : t.1 = x + 1
      · rw [n1 _ e, if_pos (by omega)]
        unfold look
        rw [getA_cons, if_pos e]
        simp
      · rw [if_neg (by omega)]
        unfold look
        rw [getA_cons, if_neg e]
        simp
    have c2 : look ((t.1, t.2.2) :: T.map fun t => (t.1, t.2.2)) (x - 1) = (if x = t.1 + 1 then t.2.2 else 0) + look (T.map fun t => (t.1, t.2.2)) (x - 1) := by
      by_cases e : t.1 = x - 1
      · rw [n2 _ e, if_pos (by omega)]
        unfold look
        rw [getA_cons, if_pos e]
        simp
      · rw [if_neg (by omega)]
        unfold look
        rw [getA_cons, if_neg e]
        simp
    rw [c1, c2]
    unfold toX
    omega
/-- every value laid by spread has a property that sums keep -/
theorem all_addAt {P : Int → Prop} (hadd : ∀ a b, P a → P b → P (a + b)) {D : PL} (k : Int) {v : Int} (hD : ∀ p ∈ D, P p.2) (hv : P v) : ∀ p ∈ addAt D k v, P p.2 := fun p hp => by
  rcases mem_put hp with e | h
  · subst e
    by_cases m : k ∈ keys D
    · exact hadd _ _ (hD _ (look_mem m)) hv
    · show P (look D k + v)
      rw [look_none m, Int.zero_add]; exact hv
  · exact hD p h
theorem all_spread {P : Int → Prop} (hadd : ∀ a b, P a → P b → P (a + b)) : ∀ (T : List (Int × Int × Int)) {D : PL}, (∀ p ∈ D, P p.2) → (∀ t ∈ T, P t.2.1 ∧ P t.2.2) → ∀ p ∈ spread T D, P p.2
  | [], _, hD, _ => hD
  | t :: T, D, hD, hT => by
    have ht := hT t List.mem_cons_self
    exact all_spread hadd T (D := spread1 D t) (all_addAt hadd _ (all_addAt hadd _ hD ht.1) ht.2) fun u hu => hT u (List.mem_cons_of_mem _ hu)

/-! ### ascending lists -/
theorem asc_ext {α : Type} {f : α → Int} : ∀ {L M : List α}, L.Pairwise (fun x y => f x < f y) → M.Pairwise (fun x y => f x < f y) → (∀ x, x ∈ L ↔ x ∈ M) → L = M
  | [], [], _, _, _ => rfl
  | [], y :: M, _, _, h => by have := (h y).mpr List.mem_cons_self; cases this
  | x :: L, [], _, _, h => by have := (h x).mp List.mem_cons_self; cases this
  | x :: L, y :: M, hl, hm, h => by
    obtain ⟨l1, l2⟩ := List.pairwise_cons.mp hl
    obtain ⟨m1, m2⟩ := List.pairwise_cons.mp hm
    have e : x = y := by
      rcases List.mem_cons.mp ((h x).mp List.mem_cons_self) with e | h1
      · exact e
      rcases List.mem_cons.mp ((h y).mpr List.mem_cons_self) with e | h2
      · exact e.symm
      have := l1 y h2
      have := m1 x h1
      omega
    subst e
    congr 1
    refine asc_ext l2 m2 fun z => ⟨fun hz => ?_, fun hz => ?_⟩
    · rcases List.mem_cons.mp ((h z).mp (List.mem_cons_of_mem _ hz)) with e | h1
      · have := l1 z hz
        rw [e] at this
        omega
      · exact h1
    · rcases List.mem_cons.mp ((h z).mpr (List.mem_cons_of_mem _ hz)) with e | h1
      · have := m1 z hz
        rw [e] at this
        omega
      · exact h1
theorem lt_of_le : ∀ {ns : List Int}, ns.Pairwise (· ≤ ·) → ns.Nodup → ns.Pairwise (· < ·)
  | [], _, _ => List.Pairwise.nil
  | x :: r, h, hn => by
    obtain ⟨h1, h2⟩ := List.pairwise_cons.mp h
    obtain ⟨n1, n2⟩ := List.nodup_cons.mp hn
    refine List.pairwise_cons.mpr ⟨fun y hy => ?_, lt_of_le h2 n2⟩
    have := h1 y hy
    have : x ≠ y := fun e => n1 (e ▸ hy)
    omega
theorem nodup_of_lt {ns : List Int} (h : ns.Pairwise (· < ·)) : ns.Nodup := h.imp fun {a b} q => by omega

/-- ascending by spot -/
def Asc (L : PL) : Prop := L.Pairwise fun p q => p.1 < q.1
theorem Asc.keys {L : PL} (h : Asc L) : (keys L).Pairwise (· < ·) := List.pairwise_map.mpr h
theorem Asc.nodup {L : PL} (h : Asc L) : (NK.keys L).Nodup := nodup_of_lt h.keys
theorem asc_of {L : PL} (h : L.Pairwise fun p q => p.1 ≤ q.1) (hn : (NK.keys L).Nodup) : Asc L := by
  have : (NK.keys L).Pairwise (· ≤ ·) := List.pairwise_map.mpr h
  exact List.pairwise_map.mp (lt_of_le this hn)
theorem keys_perm {β : Type} {L M : List (Int × β)} (h : L.Perm M) : (keys L).Perm (keys M) := h.map _
theorem nodup_perm {β : Type} {L M : List (Int × β)} (h : L.Perm M) (hn : (keys M).Nodup) : (keys L).Nodup := (keys_perm h).nodup_iff.mpr hn
theorem look_perm {L M : PL} (h : L.Perm M) (hn : (keys M).Nodup) (x : Int) : look L x = look M x := by
  by_cases m : x ∈ keys M
  · have h1 := look_mem m
    have h2 := look_of (nodup_perm h hn) (h.mem_iff.mpr h1)
    exact h2
  · rw [look_none m, look_none fun z => m ((keys_perm h).mem_iff.mp z)]
/-- ascending, each heap above 0 -/
structure Canon (L : PL) : Prop where
  asc : Asc L
  pos : ∀ p ∈ L, 0 < p.2
theorem Canon.mem {L : PL} (h : Canon L) (p : Int × Int) : p ∈ L ↔ look L p.1 = p.2 ∧ 0 < p.2 := by
  constructor
  · intro m
    exact ⟨look_of h.asc.nodup m, h.pos p m⟩
  · rintro ⟨e, q⟩
    by_cases m : p.1 ∈ keys L
    · have := look_mem m
      rw [e] at this
      exact this
    · rw [look_none m] at e
      omega
theorem Canon.key {L : PL} (h : Canon L) (x : Int) : x ∈ keys L ↔ 0 < look L x := by
  constructor
  · intro m
    exact h.pos _ (look_mem m)
  · intro q
    by_cases m : x ∈ keys L
    · exact m
    · rw [look_none m] at q
      omega
theorem Canon.look_nn {L : PL} (h : Canon L) (x : Int) : 0 ≤ look L x := by
  by_cases m : x ∈ keys L
  · exact Int.le_of_lt ((h.key x).mp m)
  · rw [look_none m]; exact Int.le_refl _
theorem canon_ext {L M : PL} (hL : Canon L) (hM : Canon M) (h : ∀ x, look L x = look M x) : L = M := by
  refine asc_ext (f := fun p : Int × Int => p.1) (show L.Pairwise _ from hL.asc) (show M.Pairwise _ from hM.asc) fun p => ?_
  rw [hL.mem, hM.mem, h]
/-- what is above 0, sorted -/
theorem canon_sort {D L : PL} (hn : (keys D).Nodup) (h0 : ∀ p ∈ D, 0 ≤ p.2) (hp : L.Perm (D.filter fun p => decide (0 < p.2))) (hs : L.Pairwise fun p q => p.1 ≤ q.1) :
    Canon L ∧ ∀ x, look L x = look D x := by
  have hf : (keys (D.filter fun p => decide (0 < p.2))).Nodup := List.Sublist.nodup (List.Sublist.map _ (List.filter_sublist)) hn
  have hnL := nodup_perm hp hf
  refine ⟨⟨asc_of hs hnL, fun p m => ?_⟩, fun x => ?_⟩
  · have := (List.mem_filter.mp (hp.mem_iff.mp m)).2
    exact of_decide_eq_true this
  · rw [look_perm hp hf]
    by_cases m : x ∈ keys D
    · have hm := look_mem m
      have nn := h0 _ hm
      by_cases q : 0 < look D x
      · have : (x, look D x) ∈ D.filter fun p => decide (0 < p.2) := List.mem_filter.mpr ⟨hm, decide_eq_true q⟩
        exact look_of hf this
      · have e0 : look D x = 0 := by simp at nn; omega
        rw [e0]
        by_cases m2 : x ∈ keys (D.filter fun p => decide (0 < p.2))
        · have h3 := look_mem m2
          obtain ⟨h4, h5⟩ := List.mem_filter.mp h3
          have h6 := look_of hn h4
          have h7 := of_decide_eq_true h5
          simp at h6 h7
          omega
        · exact look_none m2
    · rw [look_none m, look_none]
      intro z
      obtain ⟨p, hp', e⟩ := List.mem_map.mp z
      exact m (List.mem_map.mpr ⟨p, (List.mem_filter.mp hp').1, e⟩)

/-! ### a tick -/
def toL (S : List Int) (y m : Int) : Int := if y ∈ S then m - m / 2 else m / 2
def toR (S : List Int) (y m : Int) : Int := if y ∈ S then m / 2 else m - m / 2
def sentOn (L : PL) (S : List Int) : List (Int × Int × Int) := L.map fun p => (p.1, toL S p.1 p.2, toR S p.1 p.2)
theorem sentOn_keys (L : PL) (S : List Int) : (sentOn L S).map (·.1) = keys L := by
  unfold sentOn keys
  rw [List.map_map]
  rfl
theorem look_mapf {f : Int → Int → Int} (hf : ∀ y, f y 0 = 0) : ∀ (L : PL) (y : Int), look (L.map fun p => (p.1, f p.1 p.2)) y = f y (look L y)
  | [], y => by rw [List.map_nil, look_nil, hf]
  | p :: L, y => by
    rw [List.map_cons]
    unfold look
    rw [getA_cons]
    by_cases e : p.1 = y
    · rw [if_pos e, getA_pos e]
      simp [e]
    · rw [if_neg e, getA_neg e]
      exact look_mapf hf L y
theorem look_adv (L : PL) (S : List Int) (hn : (keys L).Nodup) (x : Int) : look (spread (sentOn L S) []) x = toL S (x + 1) (look L (x + 1)) + toR S (x - 1) (look L (x - 1)) := by
  rw [look_spread, look_nil, sum_toX _ _ (by rw [sentOn_keys]; exact hn)]
  have e1 : (sentOn L S).map (fun t => (t.1, t.2.1)) = L.map fun p => (p.1, toL S p.1 p.2) := by unfold sentOn; rw [List.map_map]; rfl
  have e2 : (sentOn L S).map (fun t => (t.1, t.2.2)) = L.map fun p => (p.1, toR S p.1 p.2) := by unfold sentOn; rw [List.map_map]; rfl
  rw [e1, e2, look_mapf (fun y => by simp [toL]), look_mapf (fun y => by simp [toR])]
  omega
theorem adv_nn (L : PL) (S : List Int) (h : ∀ p ∈ L, 0 ≤ p.2) : ∀ p ∈ spread (sentOn L S) [], 0 ≤ p.2 := by
  refine all_spread (P := fun v => 0 ≤ v) (fun a b x y => by omega) _ (fun p hp => by cases hp) fun t ht => ?_
  obtain ⟨p, hp, e⟩ := List.mem_map.mp ht
  have := h p hp
  subst e
  unfold toL toR
  split <;> (refine ⟨?_, ?_⟩ <;> simp only <;> omega)
/-- the heaps behind a tick -/
theorem tick_heaps {L L' : PL} {S : List Int} (hL : Canon L) (hp : L'.Perm ((spread (sentOn L S) []).filter fun p => decide (0 < p.2))) (hs : L'.Pairwise fun p q => p.1 ≤ q.1) :
    Canon L' ∧ ∀ x, look L' x = toL S (x + 1) (look L (x + 1)) + toR S (x - 1) (look L (x - 1)) := by
  obtain ⟨h1, h2⟩ := canon_sort (nodup_spread _ (by simp [keys])) (adv_nn L S fun p m => Int.le_of_lt (hL.pos p m)) hp hs
  refine ⟨h1, fun x => ?_⟩
  rw [h2, look_adv _ _ hL.asc.nodup]

/-! ### the hands -/
def lb (D : List (Int × Bool)) (x : Int) : Bool := (getA D x).getD false
def toggle1 (D : List (Int × Bool)) (t : Int × Int × Int) : List (Int × Bool) := if t.2.1 = t.2.2 then D else putA D t.1 (!(lb D t.1))
def toggles (T : List (Int × Int × Int)) (D : List (Int × Bool)) : List (Int × Bool) := T.foldl toggle1 D
def leftsD (S : List Int) : List (Int × Bool) := S.foldl (fun D x => putA D x true) []
theorem lb_put (D : List (Int × Bool)) (k : Int) (b : Bool) (x : Int) : lb (putA D k b) x = if x = k then b else lb D x := by
  unfold lb
  rw [getA_put]
  split <;> rfl
theorem nodup_toggles : ∀ (T : List (Int × Int × Int)) {D : List (Int × Bool)}, (keys D).Nodup → (keys (toggles T D)).Nodup
  | [], _, h => h
  | t :: T, D, h => by
    show (keys (toggles T (toggle1 D t))).Nodup
    refine nodup_toggles T ?_
    unfold toggle1
    split
    · exact h
    · exact nodup_put _ _ h
theorem length_toggles : ∀ (T : List (Int × Int × Int)) (D : List (Int × Bool)), (toggles T D).length ≤ D.length + T.length
  | [], D => Nat.le_refl _
  | t :: T, D => by
    have h := length_toggles T (toggle1 D t)
    have h2 : (toggle1 D t).length ≤ D.length + 1 := by
      unfold toggle1
      split
      · omega
      · exact length_put _ _ _
    show (toggles T (toggle1 D t)).length ≤ _
    rw [List.length_cons]
    omega
theorem leftsD_go : ∀ (S : List Int) (D : List (Int × Bool)), (keys D).Nodup → (keys (S.foldl (fun D x => putA D x true) D)).Nodup ∧ (∀ x, lb (S.foldl (fun D x => putA D x true) D) x = (decide (x ∈ S) || lb D x)) ∧ (S.foldl (fun D x => putA D x true) D).length ≤ D.length + S.length
  | [], D, h => ⟨h, fun x => by simp, Nat.le_refl _⟩
  | s :: S, D, h => by
    obtain ⟨h1, h2, h3⟩ := leftsD_go S (putA D s true) (nodup_put _ _ h)
    have h4 := length_put D s true
    refine ⟨h1, fun x => ?_, by rw [List.length_cons]; simp only [List.foldl_cons]; omega⟩
    rw [List.foldl_cons, h2, lb_put]
    by_cases e : x = s <;> by_cases m : x ∈ S <;> simp [e, m]
theorem leftsD_nodup (S : List Int) : (keys (leftsD S)).Nodup := (leftsD_go S [] (by simp [keys])).1
theorem lb_leftsD (S : List Int) (x : Int) : lb (leftsD S) x = decide (x ∈ S) := by
  have := (leftsD_go S [] (by simp [keys])).2.1 x
  rw [show lb (leftsD S) x = _ from this]
  simp [lb, getA]
theorem leftsD_length (S : List Int) : (leftsD S).length ≤ S.length := by
  have := (leftsD_go S [] (by simp [keys])).2.2
  simpa [leftsD] using this
theorem lr_iff (S : List Int) (y m : Int) : toL S y m = toR S y m ↔ ¬ m % 2 = 1 := by
  unfold toL toR
  split <;> omega
theorem lb_toggles (S : List Int) : ∀ (L : PL) (D : List (Int × Bool)) (x : Int), (keys L).Nodup → lb (toggles (sentOn L S) D) x = (lb D x ^^ decide (look L x % 2 = 1))
  | [], D, x, _ => by simp [toggles, sentOn, look, getA]
  | p :: L, D, x, hn => by
    have hn' : (p.1 :: keys L).Nodup := hn
    obtain ⟨n1, n2⟩ := List.nodup_cons.mp hn'
    have e0 : toggles (sentOn (p :: L) S) D = toggles (sentOn L S) (toggle1 D (p.1, toL S p.1 p.2, toR S p.1 p.2)) := rfl
    rw [e0, lb_toggles S L _ x n2]
    have e1 : look (p :: L) x = if p.1 = x then p.2 else look L x := by
      unfold look
      by_cases e : p.1 = x
      · rw [getA_pos e, if_pos e]; rfl
      · rw [getA_neg e, if_neg e]
    rw [e1]
    by_cases e : p.1 = x
    · rw [if_pos e, look_none (by rw [← e]; exact n1)]
      unfold toggle1
      by_cases q : p.2 % 2 = 1
      · rw [if_neg (fun z => ((lr_iff S p.1 p.2).mp z) q), lb_put, if_pos e.symm, e]
        simp [q]
      · rw [if_pos ((lr_iff S p.1 p.2).mpr q)]
        simp [q]
    · rw [if_neg e]
      congr 1
      unfold toggle1
      split
      · rfl
      · rw [lb_put, if_neg fun z => e z.symm]
/-- the hands behind a tick -/
theorem tick_hands {L : PL} {S S' : List Int} (hL : (keys L).Nodup) (hp : S'.Perm (((toggles (sentOn L S) (leftsD S)).filter (·.2)).map (·.1))) (hs : S'.Pairwise (· ≤ ·)) :
    S'.Pairwise (· < ·) ∧ ∀ x, x ∈ S' ↔ ((decide (x ∈ S) ^^ decide (look L x % 2 = 1)) = true) := by
  have hn := nodup_toggles (sentOn L S) (leftsD_nodup S)
  have hn2 : (((toggles (sentOn L S) (leftsD S)).filter (·.2)).map (·.1)).Nodup := List.Sublist.nodup (List.Sublist.map _ (List.filter_sublist)) hn
  refine ⟨lt_of_le hs (hp.nodup_iff.mpr hn2), fun x => ?_⟩
  rw [hp.mem_iff, ← lb_leftsD S x, ← lb_toggles S L (leftsD S) x hL]
  rw [List.mem_map]
  constructor
  · rintro ⟨p, hm, e⟩
    obtain ⟨h1, h2⟩ := List.mem_filter.mp hm
    unfold lb
    rw [← e, getA_of hn h1]
    exact h2
  · intro h
    unfold lb at h
    cases q : getA (toggles (sentOn L S) (leftsD S)) x with
    | none => rw [q] at h; cases h
    | some b =>
      rw [q] at h
      exact ⟨(x, b), List.mem_filter.mpr ⟨getA_mem q, h⟩, rfl⟩

/-! ### own halving -/
def halveStep (D : PL) : PL := spread (D.map fun p => (p.1, p.2 / 2, p.2 / 2)) []
def halved (D : PL) : Nat → PL
  | 0 => D
  | n + 1 => halveStep (halved D n)
theorem halve_nodup (D : PL) : (keys (halveStep D)).Nodup := nodup_spread _ (by simp [keys])
theorem halved_nodup {D : PL} (h : (keys D).Nodup) : ∀ n, (keys (halved D n)).Nodup
  | 0 => h
  | _ + 1 => halve_nodup _
theorem look_halve {D : PL} (hn : (keys D).Nodup) (x : Int) : look (halveStep D) x = look D (x + 1) / 2 + look D (x - 1) / 2 := by
  unfold halveStep
  rw [look_spread, look_nil, sum_toX _ _ (by rw [List.map_map]; exact hn)]
  rw [List.map_map]
  have e1 : D.map ((fun t : Int × Int × Int => (t.1, t.2.1)) ∘ fun p => (p.1, p.2 / 2, p.2 / 2)) = D.map fun p => (p.1, (fun _ m => m / 2 : Int → Int → Int) p.1 p.2) := rfl
  rw [e1, List.map_map]
  have e2 : D.map ((fun t : Int × Int × Int => (t.1, t.2.2)) ∘ fun p => (p.1, p.2 / 2, p.2 / 2)) = D.map fun p => (p.1, (fun _ m => m / 2 : Int → Int → Int) p.1 p.2) := rfl
  rw [e2]
  have e3 : ∀ y, look (D.map fun p => (p.1, (fun _ m => m / 2 : Int → Int → Int) p.1 p.2)) y = look D y / 2 := fun y => look_mapf (f := fun _ m => m / 2) (fun y => by simp) D y
  rw [e3, e3]
  omega
theorem halve_keys (D : PL) (x : Int) : x ∈ keys (halveStep D) ↔ ∃ y ∈ keys D, x = y - 1 ∨ x = y + 1 := by
  unfold halveStep
  rw [mem_keys_spread]
  constructor
  · rintro (h | ⟨t, ht, h⟩)
    · simp [keys] at h
    · obtain ⟨p, hp, e⟩ := List.mem_map.mp ht
      subst e
      exact ⟨p.1, List.mem_map.mpr ⟨p, hp, rfl⟩, h⟩
  · rintro ⟨y, hy, h⟩
    obtain ⟨p, hp, e⟩ := List.mem_map.mp hy
    subst e
    exact .inr ⟨_, List.mem_map.mpr ⟨p, hp, rfl⟩, h⟩
theorem halve_length (D : PL) : (halveStep D).length ≤ 2 * D.length := by
  have := length_spread (D.map fun p => (p.1, p.2 / 2, p.2 / 2)) []
  rw [List.length_map] at this
  simpa [halveStep] using this
/-- each value above 0 and a multiple of d -/
def Mult (d : Int) (D : PL) : Prop := ∀ p ∈ D, 0 < p.2 ∧ ∃ c, p.2 = d * c
theorem halve_mult {d : Int} {D : PL} (h : Mult (2 * d) D) : Mult d (halveStep D) := by
  refine all_spread (P := fun v => 0 < v ∧ ∃ c, v = d * c) (fun a b x y => ⟨by omega, ?_⟩) _ (fun p hp => by cases hp) fun t ht => ?_
  · obtain ⟨_, c, e⟩ := x
    obtain ⟨_, c', e'⟩ := y
    exact ⟨c + c', by rw [e, e', Int.mul_add]⟩
  · obtain ⟨p, hp, e⟩ := List.mem_map.mp ht
    obtain ⟨h1, c, h2⟩ := h p hp
    subst e
    have h3 : p.2 = 2 * (d * c) := by rw [h2, Int.mul_assoc]
    have h4 : p.2 / 2 = d * c := by omega
    have h5 : 0 < p.2 / 2 := by omega
    exact ⟨⟨h5, c, h4⟩, ⟨h5, c, h4⟩⟩
theorem halved_mult {D : PL} {T : Nat} (h : Mult (2 ^ T) D) : ∀ n, n ≤ T → Mult (2 ^ (T - n)) (halved D n)
  | 0, _ => h
  | n + 1, hn => by
    have ih := halved_mult h n (by omega)
    have e : T - n = (T - (n + 1)) + 1 := by omega
    rw [e, Int.pow_succ, Int.mul_comm] at ih
    exact halve_mult ih
theorem Mult.pos {d : Int} {D : PL} (h : Mult d D) : ∀ p ∈ D, 0 < p.2 := fun p m => (h p m).1
theorem mult_look {d : Int} {D : PL} (h : Mult d D) (x : Int) : ∃ c, look D x = d * c := by
  by_cases m : x ∈ keys D
  · exact (h _ (look_mem m)).2
  · exact ⟨0, by rw [look_none m]; simp⟩

/-! ### the two lines -/
/-- the second line is the first with D laid on -/
def Laid (A B D : PL) : Prop := ∀ x, look B x = look A x + look D x
theorem laid_tick {A A' B B' D : PL} {S : List Int} (hA : ∀ x, look A' x = toL S (x + 1) (look A (x + 1)) + toR S (x - 1) (look A (x - 1)))
    (hB : ∀ x, look B' x = toL S (x + 1) (look B (x + 1)) + toR S (x - 1) (look B (x - 1))) (hn : (keys D).Nodup) {d : Int} (hD : Mult (2 * d) D) (h : Laid A B D) : Laid A' B' (halveStep D) := by
  intro x
  rw [hA, hB, look_halve hn, h, h]
  obtain ⟨c1, e1⟩ := mult_look hD (x + 1)
  obtain ⟨c2, e2⟩ := mult_look hD (x - 1)
  rw [Int.mul_assoc] at e1 e2
  generalize d * c1 = u1 at e1
  generalize d * c2 = u2 at e2
  rw [e1, e2]
  unfold toL toR
  split <;> split <;> omega
theorem laid_odd {A B D : PL} {d : Int} (hD : Mult (2 * d) D) (h : Laid A B D) (x : Int) : look B x % 2 = 1 ↔ look A x % 2 = 1 := by
  obtain ⟨c1, e1⟩ := mult_look hD x
  rw [Int.mul_assoc] at e1
  rw [h, e1]
  omega
/-- the same hands -/
theorem laid_hands {A B D : PL} {S SA SB : List Int} {d : Int} (hD : Mult (2 * d) D) (h : Laid A B D) (a1 : SA.Pairwise (· < ·)) (a2 : ∀ x, x ∈ SA ↔ ((decide (x ∈ S) ^^ decide (look A x % 2 = 1)) = true))
    (b1 : SB.Pairwise (· < ·)) (b2 : ∀ x, x ∈ SB ↔ ((decide (x ∈ S) ^^ decide (look B x % 2 = 1)) = true)) : SA = SB := by
  refine asc_ext (f := fun x => x) a1 b1 fun x => ?_
  rw [a2, b2]
  have := laid_odd hD h x
  by_cases q : look A x % 2 = 1
  · rw [decide_eq_true q, decide_eq_true (this.mpr q)]
  · rw [decide_eq_false q, decide_eq_false fun z => q (this.mp z)]
/-- the odd heaps of a line -/
def odds (A : PL) : List Int := (A.filter fun p => decide (p.2 % 2 = 1)).map (·.1)
theorem odds_asc {A : PL} (h : Canon A) : (odds A).Pairwise (· < ·) := List.Pairwise.sublist (List.Sublist.map _ List.filter_sublist) h.asc.keys
theorem odds_mem {A : PL} (h : Canon A) (x : Int) : x ∈ odds A ↔ look A x % 2 = 1 := by
  unfold odds
  rw [List.mem_map]
  constructor
  · rintro ⟨p, hp, e⟩
    obtain ⟨h1, h2⟩ := List.mem_filter.mp hp
    rw [← e, look_of h.asc.nodup h1]
    exact of_decide_eq_true h2
  · intro q
    by_cases m : x ∈ keys A
    · exact ⟨_, List.mem_filter.mpr ⟨look_mem m, decide_eq_true q⟩, rfl⟩
    · rw [look_none m] at q
      omega
theorem laid_odds {A B D : PL} {d : Int} (hA : Canon A) (hB : Canon B) (hD : Mult (2 * d) D) (h : Laid A B D) : odds A = odds B :=
  asc_ext (f := fun x => x) (odds_asc hA) (odds_asc hB) fun x => by rw [odds_mem hA, odds_mem hB, laid_odd hD h]
/-- both laid together, ascending, are the second line's heaps -/
theorem laid_sum {A B D : PL} {ns : List Int} (hA : Canon A) (hB : Canon B) (hD : ∀ p ∈ D, 0 < p.2) (h : Laid A B D) (h1 : ns.Pairwise (· < ·)) (h2 : ∀ x, x ∈ ns ↔ x ∈ keys A ∨ x ∈ keys D) :
    ns.map (fun x => (x, look A x + look D x)) = B := by
  have hk : ∀ x, x ∈ keys D → 0 < look D x := fun x m => hD _ (look_mem m)
  have hnn : ∀ x, 0 ≤ look D x := fun x => by
    by_cases m : x ∈ keys D
    · exact Int.le_of_lt (hk x m)
    · rw [look_none m]; exact Int.le_refl _
  have hc : Canon (ns.map (fun x => (x, look A x + look D x))) := by
    refine ⟨List.pairwise_map.mpr h1, fun p hp => ?_⟩
    obtain ⟨x, hx, e⟩ := List.mem_map.mp hp
    subst e
    show 0 < look A x + look D x
    have := hA.look_nn x
    have := hnn x
    rcases (h2 x).mp hx with m | m
    · have := (hA.key x).mp m
      omega
    · have := hk x m
      omega
  refine canon_ext hc hB fun x => ?_
  rw [h]
  by_cases m : x ∈ ns
  · exact look_of hc.asc.nodup (p := (x, look A x + look D x)) (List.mem_map.mpr ⟨x, m, rfl⟩)
  · have n1 : x ∉ keys (ns.map (fun x => (x, look A x + look D x))) := by
      intro z
      obtain ⟨p, hp, e⟩ := List.mem_map.mp z
      obtain ⟨y, hy, e2⟩ := List.mem_map.mp hp
      subst e2
      exact m (by rw [← e]; exact hy)
    rw [look_none n1, look_none fun z => m ((h2 x).mpr (.inl z)), look_none fun z => m ((h2 x).mpr (.inr z))]
    rfl

/-! ### the farthest spot -/
theorem far_top {D : PL} {far : Int} (hn : (keys D).Nodup) (hm : far ∈ keys D) (hj : ∀ j ∈ keys D, j ≤ far) : ∀ t : Nat, (far + t ∈ keys (halved D t)) ∧ (∀ j ∈ keys (halved D t), j ≤ far + t) ∧ look (halved D t) (far + t) = look D far / 2 ^ t
  | 0 => by
    refine ⟨by simpa [halved] using hm, fun j m => by have := hj j m; omega, ?_⟩
    show look D (far + ((0 : Nat) : Int)) = look D far / 2 ^ 0
    simp
  | t + 1 => by
    obtain ⟨h1, h2, h3⟩ := far_top hn hm hj t
    refine ⟨(halve_keys _ _).mpr ⟨_, h1, .inr (by omega)⟩, fun j m => ?_, ?_⟩
    · obtain ⟨y, hy, e⟩ := (halve_keys _ _).mp m
      have := h2 y hy
      omega
    · show look (halveStep (halved D t)) _ = _
      rw [look_halve (halved_nodup hn t)]
      have e1 : look (halved D t) (far + ((t + 1 : Nat) : Int) + 1) = 0 := look_none fun z => by
        have := h2 _ z
        omega
      have e2 : far + ((t + 1 : Nat) : Int) - 1 = far + (t : Int) := by omega
      rw [e1, e2, h3, Int.pow_succ]
      have := Int.ediv_ediv_of_nonneg (x := look D far) (y := 2 ^ t) (z := 2) (Int.le_of_lt (Int.pow_pos (by decide)))
      omega

/-! ### dicts of pairs, heaps laid together -/
def fromPairs (L : PL) : PL := L.foldl (fun D p => putA D p.1 p.2) []
theorem fromPairs_go : ∀ (L D : PL), (keys (D ++ L)).Nodup → L.foldl (fun D p => putA D p.1 p.2) D = D ++ L
  | [], D, _ => by simp
  | p :: L, D, h => by
    have h1 : p.1 ∉ keys D := fun m => by
      unfold keys at h m
      rw [List.map_append, List.nodup_append] at h
      exact h.2.2 _ m _ (by simp) rfl
    have e : putA D p.1 p.2 = D ++ [p] := by
      unfold putA
      rw [if_neg fun z => h1 (any_iff.mp z)]
    rw [List.foldl_cons, e, fromPairs_go L (D ++ [p]) (by rw [List.append_assoc]; exact h), List.append_assoc]
    rfl
theorem fromPairs_eq {L : PL} (h : (keys L).Nodup) : fromPairs L = L := by
  have := fromPairs_go L [] (by simpa using h)
  simpa [fromPairs] using this
def joinD (L : PL) (D : PL) : PL := L.foldl (fun D p => addAt D p.1 p.2) D
theorem look_join : ∀ (L D : PL) (x : Int), (keys L).Nodup → look (joinD L D) x = look D x + look L x
  | [], D, x, _ => by simp [joinD, look_nil]
  | p :: L, D, x, h => by
    have hn' : (p.1 :: keys L).Nodup := h
    obtain ⟨n1, n2⟩ := List.nodup_cons.mp hn'
    show look (joinD L (addAt D p.1 p.2)) x = _
    rw [look_join L _ x n2, look_addAt]
    have e1 : look (p :: L) x = if p.1 = x then p.2 else look L x := by
      unfold look
      by_cases e : p.1 = x
      · rw [getA_pos e, if_pos e]; rfl
      · rw [getA_neg e, if_neg e]
    rw [e1]
    by_cases e : p.1 = x
    · rw [if_pos e, if_pos e.symm, look_none (D := L) (by rw [← e]; exact n1)]
      omega
    · rw [if_neg e, if_neg fun z => e z.symm]
      omega
theorem nodup_join : ∀ (L : PL) {D : PL}, (keys D).Nodup → (keys (joinD L D)).Nodup
  | [], _, h => h
  | _ :: L, _, h => nodup_join L (nodup_addAt _ _ h)
theorem keys_join : ∀ (L D : PL) (x : Int), x ∈ keys (joinD L D) ↔ x ∈ keys D ∨ x ∈ keys L
  | [], D, x => by simp [joinD, keys]
  | p :: L, D, x => by
    show x ∈ keys (joinD L (addAt D p.1 p.2)) ↔ _
    rw [keys_join L, mem_keys_addAt]
    have : x ∈ keys (p :: L) ↔ x = p.1 ∨ x ∈ keys L := by simp [keys]
    rw [this]
    constructor
    · rintro ((h | h) | h)
      · exact .inr (.inl h)
      · exact .inl h
      · exact .inr (.inr h)
    · rintro (h | h | h)
      · exact .inl (.inr h)
      · exact .inl (.inl h)
      · exact .inr h
theorem length_join : ∀ (L D : PL), (joinD L D).length ≤ D.length + L.length
  | [], D => Nat.le_refl _
  | p :: L, D => by
    have h := length_join L (addAt D p.1 p.2)
    have h2 := length_addAt D p.1 p.2
    show (joinD L (addAt D p.1 p.2)).length ≤ _
    rw [List.length_cons]
    omega
theorem all_join {P : Int → Prop} (hadd : ∀ a b, P a → P b → P (a + b)) : ∀ (L : PL) {D : PL}, (∀ p ∈ D, P p.2) → (∀ p ∈ L, P p.2) → ∀ p ∈ joinD L D, P p.2
  | [], _, hD, _ => hD
  | p :: L, D, hD, hL => all_join hadd L (D := addAt D p.1 p.2) (all_addAt hadd _ hD (hL p List.mem_cons_self)) fun u hu => hL u (List.mem_cons_of_mem _ hu)
end NK
/-! Rules of this claim's own: a list or a tuple walked, sorted(set(..)), sorted(d.items()), max(d), max(d.values(), default=0), dict(tuple of pairs). -/
namespace NK
open PySem PySem.Spec PyProof.Rows L2

/-! ### a list or a tuple, walked -/
def iSeq (K : PySem.W.Frag) (tl : TE) : TI := fun σ H R => tl σ H fun x H1 => ∃ a xs, x = .ref a ∧ ((SqL K H1 a xs ∧ R (Itl K a) H1) ∨ (SqT K H1 a xs ∧ R (Itt K a) H1))
section
variable {X : Cx} {tg : Expr}
theorem pi_seq {l : Expr} {tl : TE} (hl : PE X l tl) : PI X tg l (iSeq X.K tl) := by
  refine ⟨fun pins s σ H R I h => ?_⟩
  refine thn (hl.run pins s σ H _ I h) fun v s1 ⟨x, H1, I1, r1, q1⟩ => ?_
  obtain ⟨a, xs, e, q⟩ := q1
  subst e
  cases r1
  rcases q with ⟨hq, q⟩ | ⟨hq, q⟩
  · obtain ⟨its, rv, p, hz⟩ := I1.list hq
    refine wpAny_pyIter_list p.isList ?_
    refine ⟨s1.heap.objs.size, [s1.heap.objs.size], _, _, H1, rfl, I1.kept (t' := s1.toks) fun b o e => Heap.get?_push_of_some _ e, turn_list a _, ⟨_, Heap.get?_push_size _ rfl, rfl, rfl⟩, fun b hb => ?_, q⟩
    have e : b = s1.heap.objs.size := by simpa using hb
    subst e
    exact I1.fpOk (Nat.le_refl _) (I1.hok.fresh (Nat.le_refl _))
  · obtain ⟨its, rv, p, hz⟩ := I1.tuple hq
    refine wpAny_pyIter_tuple (show s1.heap.IsTuple a its.toArray from p) ?_
    refine ⟨s1.heap.objs.size, [s1.heap.objs.size], _, _, H1, rfl, I1.kept (t' := s1.toks) fun b o e => Heap.get?_push_of_some _ e, turn_tuple a _, ⟨_, Heap.get?_push_size _ rfl, rfl, rfl⟩, fun b hb => ?_, q⟩
    have e : b = s1.heap.objs.size := by simpa using hb
    subst e
    exact I1.fpOk (Nat.le_refl _) (I1.hok.fresh (Nat.le_refl _))
end

/-! ### heaps that grow -/
theorem same_new {H H1 : Hp} {p : Addr} {o : HO} (s : Same H H1) (h : H1 p = none) : Same H (upd H1 p o) := fun b u e => by
  rw [upd_ne (ne_of_none (s b u e) h)]
  exact s b u e
theorem same_put {H H1 : Hp} {p : Addr} {o : HO} (s : Same H H1) (h : H p = none) : Same H (upd H1 p o) := fun b u e => by
  rw [upd_ne (ne_of_none e h)]
  exact s b u e
theorem same_seqT {K : PySem.W.Frag} {H H' : Hp} {a : Addr} {xs : List V} (e : Same H H') (h : SqT K H a xs) : SqT K H' a xs := by
  rcases h with (h | ⟨o, h⟩) | h
  · exact .inl (.inl (e _ _ h))
  · exact .inl (.inr ⟨o, e _ _ h⟩)
  · exact .inr h
/-- a list or a tuple of these stands at a -/
def SqS (K : PySem.W.Frag) (H : Hp) (a : Addr) (xs : List V) : Prop := SqL K H a xs ∨ SqT K H a xs
theorem SqS.same {K : PySem.W.Frag} {H H' : Hp} {a : Addr} {xs : List V} (e : Same H H') (h : SqS K H a xs) : SqS K H' a xs := h.imp e.seq (same_seqT e)

/-- a comprehension's word: the new list at D holds acc, all that stood stands -/
def LcI (H1 : Hp) (D : Addr) (Pv : Nat → List V → Hp → Prop) (i : Nat) (H : Hp) : Prop := ∃ acc, H D = some (.lst acc) ∧ Same H1 H ∧ acc.length ≤ i ∧ Pv i acc H
theorem LcI.push {H1 H4 : Hp} {D : Addr} {Pv : Nat → List V → Hp → Prop} {i : Nat} {acc : List V} {y : V} (hD1 : H1 D = none) (hD : H4 D = some (.lst acc)) (s : Same H1 H4) (hl : acc.length ≤ i) (hi : i ≤ 1000)
    (p : Pv (i + 1) (acc ++ [y]) (upd H4 D (.lst (acc ++ [y])))) : ∃ acc, H4 D = some (.lst acc) ∧ acc.length < sizeLine ∧ LcI H1 D Pv (i + 1) (upd H4 D (.lst (acc ++ [y]))) :=
  ⟨acc, hD, small1000 (Nat.le_trans hl hi), acc ++ [y], upd_same, same_put s hD1, by rw [List.length_append]; exact Nat.succ_le_succ hl, p⟩
theorem LcI.skip {H1 H4 : Hp} {D : Addr} {Pv : Nat → List V → Hp → Prop} {i : Nat} {acc : List V} (hD : H4 D = some (.lst acc)) (s : Same H1 H4) (hl : acc.length ≤ i)
    (p : Pv (i + 1) acc H4) : LcI H1 D Pv (i + 1) H4 := ⟨acc, hD, s, Nat.le_succ_of_le hl, p⟩
/-- over a list or a tuple, in one -/
theorem lc_seq {K : PySem.W.Frag} {a : Addr} {xs : List V} {g : TG} {tt : TT} {te : TE} {vs : List Nat} {σ : L2.St} {H1 : Hp} {Qd : Addr → Hp → Prop} (hS : SqS K H1 a xs) (Pv : Nat → List V → Hp → Prop)
    (h0 : ∀ D, H1 D = none → Pv 0 [] (upd H1 D (.lst [])))
    (hs : ∀ D i x acc H, H1 D = none → xs[i]? = some x → H D = some (.lst acc) → Same H1 H → acc.length ≤ i → Pv i acc H → g x (wipe σ vs) H fun σ2 H2 => wipe σ2 vs = wipe σ vs ∧ tt σ2 H2 fun b H3 =>
      if b = true then te σ2 H3 fun y H4 => ∃ acc, H4 D = some (.lst acc) ∧ acc.length < sizeLine ∧ LcI H1 D Pv (i + 1) (upd H4 D (.lst (acc ++ [y]))) else LcI H1 D Pv (i + 1) H3)
    (hd : ∀ D acc H, H1 D = none → H D = some (.lst acc) → Same H1 H → acc.length ≤ xs.length → Pv xs.length acc H → Qd D H) :
    ∃ a' xs', V.ref a = .ref a' ∧ ((SqL K H1 a' xs' ∧ ∀ D, H1 D = none → ∃ W : Nat → Nat → Hp → Prop, (∃ m, W 0 m (upd H1 D (.lst []))) ∧ ∀ i m H, W i m H →
      ((Itl K a').stop i H ∧ Qd D H) ∨ ((Itl K a').go i H ∧ ∃ Nx : Hp → Prop, (∀ H', Nx H' → ∃ m', m' < m ∧ W (i + 1) m' H') ∧ ∀ x H', (Itl K a').yld i H x H' → g x (wipe σ vs) H' fun σ2 H2 => wipe σ2 vs = wipe σ vs ∧ tt σ2 H2 fun b H3 =>
        if b = true then te σ2 H3 fun y H4 => ∃ acc, H4 D = some (.lst acc) ∧ acc.length < sizeLine ∧ Nx (upd H4 D (.lst (acc ++ [y]))) else Nx H3)) ∨
      (SqT K H1 a' xs' ∧ ∀ D, H1 D = none → ∃ W : Nat → Nat → Hp → Prop, (∃ m, W 0 m (upd H1 D (.lst []))) ∧ ∀ i m H, W i m H →
      ((Itt K a').stop i H ∧ Qd D H) ∨ ((Itt K a').go i H ∧ ∃ Nx : Hp → Prop, (∀ H', Nx H' → ∃ m', m' < m ∧ W (i + 1) m' H') ∧ ∀ x H', (Itt K a').yld i H x H' → g x (wipe σ vs) H' fun σ2 H2 => wipe σ2 vs = wipe σ vs ∧ tt σ2 H2 fun b H3 =>
        if b = true then te σ2 H3 fun y H4 => ∃ acc, H4 D = some (.lst acc) ∧ acc.length < sizeLine ∧ Nx (upd H4 D (.lst (acc ++ [y]))) else Nx H3))) := by
  refine ⟨a, xs, rfl, ?_⟩
  have st : ∀ D, H1 D = none → LcI H1 D Pv 0 (upd H1 D (.lst [])) := fun D hD => ⟨[], upd_same, same_put (Same.refl _) hD, Nat.le_refl _, h0 D hD⟩
  rcases hS with hS | hS
  · exact .inl ⟨hS, fun D hD => lc_list (K := K) (a := a) (xs := xs) (LcI H1 D Pv) (st D hD) (fun i H _ ⟨_, _, s, _⟩ => s.seq hS) (fun i x H hx ⟨acc, h1, h2, h3, h4⟩ => hs D i x acc H hD hx h1 h2 h3 h4) fun H ⟨acc, h1, h2, h3, h4⟩ => hd D acc H hD h1 h2 h3 h4⟩
  · exact .inr ⟨hS, fun D hD => lc_tup (K := K) (a := a) (xs := xs) (LcI H1 D Pv) (st D hD) (fun i H _ ⟨_, _, s, _⟩ => same_seqT s hS) (fun i x H hx ⟨acc, h1, h2, h3, h4⟩ => hs D i x acc H hD hx h1 h2 h3 h4) fun H ⟨acc, h1, h2, h3, h4⟩ => hd D acc H hD h1 h2 h3 h4⟩
end NK
namespace NK
open PySem PySem.Spec PyProof.Rows L2

/-! ### set(a list of ints) -/
section
variable {P : Program} {w : World} {A : Around} {E : Value → Shared → Prop} {s : Shared}
/-- the object that set(..) begins with -/
abbrev bare (w : World) : Obj := { cls := .type "set", dict := none, data := .set #[] 0 (.fresh 0 0 (!w.params.followText "set-order")) }
/-- T(args): a class of the model's own, its __init__ checked by its own rule -/
theorem made {T nw ini : String} {B : Builtin} {us : List Value} {Q Q₁ : Value → Shared → Prop} (ft : TypeCalled T nw ini) (ok : checkTypeCall T ⟨us, []⟩ = pure ()) (en : entryFor table ini = some B)
    (new : codeAny (model P w) A.in1 (.call (.builtin nw) ⟨.type T :: us, []⟩) (wants Q₁ E) s)
    (init : ∀ v s₁, Q₁ v s₁ → s₁.TypeIs v T ∧ codeAny (model P w) A.in1 (.call (.builtin ini) ⟨v :: us, []⟩) (wants (fun r s₂ => r = .none ∧ Q v s₂) E) s₁) :
    wpAny (model P w) A (call (.type T) us) Q E s := by
  have mro := ft.mro
  obtain ⟨c, tl, mro⟩ := mro
  have f1 := ft.made
  have f2 := ft.sub
  have f3 := ft.notType
  have f4 := ft.canCreate
  refine wpAny_call (codeAny_of_tree ?_)
  change wpAny _ _ (callAny (.type T) _) _ _ _
  refine wpAny_pure (And.intro (Code.quiet_builtin _ (by decide +kernel)) (codeAny_builtin F.entry_type_call ?_))
  rw [Around.under_plain (weight_type_call_type T us []) rfl]
  repeat' (first | assumption | wp_step)
  refine codeAny_mono new fun r s₁ q => ?_
  match r, q with
  | .error _, q => exact q
  | .ok (.ret v), q =>
    obtain ⟨ty, run⟩ := init v s₁ q
    have f5 := ft.init.lookup
    have f6 := ft.init.bind v
    repeat' (first | assumption | wp_step)
    refine codeAny_mono run fun r₂ s₂ q₂ => ?_
    match r₂, q₂ with
    | .error _, q₂ => exact q₂
    | .ok (.ret r), q₂ =>
      obtain ⟨rfl, q₂⟩ := q₂
      repeat' (first | assumption | wp_step)
theorem set_of_list {l : Addr} {items : Array Value} (ns : List Int) {Q : Value → Shared → Prop} (hh : A.handled = none) (hl : s.heap.IsList l items) (hi : IntsAre items.toList ns) (hb : ns.length + 1 < scanBound)
    (h : ∀ (h' : Heap) (tk c : Nat), SetR w h' s.heap.objs.size (fun j => decide (j ∈ ns)) c → c ≤ ns.length → (∀ b o, s.heap.get? b = some o → h'.get? b = some o) → Q (.ref s.heap.objs.size) { s with heap := h', toks := tk }) :
    wpAny (model P w) A (call (.type "set") [.ref l]) Q E s := by
  have len : items.size = ns.length := by simpa using IntsAre.length hi
  refine made (Q₁ := fun v s₁ => v = .ref s.heap.objs.size ∧ s₁ = { s with heap := s.heap.push (bare w) }) F.called_set (F.typeCall_set_1 _) F.entry_set_init (code_set_led1 (.ref l) ⟨rfl, rfl⟩) ?_
  rintro _ _ ⟨rfl, rfl⟩
  have fresh : (s.heap.push (bare w)).get? s.heap.objs.size = some (bare w) := Heap.get?_push_size _ rfl
  have ty : Shared.TypeIs { s with heap := s.heap.push (bare w) } (.ref s.heap.objs.size) "set" := ⟨_, fresh, rfl⟩
  refine ⟨ty, codeAny_call_builtin F.called_set.init.plain F.entry_set_init (check_set_init_1 ty ?_)⟩
  have hl1 := hl.push (bare w)
  obtain ⟨⟨cl, od, dat, sl⟩, at0, rfl, n, rfl⟩ := hl
  have below : l < s.heap.objs.size := Heap.lt_size at0
  have at1 := Heap.get?_push_of_some (bare w) at0
  have g1 := F.sub_list_set
  have g2 := F.sub_list_frozenset
  have g3 : (Value.type "list" == Value.type "dict") = false := by decide
  unfold Builtin.«set.__init__» noKeywords Builtin.Frozenset.updateFrom
  generalize hgen : pyIter = walkIt
  wp_walk
  subst hgen
  refine wpAny_pyIter_list hl1 (wpAny_bind (wpAny_runValue ?_))
  have sz : (s.heap.push (bare w)).objs.size = s.heap.objs.size + 1 := Heap.size_push ..
  have apart : l ≠ (s.heap.push (bare w)).objs.size := by rw [sz]; exact Nat.ne_of_lt (Nat.lt_succ_of_lt below)
  have off : s.heap.objs.size ∉ [(s.heap.push (bare w)).objs.size, l] := by
    rw [sz]
    intro z
    rcases List.mem_cons.mp z with z | z
    · exact absurd z (Nat.ne_of_lt (Nat.lt_succ_self _))
    · exact absurd (List.mem_singleton.mp z) (Nat.ne_of_gt below)
  refine set_update_ints ((Walks.list (by simp [hh]) _ l apart items).toS) _ off ns len hb (fun i v hv => ?val) _ 0 _ rfl (Nat.zero_le _) ⟨⟨_, Heap.get?_push_size _ rfl, rfl, rfl⟩, hl1.push _⟩ ⟨0, Nat.le_refl 0, setR_new_at (Heap.get?_push_of_some _ fresh)⟩ ?fin
  case val =>
    have lt : i < ns.length := len ▸ (Array.getElem?_eq_some_iff.mp hv).1
    obtain ⟨t, e⟩ := IntsAre.int_at hi i v (by simpa using hv)
    exact ⟨ns[i], t, List.getElem?_eq_getElem lt, by rw [e]; simp [lt]⟩
  case fin =>
    rintro ⟨h', g', d', tk, os'⟩ c mv lc R
    obtain rfl : g' = s.gens := mv.gens
    obtain rfl : d' = s.drawn := mv.drawn
    obtain rfl : os' = s.os := mv.os
    refine wpAny_pure (wpAny_pure ⟨rfl, h h' tk c R (len ▸ lc) fun b o e => mv.heap b o ?_ (Heap.get?_push_of_some _ (Heap.get?_push_of_some _ e))⟩)
    have lt := Heap.lt_size e
    intro z
    rcases List.mem_cons.mp z with z | z
    · exact absurd z (Nat.ne_of_lt lt)
    · have z := List.mem_singleton.mp z
      rw [sz] at z
      exact absurd (z ▸ lt) (Nat.not_lt.mpr (Nat.le_succ _))
end
end NK
namespace NK
open PySem PySem.Spec PyProof.Rows L2

/-! ### pairs of ints on the heap -/
abbrev PrAt (H : Hp) (r : Addr) (p : Int × Int) : Prop := H r = some (.tup [.int p.1, .int p.2])
abbrev Prs (H : Hp) (rs : List Addr) (L : PL) : Prop := Paired (PrAt H) rs L
theorem prs_same {H H' : Hp} (s : Same H H') : ∀ {rs : List Addr} {L : PL}, Prs H rs L → Prs H' rs L
  | _, _, .nil => .nil
  | _, _, .cons h t => .cons (s _ _ h) (prs_same s t)
theorem prs_snoc {H : Hp} {r : Addr} {p : Int × Int} (h : PrAt H r p) : ∀ {rs : List Addr} {L : PL}, Prs H rs L → Prs H (rs ++ [r]) (L ++ [p])
  | _, _, .nil => .cons h .nil
  | _, _, .cons h' t => .cons h' (prs_snoc h t)
theorem prs_get {H : Hp} : ∀ {rs : List Addr} {L : PL} {i : Nat} {x : V}, Prs H rs L → (rs.map V.ref)[i]? = some x → ∃ r p, x = .ref r ∧ rs[i]? = some r ∧ L[i]? = some p ∧ PrAt H r p
  | _, _, i, x, .nil, e => by simp at e
  | _, _, 0, x, .cons (a := r) (b := p) h t, e => by
    simp at e
    exact ⟨r, p, e.symm, rfl, rfl, h⟩
  | _, _, i + 1, x, .cons (a := r) (b := p) h t, e => by
    obtain ⟨r', p', e1, e2, e3, e4⟩ := prs_get (i := i) (x := x) t (by simpa using e)
    exact ⟨r', p', e1, by simpa using e2, by simpa using e3, e4⟩
theorem prs_len {H : Hp} {rs : List Addr} {L : PL} (h : Prs H rs L) : rs.length = L.length := Paired.length h
theorem paired_of {α β : Type} {F : α → β → Prop} : ∀ {as : List α} {bs : List β}, as.length = bs.length → (∀ (j : Nat) a b, as[j]? = some a → bs[j]? = some b → F a b) → Paired F as bs
  | [], [], _, _ => .nil
  | [], _ :: _, h, _ => by cases h
  | _ :: _, [], h, _ => by cases h
  | a :: as, b :: bs, h, q => .cons (q 0 a b rfl rfl) (paired_of (Nat.succ.inj h) fun j a' b' e1 e2 => q (j + 1) a' b' (by simpa using e1) (by simpa using e2))
/-- the pair that stands where a value points -/
def kH (H : Hp) : V → Int × Int
  | .ref a => match H a with
    | some (.tup [.int i, .int j]) => (i, j)
    | _ => (0, 0)
  | _ => (0, 0)
theorem kH_of {H : Hp} {r : Addr} {p : Int × Int} (h : PrAt H r p) : kH H (.ref r) = p := by
  have h' : H r = some (.tup [.int p.1, .int p.2]) := h
  simp only [kH, h']
theorem prs_map {H : Hp} : ∀ {rs : List Addr} {L : PL}, Prs H rs L → L = rs.map fun r => kH H (.ref r)
  | _, _, .nil => rfl
  | _, _, .cons h t => by rw [List.map_cons, kH_of h, ← prs_map t]
theorem prs_all {H : Hp} : ∀ {rs : List Addr} {L : PL}, Prs H rs L → ∀ r ∈ rs, PrAt H r (kH H (.ref r))
  | _, _, .nil, _, h => by cases h
  | _, _, .cons h t, r, m => by
    rcases List.mem_cons.mp m with e | m
    · rw [e, kH_of h]; exact h
    · exact prs_all t r m
theorem prs_by {H : Hp} : ∀ {rs : List Addr}, (∀ r ∈ rs, PrAt H r (kH H (.ref r))) → Prs H rs (rs.map fun r => kH H (.ref r))
  | [], _ => .nil
  | r :: rs, h => .cons (h r List.mem_cons_self) (prs_by fun q m => h q (List.mem_cons_of_mem _ m))
def unref : V → Addr
  | .ref a => a
  | _ => default
theorem refs_unref {zs : List V} (h : ∀ z ∈ zs, ∃ a, z = V.ref a) : zs = (zs.map unref).map V.ref := by
  rw [List.map_map]
  have : zs.map (V.ref ∘ unref) = zs.map id := List.map_congr_left fun z m => by
    obtain ⟨a, e⟩ := h z m
    rw [e]; rfl
  rw [this, List.map_id]
/-- what a sort of pairs gives, in plain words -/
theorem sorted_prs {H : Hp} {rs : List Addr} {L : PL} {zs : List V} (h : Prs H rs L) (h1 : SrtO.Srtd (ltP (kH H)) zs) (h2 : SrtO.Stb (ltP (kH H)) zs (rs.map V.ref)) :
    ∃ rs' L', zs = rs'.map V.ref ∧ Prs H rs' L' ∧ L'.Perm L ∧ L'.Pairwise (fun p q => p.1 ≤ q.1) := by
  have pm := h2.perm
  have e : zs = (zs.map unref).map V.ref := refs_unref fun z m => by
    obtain ⟨a, _, e⟩ := List.mem_map.mp (pm.mem_iff.mp m)
    exact ⟨a, e.symm⟩
  have pr : (zs.map unref).Perm rs := by
    have q := pm.map unref
    rw [List.map_map] at q
    have : rs.map (unref ∘ V.ref) = rs := by
      have : rs.map (unref ∘ V.ref) = rs.map id := List.map_congr_left fun _ _ => rfl
      rw [this, List.map_id]
    rw [this] at q
    exact q
  refine ⟨zs.map unref, (zs.map unref).map fun r => kH H (.ref r), e, prs_by fun r m => prs_all h r (pr.mem_iff.mp m), ?_, ?_⟩
  · rw [prs_map h]
    exact pr.map _
  · rw [List.pairwise_map]
    rw [e] at h1
    have h1' := List.pairwise_map.mp h1
    refine h1'.imp fun {a b} q => ?_
    have := SrtO.lexB_no.mp q
    omega

/-! ### dicts of ints on the heap -/
def dk {β : Type} (f : β → V) (D : List (Int × β)) : List (Key × V) := D.map fun p => ((Sum.inl p.1 : Key), f p.2)
abbrev dkI (D : PL) : List (Key × V) := dk V.int D
theorem key_inl {a b : Int} : ((Sum.inl a : Key) = Sum.inl b) ↔ a = b := ⟨Sum.inl.inj, congrArg _⟩
theorem val_dk {β : Type} {f : β → V} : ∀ (D : List (Int × β)) (k : Int), valV (dk f D) (Sum.inl k) = (getA D k).map f
  | [], _ => rfl
  | p :: r, k => by
    show valV (((Sum.inl p.1 : Key), f p.2) :: dk f r) (Sum.inl k) = _
    by_cases e : p.1 = k
    · rw [valV_pos (p := ((Sum.inl p.1 : Key), f p.2)) (key_inl.mpr e), getA_pos e]; rfl
    · rw [valV_neg (p := ((Sum.inl p.1 : Key), f p.2)) (fun z => e (key_inl.mp z)), getA_neg e, val_dk r k]
theorem put_dk {β : Type} {f : β → V} (D : List (Int × β)) (k : Int) (v : β) : putK (dk f D) (Sum.inl k) (f v) = dk f (putA D k v) := by
  unfold putK putA
  have e : ((dk f D).any fun kv => decide (kv.1 = Sum.inl k)) = D.any fun p => decide (p.1 = k) := by
    unfold dk
    rw [List.any_map]
    congr 1
    funext p
    show decide ((Sum.inl p.1 : Key) = Sum.inl k) = decide (p.1 = k)
    simp [key_inl]
  rw [e]
  split
  · unfold dk
    rw [List.map_map, List.map_map]
    apply List.map_congr_left
    intro p _
    show (if (Sum.inl p.1 : Key) = Sum.inl k then ((Sum.inl p.1 : Key), f v) else (Sum.inl p.1, f p.2)) = ((Sum.inl (if p.1 = k then (p.1, v) else p).1 : Key), f (if p.1 = k then (p.1, v) else p).2)
    by_cases q : p.1 = k
    · rw [if_pos (key_inl.mpr q), if_pos q]
    · rw [if_neg (fun z => q (key_inl.mp z)), if_neg q]
  · unfold dk
    rw [List.map_append]
    rfl
theorem dk_len {β : Type} {f : β → V} (D : List (Int × β)) : (dk f D).length = D.length := List.length_map ..
theorem dk_keys {β : Type} {f : β → V} (D : List (Int × β)) : (dk f D).map (·.1) = (keys D).map Sum.inl := by
  unfold dk keys
  rw [List.map_map, List.map_map]
  rfl
theorem getD_look (D : PL) (k : Int) : ((getA D k).map V.int).getD (.int 0) = .int (look D k) := by
  unfold look
  cases getA D k <;> rfl
theorem merge_dk (L : PL) : mergeK [] (dkI L) = dkI (fromPairs L) := by
  have go : ∀ (L D : PL), mergeK (dkI D) (dkI L) = dkI (L.foldl (fun D p => putA D p.1 p.2) D) := by
    intro L
    induction L with
    | nil => intro D; rfl
    | cons p r ih =>
      intro D
      show mergeK (putK (dkI D) (Sum.inl p.1) (V.int p.2)) (dkI r) = _
      rw [put_dk, ih]
      rfl
  exact go L []

/-! ### one stack's level deeper -/
def in1 (X : Cx) : Cx := { X with A := X.A.in1 }
section
variable {X : Cx} {pins : List (Addr × Obj)} {σ : L2.St} {H : Hp} {s : Shared}
theorem ok_in1 (k : X.Ok) : (in1 X).Ok := ⟨k.mod, k.kind, k.glob, k.blt, k.above, k.inj, k.has, k.cab, k.hd, k.frames, k.stk, k.exf, k.bs, k.bsz, k.noex, k.exfs, k.funs, k.frf⟩
theorem ok_out (k : (in1 X).Ok) : X.Ok := ⟨k.mod, k.kind, k.glob, k.blt, k.above, k.inj, k.has, k.cab, k.hd, k.frames, k.stk, k.exf, k.bs, k.bsz, k.noex, k.exfs, k.funs, k.frf⟩
theorem inv_in1 (I : Inv X pins σ H s) : Inv (in1 X) pins σ H s := ⟨ok_in1 I.ok, I.os, I.bare, I.base, I.loc, I.cell, I.free, I.freeC, I.pin, I.hok, I.len⟩
theorem inv_out (I : Inv (in1 X) pins σ H s) : Inv X pins σ H s := ⟨ok_out I.ok, I.os, I.bare, I.base, I.loc, I.cell, I.free, I.freeC, I.pin, I.hok, I.len⟩
end

/-! ### sorted: collected, laid, sorted in its place -/
theorem sorted_of {P : Program} {w : World} {A : Around} {E : Value → Shared → Prop} {s : Shared} {r : Addr} {Q : Value → Shared → Prop}
    (h : wpAny (model P w) A.in1 (collect (.ref r)) (fun vs s1 => vs.length ≤ sizeLine ∧ wpAny (model P w) A.in1 (call (.builtin "list.sort") [.ref s1.heap.objs.size]) (fun _ s2 => Q (.ref s1.heap.objs.size) s2) E { s1 with heap := s1.heap.push (seqObj "list" vs.toArray 0) }) E s) :
    wpAny (model P w) A (call (.builtin "sorted") [.ref r]) Q E s := by
  refine Calls.call_function_entry kind_sorted plain_sorted entry_sorted (args_sorted1 _) ?_
  unfold Builtin.«sorted»
  refine wpAny_bind (m := checkCount "sorted" 1 1 _) (wpAny_pure ?_)
  refine wpAny_bind (wpAny_mono h (fun vs s1 q => ?_) fun _ _ e => e)
  exact wpAny_bind (wpAny_newList (wpAny_bind (wpAny_holding (wpAny_mono q.2 (fun _ s2 x => wpAny_pure ⟨_, rfl, x⟩) fun _ _ e => e))) q.1)

/-! ### sorted(set(e)), e a list of ints -/
def tSortSet (K : PySem.W.Frag) (ta : TE) : TE := fun σ H Q => ta σ H fun x H1 => ∃ (l : Addr) (ns : List Int), x = V.ref l ∧ SqL K H1 l (ns.map V.int) ∧ ns.length ≤ 4000 ∧
  ∀ (ns' : List Int) (p : Addr), ns'.Pairwise (· < ·) → (∀ k : Int, k ∈ ns' ↔ k ∈ ns) → ns'.length ≤ ns.length → H1 p = none → Q (.ref p) (upd H1 p (.lst (ns'.map V.int)))
section
variable {X : Cx}
theorem pe_sortSet {a : Expr} {ta : TE} {p p2 q pos : Pos} (hc : X.calm = true) (hg : Gl X "sorted") (hm : X.mg "sorted" = none) (hg2 : Gl X "set") (hm2 : X.mg "set" = none) (ha : PE X a ta)
    (na : starEach [a] X.env = (false, eval a X.env) :: starEach [] X.env := by rfl) : PE X (.Call (.Name "sorted" p) [.Call (.Name "set" p2) [a] [] q] [] pos) (tSortSet X.K ta) := by
  refine ⟨fun pins s σ H Q I h => ?_⟩
  refine Call_ (ld_blt I hg hm (u := .builtin "sorted") (by decide +kernel) ?_)
  refine PyProof.Rows.callWith_builtin1 (PyProof.Rows.args_cons ?_ rfl) rfl rfl
  refine Call_ (ld_blt I hg2 hm2 PyProof.Rows.boot_set ?_)
  refine PyProof.Rows.callWith_type1 (PyProof.Rows.args_cons (thn (ha.run pins s σ H _ I h) fun v s1 ⟨x, H1, I1, r1, q1⟩ => PyProof.Rows.args_nil ?_) na) na rfl
  obtain ⟨l, ns, rfl, hq, hlen, q1⟩ := q1
  cases r1
  obtain ⟨its, rv, pl, _⟩ := I1.list hq
  have hh := I1.ok.hd hc
  refine set_of_list ns hh pl.isList (by simpa using rv.ints) (by unfold scanBound; omega) fun h' tk c R lc kept => PyProof.Rows.args_nil ?_
  have I2 : Inv X pins σ H1 { s1 with heap := h', toks := tk } := I1.kept kept
  obtain ⟨o, es, ep, t, ho, hex, hd, gd, nd, mem, hb, hf, hn, hr, hl⟩ := R
  refine sorted_of (collect_set (A := X.A.in1) hh ⟨o, ho, hex.1, hd⟩ hf hb hr hl fun s2 vs k2 _ gens os pm => ?_)
  have lv : vs.length ≤ sizeLine := by
    rw [pm.length_eq, List.length_map, Array.length_toList, sizeLine_eq]
    unfold scanBound at hb
    omega
  have iv : IntsAre vs (vs.map Builtin.Re.reRawOf) := ints_of vs fun v hv => by
    obtain ⟨e, he, rfl⟩ := List.mem_map.mp (pm.mem_iff.mp hv)
    obtain ⟨k, tk, h1, _⟩ := gd e he
    exact ⟨k, tk, h1⟩
  have pk : (vs.map Builtin.Re.reRawOf).Perm (es.toList.map keyOf) := by
    refine (pm.map _).trans (List.Perm.of_eq ?_)
    rw [List.map_map]
    rfl
  have I3 : Inv X pins σ H1 { ({ s1 with heap := h', toks := tk } : Shared) with heap := s2.heap, gens := s2.gens, drawn := s2.drawn, toks := s2.toks } :=
    I2.call (ch := []) (Un.kept k2) (I2.hok.kept k2) (by rw [gens]; exact I2.bare) (fun _ z => nomatch z)
  have e2 : s2 = { ({ s1 with heap := h', toks := tk } : Shared) with heap := s2.heap, gens := s2.gens, drawn := s2.drawn, toks := s2.toks } := by
    cases s2
    cases os
    rfl
  rw [← e2] at I3
  have I4 : Inv X pins σ (upd H1 s2.heap.objs.size (.lst ((vs.map Builtin.Re.reRawOf).map V.int))) { s2 with heap := s2.heap.push (seqObj "list" vs.toArray 0) } :=
    I3.laid (t' := s2.toks) (fun _ _ q => Heap.get?_push_of_some _ q) (Nat.le_refl _) ⟨by rw [List.length_map, List.length_map]; exact lv, vs, 0, vals_of_ints iv, Heap.get?_push_size _ rfl⟩
  have new : H1 s2.heap.objs.size = none := I3.hok.fresh (Nat.le_refl _)
  refine ⟨lv, thn (mt_sortI (X := in1 X) pins _ σ _ (.ref s2.heap.objs.size) [] (.ref s2.heap.objs.size) [] (fun _ H' => Q (.ref s2.heap.objs.size) H') (inv_in1 I4) rfl .nil ⟨_, _, rfl, rfl, upd_same, fun ns' p1 p2 => ?_⟩) fun _ s3 ⟨_, H3, I5, _, q⟩ => ⟨.ref _, H3, inv_out I5, rfl, q⟩⟩
  rw [upd_upd]
  have pp := p1.trans pk
  refine q1 ns' _ (NK.lt_of_le p2 (pp.nodup_iff.mpr nd)) (fun k => ?_) (by rw [pp.length_eq, List.length_map, Array.length_toList, hn]; exact lc) new
  rw [pp.mem_iff, ← mem k]
  exact decide_eq_true_iff
end
end NK
namespace NK
open PySem PySem.Spec PyProof.Rows L2 L2.DX

/-! ### tuple(xs), the new tuple known as the object that it is -/
def TupF (H : Hp) (a : Addr) (xs : List V) : Prop := ∃ o : Obj, o.dict = none ∧ H a = some (.frz o (.tup xs))
theorem TupF.sq {K : PySem.W.Frag} {H : Hp} {a : Addr} {xs : List V} (h : TupF H a xs) : SqT K H a xs := let ⟨o, _, e⟩ := h; .inl (.inr ⟨o, e⟩)
theorem TupF.same {H H' : Hp} {a : Addr} {xs : List V} (s : Same H H') (h : TupF H a xs) : TupF H' a xs := let ⟨o, d, e⟩ := h; ⟨o, d, s _ _ e⟩
section
variable {X : Cx}
theorem call_tupF : CallR X (.type "tuple") (fun xs H Q => ∃ p ys, xs = [.ref p] ∧ SqL X.K H p ys ∧ ∀ a o, H a = none → o.dict = none → Q (.ref a) (upd H a (.frz o (.tup ys)))) := by
  rintro pins s σ H xs us Q I r ⟨p, ys, rfl, hq, q⟩
  obtain ⟨u, rfl, rfl⟩ := vals1 r
  obtain ⟨its, rv, pl, hz⟩ := I.list hq
  have len := rv.length
  refine call_tuple_list pl.isList (fun h' kept => ?_) (by rw [List.size_toArray]; omega)
  have J : Inv X pins σ H { s with heap := h' } := I.kept (t' := s.toks) kept
  exact ⟨.ref h'.objs.size, upd H h'.objs.size (.frz { cls := .type "tuple", data := .seq its.toArray } (.tup ys)),
    J.laid (t' := s.toks) (fun _ _ e => Heap.get?_push_of_some _ e) (Nat.le_refl _) (show ObjOk X.prog X.w _ _ _ (.frz _ (.tup ys)) from ⟨Heap.get?_push_size _ rfl, hz, its, rv, IsTup.new _ _⟩), rfl, q _ _ (J.hok.fresh (Nat.le_refl _)) rfl⟩


/-! ### dict(t), t such a tuple, of pairs of ints -/
theorem prs_vals {pins : List (Addr × Obj)} {σ : L2.St} {H : Hp} {s : Shared} (I : Inv X pins σ H s) : ∀ {rs : List Addr} {L : PL}, Prs H rs L → ∃ us : List (Value × Value), us.length = rs.length ∧
    ∀ (j : Nat) (k v : Value), us[j]? = some (k, v) → ∃ r p t t', rs[j]? = some r ∧ L[j]? = some p ∧ IsTup s.heap r #[k, v] ∧ k = Value.int p.1 t ∧ v = Value.int p.2 t'
  | _, _, .nil => ⟨[], rfl, fun j k v e => by simp at e⟩
  | _, _, .cons (a := r) (b := p) h t => by
    obtain ⟨us, hl, hu⟩ := prs_vals I t
    obtain ⟨_, its, rv, tu⟩ := I.hok _ _ h
    obtain ⟨k0, v0, rfl, ⟨t1, e1⟩, ⟨t2, e2⟩⟩ := vals2 rv
    refine ⟨(k0, v0) :: us, by rw [List.length_cons, List.length_cons, hl], fun j k v e => ?_⟩
    cases j with
    | zero =>
      obtain ⟨rfl, rfl⟩ := Prod.mk.inj (Option.some.inj e)
      exact ⟨r, p, t1, t2, rfl, rfl, tu, e1, e2⟩
    | succ j => exact hu j k v e
theorem call_dictT (hc : X.calm = true) : CallR X (.type "dict") (fun xs H Q => ∃ (a : Addr) (rs : List Addr) (L : PL), xs = [.ref a] ∧ TupF H a (rs.map V.ref) ∧ Prs H rs L ∧
    ∀ p, H p = none → Q (.ref p) (upd H p (.dK (dkI (fromPairs L))))) := by
  rintro pins s σ H xs us Q I r ⟨a, rs, L, rfl, ⟨o, od, ha⟩, pr, q⟩
  obtain ⟨u, rfl, rfl⟩ := vals1 r
  obtain ⟨ho, hz, its, rv, ob, ho2, hcl, n, hdat⟩ := I.hok a _ ha
  rw [ho] at ho2
  cases ho2
  have ei := refs_at rv
  subst ei
  rw [List.length_map] at hz
  obtain ⟨prv, hl, hp⟩ := prs_vals I pr
  have lL := prs_len pr
  have kv : KV (dkI L) (prv.map fun q => ((Sum.inl (SrtO.iv q.1) : Key), q.2)) := by
    refine paired_of (by rw [dk_len, List.length_map]; omega) fun j x y e1 e2 => ?_
    rw [List.getElem?_map] at e2
    obtain ⟨⟨k, v⟩, e3, e4⟩ := Option.map_eq_some_iff.mp e2
    obtain ⟨_, p, t, t', _, e5, _, e6, e7⟩ := hp j k v e3
    have e1' : (L[j]?).map (fun p => ((Sum.inl p.1 : Key), V.int p.2)) = some x := by rw [← List.getElem?_map]; exact e1
    rw [e5] at e1'
    obtain rfl := Option.some.inj e1'
    subst e4 e6 e7
    exact ⟨rfl, t', rfl⟩
  refine PySem.call_dict_pairs (knd := mixKind X.prog X.w) (kvs := prv.map fun q => ((Sum.inl (SrtO.iv q.1) : Key), q.2)) (PairArg.tuple a (rs.map Value.ref).toArray (fun j => rs.getD j 0) prv) (I.ok.hd hc)
    ⟨⟨o, n, ho, hcl, od, hdat⟩, by simp [hl], fun j k v e => ?_⟩ ⟨by rw [List.length_map], fun i k v e => ?_⟩ (by omega) fun h' tk D kept => ?_
  · obtain ⟨r, p, t, t', e1, _, e2, _, _⟩ := hp j k v e
    refine ⟨by simp [e1], .inl ?_⟩
    show s.heap.IsTuple (rs.getD j 0) #[k, v]
    rw [List.getD_eq_getElem?_getD, e1]
    exact e2
  · obtain ⟨_, p, t, t', _, _, _, rfl, _⟩ := hp i k v e
    refine ⟨Sum.inl p.1, (by rw [List.getElem?_map, (show prv[i]? = some (Value.int p.1 t, v) from e)]; rfl), keyIs_int p.1 t⟩
  · have hm : (s.heap.objs.size == sysModules) = false := beq_eq_false_iff_ne.mpr (Nat.ne_of_gt I.big)
    have hlen : (mergeK [] (dkI L)).length ≤ sizeLine := by
      refine Nat.le_trans (length_mergeK _ _) ?_
      rw [List.length_nil, dk_len]
      omega
    rw [← merge_dk] at q
    exact ⟨.ref s.heap.objs.size, upd H s.heap.objs.size (.dK (mergeK [] (dkI L))), I.laid (t' := tk) (fun b o e => kept b o (by simp) e) (Nat.le_refl _) (show ObjOk X.prog X.w _ _ _ (.dK _) from ⟨hlen, hm, _, KV.merge kv .nil, D⟩), rfl, q _ (I.hok.fresh (Nat.le_refl _))⟩

/-! ### d.values(), d.items() of a dict of ints, as views -/
def valsO (p d : Addr) : HO := .ext fun h => h.IsValuesView p d
theorem mt_vals : MtR X "dict.values" (fun x xs H Q => ∃ a kvs, x = .ref a ∧ xs = [] ∧ H a = some (.dK kvs) ∧ ∀ p, H p = none → Q (.ref p) (upd H p (valsO p a))) := by
  rintro pins s σ H x xs v us Q I rx rxs ⟨a, kvs, rfl, rfl, ha, q⟩
  cases rx
  cases rxs
  obtain ⟨_, sm, vs, _, D⟩ := dk_of I.hok ha
  refine call_meetsIn F.slot_dict_values D.typeIs F.entry_dict_values (F.args_dict_values_1 _) (meets_dict_values (mixKind X.prog X.w) a sm) ⟨⟨vs, D⟩, ?_⟩
  exact ⟨.ref s.heap.objs.size, _, I.laid (a := s.heap.objs.size) (o := valsO s.heap.objs.size a) (t' := s.toks) (fun _ _ e => Heap.get?_push_of_some _ e) (Nat.le_refl _)
    ⟨⟨_, Heap.get?_push_size _ rfl, rfl, rfl⟩, ⟨_, Heap.get?_push_size _ rfl⟩, fun _ _ z k => let ⟨o, ho, r⟩ := z; ⟨o, k o ho, r⟩⟩, rfl, q _ (I.hok.fresh (Nat.le_refl _))⟩
theorem mt_items : MtR X "dict.items" (fun x xs H Q => ∃ a kvs, x = .ref a ∧ xs = [] ∧ H a = some (.dK kvs) ∧ ∀ p, H p = none → Q (.ref p) (upd H p (itemsO p a))) := by
  rintro pins s σ H x xs v us Q I rx rxs ⟨a, kvs, rfl, rfl, ha, q⟩
  cases rx
  cases rxs
  obtain ⟨_, sm, vs, _, D⟩ := dk_of I.hok ha
  refine call_meetsIn F.slot_dict_items D.typeIs F.entry_dict_items (F.args_dict_items_1 _) (meets_dict_items (mixKind X.prog X.w) a sm) ⟨⟨vs, D⟩, ?_⟩
  exact ⟨.ref s.heap.objs.size, _, I.laid (a := s.heap.objs.size) (o := itemsO s.heap.objs.size a) (t' := s.toks) (fun _ _ e => Heap.get?_push_of_some _ e) (Nat.le_refl _) (itemsO_ok (Heap.get?_push_size _ rfl)), rfl, q _ (I.hok.fresh (Nat.le_refl _))⟩

/-! ### max -/
/-- the values of a dict of ints, read back from the heap -/
theorem dk_vals {D : PL} {vs : List (Key × Value)} (r : KV (dkI D) vs) {i : Nat} {k : Key} {v : Value} (e : vs[i]? = some (k, v)) : ∃ p t, D[i]? = some p ∧ k = Sum.inl p.1 ∧ v = Value.int p.2 t := by
  obtain ⟨x, e1, e2⟩ := KV.at' r e
  unfold dkI dk at e1
  rw [List.getElem?_map] at e1
  obtain ⟨p, e3, e4⟩ := Option.map_eq_some_iff.mp e1
  obtain ⟨rfl, rfl⟩ := Prod.mk.inj e4
  obtain ⟨t, e5⟩ := e2
  exact ⟨p, t, e3, rfl, e5⟩
theorem best_mem {is : List Int} {n : Nat} (hn : is.length = n) (h0 : 0 < n) : is.getD (argBest (fun i j => decide (is.getD i 0 > is.getD j 0)) (n - 1)) 0 ∈ is ∧ ∀ j ∈ is, j ≤ is.getD (argBest (fun i j => decide (is.getD i 0 > is.getD j 0)) (n - 1)) 0 := by
  obtain ⟨b1, b2⟩ := argBest_gt (fun i => is.getD i 0) (n - 1)
  constructor
  · have lt : argBest (fun i j => decide (is.getD i 0 > is.getD j 0)) (n - 1) < is.length := by omega
    rw [List.getD_eq_getElem?_getD, List.getElem?_eq_getElem lt]
    exact List.getElem_mem lt
  · intro j m
    obtain ⟨i, hi, e⟩ := List.mem_iff_getElem.mp m
    have := b2 i (by omega)
    rw [List.getD_eq_getElem?_getD, List.getElem?_eq_getElem hi] at this
    rw [← e]
    exact this
/-- max(d), d a dict with int keys, one at least -/
theorem cr_maxKeys (hc : X.calm = true) : CallR X (.builtin "max") (fun xs H Q => ∃ (a : Addr) (D : PL), xs = [.ref a] ∧ H a = some (.dK (dkI D)) ∧ D ≠ [] ∧ ∀ m, m ∈ keys D → (∀ j ∈ keys D, j ≤ m) → Q (.int m) H) := by
  rintro pins s σ H xs us Q I r ⟨a, D, rfl, ha, ne, q⟩
  obtain ⟨u, rfl, rfl⟩ := vals1 r
  obtain ⟨_, sm, vs, rel, dof⟩ := dk_of I.hok ha
  obtain ⟨ep, dat⟩ := dof.dictAt
  have lt : a < s.heap.objs.size := dat.lt_size
  have hv : ∀ (i : Nat) (v : Value), (∃ k x, vs[i]? = some (k, x) ∧ (mixKind X.prog X.w).is k v = true) → ∃ t, v = Value.int ((keys D).getD i 0) t := by
    rintro i v ⟨k, x, e, is⟩
    obtain ⟨p, _, e1, rfl, _⟩ := dk_vals rel e
    obtain ⟨t, e2⟩ := Value.isInt_shape (k := p.1) (v := v) is
    refine ⟨t, ?_⟩
    rw [e2, List.getD_eq_getElem?_getD, keys, List.getElem?_map, e1]
    rfl
  have ln : (keys D).length = vs.length := by
    rw [← KV.length rel, dk_len, keys, List.length_map]
  have pos : 0 < vs.length := by
    rw [← ln, keys, List.length_map]
    exact List.length_pos_iff.mpr ne
  refine call_max_walk (wpAny_pyIter_dict (knd := mixKind X.prog X.w) sm dat ?_)
  refine ⟨_, _, _, _, _, _, _, rfl, Walks.dictKeys (knd := mixKind X.prog X.w) (A := X.A.in1) (I.ok.hd hc) s.heap.objs.size a (Nat.ne_of_lt lt) vs ep, ⟨⟨_, Heap.get?_push_size _ rfl, rfl, rfl⟩, dat.keep fun _ _ e => Heap.get?_push_of_some _ e⟩,
    fun b hb => ?_, pos, CmpOf.ints_gt (fun i => (keys D).getD i 0) hv, fun v h' tk hP kept => ?_⟩
  · rw [show (s.heap.push _).objs.size = s.heap.objs.size + 1 from Heap.size_push _ _]
    rcases List.mem_cons.mp hb with e | hb
    · rw [e]; exact Nat.lt_succ_self _
    · rw [List.mem_singleton.mp hb]; exact Nat.lt_succ_of_lt lt
  · obtain ⟨t, rfl⟩ := hv _ v hP
    obtain ⟨m1, m2⟩ := best_mem ln pos
    refine ⟨.int _, H, I.kept (t' := tk) fun b o e => kept b o (fun z => ?_) (Heap.get?_push_of_some _ e), ⟨t, rfl⟩, q _ m1 m2⟩
    exact absurd (List.mem_singleton.mp z) (Nat.ne_of_lt (Heap.lt_size e))
/-- max(d.values(), default=..), d a dict with int values, one at least -/
theorem cr_maxVals (hc : X.calm = true) : CallRK X (.builtin "max") ["default"] (fun xs zs H Q => ∃ (p a : Addr) (D : PL) (d : V), xs = [.ref p] ∧ zs = [d] ∧ H p = some (valsO p a) ∧ H a = some (.dK (dkI D)) ∧ D ≠ [] ∧ ∀ m, m ∈ D.map (·.2) → (∀ j ∈ D.map (·.2), j ≤ m) → Q (.int m) H) := by
  rintro pins s σ H xs zs us ws Q I r rz ⟨p, a, D, d, rfl, rfl, hp, ha, ne, q⟩
  obtain ⟨u, rfl, rfl⟩ := vals1 r
  obtain ⟨dv, rfl, _⟩ := vals1 rz
  have view : s.heap.IsValuesView p a := (show ObjOk X.prog X.w H s.heap p (valsO p a) from I.hok p _ hp).1
  obtain ⟨_, sm, vs, rel, dof⟩ := dk_of I.hok ha
  obtain ⟨ep, dat⟩ := dof.dictAt
  have lt : a < s.heap.objs.size := dat.lt_size
  have hv : ∀ (i : Nat) (v : Value), (∃ k, vs[i]? = some (k, v)) → ∃ t, v = Value.int ((D.map (·.2)).getD i 0) t := by
    rintro i v ⟨k, e⟩
    obtain ⟨p, t, e1, _, e2⟩ := dk_vals rel e
    refine ⟨t, ?_⟩
    rw [e2, List.getD_eq_getElem?_getD, List.getElem?_map, e1]
    rfl
  have ln : (D.map (·.2)).length = vs.length := by
    rw [← KV.length rel, dk_len, List.length_map]
  have pos : 0 < vs.length := by
    rw [← ln, List.length_map]
    exact List.length_pos_iff.mpr ne
  show wpAny _ _ (call (.builtin "max") [.ref p] [(Str.ofString "default", dv)]) _ _ s
  refine call_max_walkD (wpAny_pyIter_values view dat ?_)
  have ht : (s.heap.push { cls := .type "dict_valueiterator", data := .fields #[.ref a, .int 0 0, .int vs.length 0, .int ep 0] }).objs.size = s.heap.objs.size + 1 := Heap.size_push _ _
  refine ⟨_, _, _, _, _, _, _, s.heap, fun i j => decide ((D.map (·.2)).getD i 0 > (D.map (·.2)).getD j 0), rfl, (Walks.dictValues (knd := mixKind X.prog X.w) (A := X.A.in1) (I.ok.hd hc) s.heap.objs.size a (Nat.ne_of_lt lt) vs ep).toS,
    ⟨⟨_, Heap.get?_push_size _ rfl, rfl, rfl⟩, dat.keep fun _ _ e => Heap.get?_push_of_some _ e⟩, fun b hb => ?_, fun b o e z => absurd (List.mem_singleton.mp z) (Nat.ne_of_lt (Heap.lt_size e)), fun b o e => Heap.get?_push_of_some _ e, fun z => absurd z (Nat.ne_of_gt pos),
    fun _ => ⟨fun i j vi vj s' Q' E' _ h1 h2 q' => CmpOf.ints_gt (fun i => (D.map (·.2)).getD i 0) hv i j vi vj s' Q' E' h1 h2 q', fun v s' hP mv => ?_⟩⟩
  · rw [ht]
    rcases List.mem_cons.mp hb with e | hb
    · rw [e]; exact Nat.lt_succ_self _
    · rw [List.mem_singleton.mp hb]; exact Nat.lt_succ_of_lt lt
  · obtain ⟨t, rfl⟩ := hv _ v hP
    obtain ⟨m1, m2⟩ := best_mem ln pos
    obtain ⟨h', g', d', tk, os'⟩ := s'
    obtain rfl : g' = s.gens := mv.gens
    obtain rfl : d' = s.drawn := mv.drawn
    obtain rfl : os' = s.os := mv.os
    refine ⟨.int _, H, I.kept (h' := h') (t' := tk) fun b o e => mv.heap b o (fun z => ?_) (Heap.get?_push_of_some _ e), ⟨t, rfl⟩, q _ m1 m2⟩
    exact absurd (List.mem_singleton.mp z) (Nat.ne_of_lt (Heap.lt_size e))

/-! ### sorted(d.items()) -/
theorem cr_sortItems (hc : X.calm = true) : CallR X (.builtin "sorted") (fun xs H Q => ∃ (p a : Addr) (D : PL), xs = [.ref p] ∧ H p = some (itemsO p a) ∧ H a = some (.dK (dkI D)) ∧
    ∀ H' l rs D', Same H H' → H l = none → H' l = some (.lst (rs.map V.ref)) → Prs H' rs D' → D'.Perm D → D'.Pairwise (fun p q => p.1 ≤ q.1) → Q (.ref l) H') := by
  rintro pins s σ H xs us Q I r ⟨p, a, D, rfl, hp, ha, q⟩
  obtain ⟨u, rfl, rfl⟩ := vals1 r
  have view : s.heap.IsItemsView p a := (show ObjOk X.prog X.w H s.heap p (itemsO p a) from I.hok p _ hp).1
  obtain ⟨hz, sm, vs, rel, dof⟩ := dk_of I.hok ha
  obtain ⟨ep, dat⟩ := dof.dictAt
  have ln : D.length = vs.length := by rw [← KV.length rel, dk_len]
  rw [dk_len] at hz
  refine sorted_of (PySem.W.kdx_collect (A := X.A.in1) (knd := mixKind X.prog X.w) (kvs := vs) (ep := ep) (I.ok.hd hc) view dat (by omega) fun h' tk as kept hl G => ?_)
  have nd : as.Nodup := G.rise.imp fun {a b} (h : a < b) => Nat.ne_of_lt h
  have I1 : Inv X pins σ H { s with heap := h', toks := tk } := I.kept kept
  obtain ⟨H2, I2, same, all⟩ := takeT (P := fun b ys => ∀ (j : Nat) (q : Int × Int), as[j]? = some b → D[j]? = some q → ys = [.int q.1, .int q.2]) I as H I1 nd fun b m => by
    obtain ⟨j, hj⟩ := List.mem_iff_getElem?.mp m
    obtain ⟨key, k, x, e1, e2, e3⟩ := G.pairs j b hj
    obtain ⟨pr, t, e4, rfl, rfl⟩ := dk_vals rel e1
    obtain ⟨t', rfl⟩ := Value.isInt_shape (k := pr.1) (v := key) e2
    refine ⟨Nat.le_of_lt (G.above b m), I.hok.fresh (Nat.le_of_lt (G.above b m)), [.int pr.1, .int pr.2], fun j' q' f1 f2 => ?_, fun H2 => ⟨by show 2 ≤ sizeLine; decide, [_, _], .cons ⟨t', rfl⟩ (.cons ⟨t, rfl⟩ .nil), ⟨_, e3, rfl, _, rfl⟩⟩⟩
    have ej := nd_ix nd f1 hj
    subst ej
    rw [e4] at f2
    rw [Option.some.inj f2]
  have prs : Prs H2 as D := paired_of (by omega) fun j b pr e1 e2 => by
    obtain ⟨ys, h1, h2⟩ := all b (List.mem_of_getElem? e1)
    rw [h1 j pr e1 e2] at h2
    exact h2
  have lv : (as.map Value.ref).length ≤ sizeLine := by rw [List.length_map]; omega
  have I3 : Inv X pins σ (upd H2 h'.objs.size (.lst (as.map V.ref))) { s with heap := h'.push (seqObj "list" (as.map Value.ref).toArray 0), toks := tk } :=
    I2.laid (t' := tk) (fun _ _ e => Heap.get?_push_of_some _ e) (Nat.le_refl _) ⟨by rw [List.length_map]; omega, as.map Value.ref, 0, LiI.vals_refs as, Heap.get?_push_size _ rfl⟩
  have new : H2 h'.objs.size = none := I2.hok.fresh (Nat.le_refl _)
  have new0 : H h'.objs.size = none := I1.hok.fresh (Nat.le_refl _)
  have prs3 : Prs (upd H2 h'.objs.size (.lst (as.map V.ref))) as D := prs_same (same_new (Same.refl _) new) prs
  refine ⟨lv, thn (mt_sortPO (X := in1 X) pins _ σ _ (.ref h'.objs.size) [] (.ref h'.objs.size) [] (fun _ H' => Q (.ref h'.objs.size) H') (inv_in1 I3) rfl .nil ⟨_, as.map V.ref, kH (upd H2 h'.objs.size (.lst (as.map V.ref))), rfl, rfl, upd_same, fun y m => ?_, fun zs h1 h2 => ?_⟩) fun _ s3 ⟨_, H3, I4, _, q⟩ => ⟨.ref _, H3, inv_out I4, rfl, q⟩⟩
  · obtain ⟨b, mb, rfl⟩ := List.mem_map.mp m
    exact ⟨b, rfl, prs_all prs3 b mb⟩
  · obtain ⟨rs', D', rfl, p1, p2, p3⟩ := sorted_prs prs3 h1 h2
    rw [upd_upd]
    have e : Same (upd H2 h'.objs.size (.lst (as.map V.ref))) (upd H2 h'.objs.size (.lst (as.map V.ref))) := Same.refl _
    refine q _ h'.objs.size rs' D' (same_new same new) new0 upd_same ?_ p2 p3
    refine Paired.mapP p1 fun b pr hb => ?_
    have nb : b ≠ h'.objs.size := fun z => by
      have hb' : upd H2 h'.objs.size (.lst (as.map V.ref)) b = some (.tup [.int pr.1, .int pr.2]) := hb
      rw [z, upd_same] at hb'
      cases hb'
    show upd H2 _ _ b = _
    rw [upd_ne nb]
    have hb' : upd H2 h'.objs.size (.lst (as.map V.ref)) b = some (.tup [.int pr.1, .int pr.2]) := hb
    rw [upd_ne nb] at hb'
    exact hb'
end
end NK
namespace NK
open PySem PySem.Spec PyProof.Rows L2 L2.DX

/-! ### the text by places -/
def top (i : Nat) : Stmt := PySem.Challenge.pw_nodice_k12_whole_more_chips_by_a_power_o.main.body.getD i (.Pass ⟨0, 0, 0, 0⟩)
abbrev sIsInt : Stmt := top 9
abbrev sWithin : Stmt := top 10
abbrev sAreInts : Stmt := top 11
abbrev sIsHeap : Stmt := top 17
abbrev sAreHeaps : Stmt := top 18
abbrev sKept : Stmt := top 19
abbrev sColourIn : Stmt := top 20
abbrev sSpots : Stmt := top 21
abbrev sNeedHeaps : Stmt := top 22
abbrev sNeedColour : Stmt := top 23
abbrev sNeedLefts : Stmt := top 24
abbrev sNeedStart : Stmt := top 25
abbrev sJoined : Stmt := top 26
abbrev sInit : Stmt := inClass (top 34) 0
abbrev sAdvance : Stmt := inClass (top 34) 5
abbrev sSent : Stmt := top 38
abbrev sQuern : Stmt := top 40
abbrev sGrind : Stmt := top 41
abbrev sGrain : Stmt := top 42
abbrev sStart : Stmt := top 43
abbrev sHalved : Stmt := top 44
abbrev sOdd : Stmt := top 45
abbrev sSum : Stmt := top 46
abbrev sMore : Stmt := top 47
abbrev sLaw : Stmt := top 48

/-- what the module leaves to the built-ins -/
structure Txt (mg : Str → Option Value) : Prop where
  isi : mg "isinstance" = none
  int : mg "int" = none
  bool : mg "bool" = none
  list : mg "list" = none
  tuple : mg "tuple" = none
  len : mg "len" = none
  all : mg "all" = none
  set : mg "set" = none
  sorted : mg "sorted" = none
  max : mg "max" = none
  range : mg "range" = none
  dict : mg "dict" = none
  abs : mg "abs" = none
  heaps60 : ∃ t, mg "MOST_HEAPS" = some (.int 60 t)
  lefts400 : ∃ t, mg "MOST_LEFTS" = some (.int 400 t)
  far : ∃ t, mg "FARTHEST" = some (.int 1000000 t)
  chips : ∃ t, mg "MOST_CHIPS" = some (.int (10 ^ 60) t)
theorem b_isi : bootBuiltins "isinstance" = some (.builtin "isinstance") := by decide +kernel
theorem b_int : bootBuiltins "int" = some (.type "int") := by decide +kernel
theorem b_bool : bootBuiltins "bool" = some (.type "bool") := by decide +kernel
theorem b_list : bootBuiltins "list" = some (.type "list") := by decide +kernel
theorem b_tuple : bootBuiltins "tuple" = some (.type "tuple") := by decide +kernel
theorem b_len : bootBuiltins "len" = some (.builtin "len") := by decide +kernel
theorem b_all : bootBuiltins "all" = some (.builtin "all") := by decide +kernel
theorem b_sorted : bootBuiltins "sorted" = some (.builtin "sorted") := by decide +kernel
theorem b_max : bootBuiltins "max" = some (.builtin "max") := by decide +kernel
theorem b_dict : bootBuiltins "dict" = some (.type "dict") := by decide +kernel
theorem b_abs : bootBuiltins "abs" = some (.builtin "abs") := by decide +kernel
theorem small64 {n : Nat} (h : n ≤ 64) : n ≤ sizeLine := Nat.le_trans h (by decide)

/-- a list or a tuple of these stands at a, among what is tracked -/
def SqM (H : Hp) (a : Addr) (xs : List V) : Prop := H a = some (.lst xs) ∨ TupF H a xs
theorem SqM.sq {K : PySem.W.Frag} {H : Hp} {a : Addr} {xs : List V} (h : SqM H a xs) : SqS K H a xs := h.elim (fun h => .inl (SqL.of h)) fun h => .inr h.sq
theorem SqM.same {H H' : Hp} {a : Addr} {xs : List V} (s : Same H H') (h : SqM H a xs) : SqM H' a xs := h.imp (fun h => s _ _ h) (TupF.same s)
theorem isi_tup (K : PySem.W.Frag) : PySem.W.kitAny K (.type "tuple") [.type "list", .type "tuple"] = some true :=
  kitAny_cons (kit_ty (r := false) (by decide +kernel)) (fun _ => kitAny_cons (kit_ty (r := true) (by decide +kernel)) (fun z => nomatch z) fun _ => rfl) fun z => nomatch z
theorem isi_lst (K : PySem.W.Frag) : PySem.W.kitAny K (.type "list") [.type "list", .type "tuple"] = some true :=
  kitAny_cons (kit_ty (r := true) (by decide +kernel)) (fun z => nomatch z) fun _ => rfl
theorem two_ty : Paired ClsV [V.ty "list", V.ty "tuple"] [Value.type "list", Value.type "tuple"] := .cons (.ty _) (.cons (.ty _) .nil)
theorem SqM.isi {K : PySem.W.Frag} {H : Hp} {a : Addr} {xs : List V} (h : SqM H a xs) : ∃ t, TyX K H (.ref a) t ∧ PySem.W.kitAny K t [.type "list", .type "tuple"] = some true :=
  h.elim (fun h => ⟨_, .base (.lst h), isi_lst K⟩) fun ⟨o, _, h⟩ => ⟨_, .fTuple h, isi_tup K⟩
theorem SqM.len {K : PySem.W.Frag} {H : Hp} {a : Addr} {xs : List V} {n : Nat} (h : SqM H a xs) (e : xs.length = n) : LenV K (.ref a) H n := h.elim (fun h => .inl ⟨_, SqL.of h, e.symm⟩) fun h => .inr ⟨_, h.sq, e.symm⟩
/-- so many Trues -/
def AllT (i : Nat) (acc : List V) : Prop := acc = (List.replicate i true).map V.bl
theorem AllT.push {i : Nat} {acc : List V} (h : AllT i acc) : AllT (i + 1) (acc ++ [.bl true]) := by
  unfold AllT at *
  rw [h, List.replicate_succ', List.map_append]
  rfl
theorem all_rep (n : Nat) : (List.replicate n true).all id = true := by simp
theorem ix_lt {α : Type} {xs : List α} {i : Nat} {x : α} (h : xs[i]? = some x) : i < xs.length := (List.getElem?_eq_some_iff.mp h).1
theorem prs_upd {H : Hp} {D : Addr} {xs : List V} {o : HO} (hD : H D = some (.lst xs)) {rs : List Addr} {L : PL} (h : Prs H rs L) : Prs (upd H D o) rs L := Paired.mapP h fun r p q => by
  have q' : H r = some (.tup [.int p.1, .int p.2]) := q
  show upd H D o r = _
  rw [upd_ne (fun z => by rw [z, hD] at q'; cases q')]
  exact q'
theorem take_snoc {α : Type} {L : List α} {i : Nat} {p : α} (h : L[i]? = some p) : L.take (i + 1) = L.take i ++ [p] := by rw [List.take_add_one, h]; rfl
/-- a def that keeps a promise, met by its name -/
def Has (P : Program) (w : World) (K : PySem.W.Frag) (mg : Str → Option Value) (base : Heap) (k : Nat) (x : Str) (ps : List Str) (dvs : List V) (sp : Sp) : Prop :=
  ∃ f fd ds, FnOk P w K mg base CX0 k f fd ps sp ∧ mg x = some (.ref f) ∧ PySem.W.keepIn K (.ref f) = true ∧ Binds K fd ps ds ∧ Vals dvs ds
section
variable {X : Cx} {k : Nat} {x : Str} {ps : List Str} {dvs : List V} {sp : Sp} {e : Expr} {es : List Expr} {t : TA} {p pos : Pos}
theorem pe_has (h : Has X.prog X.w X.K X.mg X.base k x ps dvs sp) (hr : Room k X.A) (hg : Gl X x) (ha : PA X (e :: es) t) (hdb : (x == ("__debug__" : Str)) = false := by decide)
    (he : starEach (e :: es) X.env = (false, eval e X.env) :: starEach es X.env := by rfl) (hpl : (backTo pos (starEach es X.env)).any (·.1) = false := by rfl) :
    PE X (.Call (.Name x p) (e :: es) [] pos) (tCall sp dvs E0 t) := by
  obtain ⟨f, fd, ds, F, m, kp, b, v⟩ := h
  exact pe_call F hr hg m kp b v pass0 ha hdb he hpl
end
theorem has_of {P : Program} {w : World} {K : PySem.W.Frag} {mg : Str → Option Value} {base : Heap} {k : Nat} {x qual : Str} {st : Stmt} {f : Addr} {fd : FuncData} {ps : List Str} {sp : Sp} (F : Fun K x qual st f fd) (m : mg x = some (.ref f)) (b : Binds K fd ps [])
    (ok : FnOk P w K mg base CX0 k f fd ps sp) : Has P w K mg base k x ps [] sp := ⟨f, fd, [], ok, m, F.kp, b, .nil⟩
end NK
namespace NK
open PySem PySem.Spec PyProof.Rows L2 L2.DX
section
variable {P : Program} {w : World} {K : PySem.W.Frag} {mg : Str → Option Value} {base : Heap}
/-! ### is_integer, is_within, are_integers, is_heap -/
def spIsInt : Sp := fun vs H Q _ => ∃ n : Int, vs = [.int n] ∧ Q (.bl true) H
theorem scIsInt : FnScope ["value"] ["value"] (defScope sIsInt) := ⟨rfl, rfl, rfl, by decide +kernel, rfl, by decide +kernel, by decide +kernel⟩
theorem ok_isInt {f : Addr} {fd : FuncData} (F : Fun K "is_integer" "is_integer" sIsInt f fd) (T : Txt mg) : FnOk P w K mg base CX0 1 f fd ["value"] spIsInt := by
  refine F.ok scIsInt (fun vs H Q E h => ?_) (fun cdv A outer s H vs Q E hr h => ?_)
  · obtain ⟨n, rfl, _⟩ := h
    rfl
  · obtain ⟨n, rfl, k⟩ := h
    refine ⟨_, pss_one (ps_ret (pe_and (pe_callB call_isi (by rfl) T.isi b_isi (pa_cons (pv 0) (pa_cons (pe_bltn (v := .ty "int") (by rfl) T.int b_int rfl) pa_nil)))
      (pe_one (pe_not (pe_callB call_isi (by rfl) T.isi b_isi (pa_cons (pv 0) (pa_cons (pe_bltn (v := .ty "bool") (by rfl) T.bool b_bool rfl) pa_nil))))))), ?_⟩
    refine ⟨_, rfl, _, _, _, _, true, rfl, .ty _, .base (.int _), kit_ty (by decide +kernel), true, rfl, iteT ?_⟩
    exact ⟨_, rfl, _, _, _, _, false, rfl, .ty _, .base (.int _), kit_ty (by decide +kernel), false, rfl, k⟩

def spWithin : Sp := fun vs H Q _ => ∃ n a b : Int, vs = [.int n, .int a, .int b] ∧ a ≤ n ∧ n ≤ b ∧ Q (.bl true) H
theorem scWithin : FnScope ["value", "least", "most"] ["value", "least", "most"] (defScope sWithin) := ⟨rfl, rfl, rfl, by decide +kernel, rfl, by decide +kernel, by decide +kernel⟩
theorem ok_within {f : Addr} {fd : FuncData} (F : Fun K "is_within" "is_within" sWithin f fd) (G1 : Has P w K mg base 1 "is_integer" ["value"] [] spIsInt) : FnOk P w K mg base CX0 2 f fd ["value", "least", "most"] spWithin := by
  refine F.ok scWithin (fun vs H Q E h => ?_) (fun cdv A outer s H vs Q E hr h => ?_)
  · obtain ⟨n, a, b, rfl, _⟩ := h
    rfl
  · obtain ⟨n, a, b, rfl, h1, h2, k⟩ := h
    refine ⟨_, pss_cons (ps_if (pt_not (pt_val (pe_has G1 hr (by rfl) (pa_cons (pv 0) pa_nil)))) (pss_one (ps_ret pe_bl)) pss_nil)
      (pss_one (ps_ret (pe_and (pe_or (pe_cmp (pc_isN (pv 1)) rfl) (pe_one (pe_cmp (pc_le (pv 1) (pv 0)) rfl))) (pe_one (pe_or (pe_cmp (pc_isN (pv 2)) rfl) (pe_one (pe_cmp (pc_le (pv 0) (pv 2)) rfl))))))), ?_⟩
    refine ⟨_, rfl, n, rfl, true, rfl, iteF ?_⟩
    refine ⟨_, rfl, false, rfl, iteF ⟨_, rfl, _, rfl, a, n, rfl, rfl, true, ?_, iteT ?_⟩⟩
    · show V.bl (decide (a ≤ n)) = V.bl true
      rw [decide_eq_true h1]
    refine ⟨_, rfl, false, rfl, iteF ⟨_, rfl, _, rfl, n, b, rfl, rfl, ?_⟩⟩
    show Q (V.bl (decide (n ≤ b))) H
    rw [decide_eq_true h2]
    exact k

def spAreInts : Sp := fun vs H Q _ => ∃ (r : Addr) (p : Int × Int), vs = [.ref r, .int 2] ∧ PrAt H r p ∧ ∀ H', Same H H' → Q (.bl true) H'
theorem scAreInts : FnScope ["value", "many", "each"] ["value", "many"] (defScope sAreInts) := ⟨rfl, rfl, rfl, by decide +kernel, rfl, by decide +kernel, by decide +kernel⟩
theorem ok_areInts {f : Addr} {fd : FuncData} (F : Fun K "are_integers" "are_integers" sAreInts f fd) (T : Txt mg) (G1 : Has P w K mg base 1 "is_integer" ["value"] [] spIsInt) : FnOk P w K mg base CX0 2 f fd ["value", "many"] spAreInts := by
  refine F.ok scAreInts (fun vs H Q E h => ?_) (fun cdv A outer s H vs Q E hr h => ?_)
  · obtain ⟨r, p, rfl, _⟩ := h
    rfl
  · obtain ⟨r, p, rfl, hp, k⟩ := h
    refine ⟨_, pss_cons (ps_if (PW.pt (pw_or (pt_not (pt_val (pe_callB call_isiT (by rfl) T.isi b_isi (pa_cons (pv 0) (pa_cons (pe_tup (pa_cons (pe_bltn (v := .ty "list") (by rfl) T.list b_list rfl) (pa_cons (pe_bltn (v := .ty "tuple") (by rfl) T.tuple b_tuple rfl) pa_nil))) pa_nil)))))
        (pw_or1 (pt_cmpR op_ne (pe_callB call_len (by rfl) T.len b_len (pa_cons (pv 0) pa_nil)) (pv 1) (nomark _))))) (pss_one (ps_ret pe_bl)) pss_nil)
      (pss_one (ps_ret (pe_callB (cr_all rfl) (by rfl) T.all b_all (pa_cons (pe_lc (own := [("each", 2)]) (g := gName 2) (tt := tYes) rfl scAreInts.nd (pi_seq (pv 0)) (blkOk_by (own := [("each", 2)]) (N := ["value", "many", "each"]) (sc := defScope sAreInts) (by decide +kernel))
        (fun _ _ _ _ _ => pg_name (i := 2) scAreInts.nd rfl (Or.inl rfl)) (fun _ _ _ _ _ => pts_nil) (fun _ _ _ _ _ => pe_has G1 hr (by rfl) (pa_cons (pv 2) pa_nil))) pa_nil)))), ?_⟩
    refine ⟨_, rfl, by show 2 ≤ sizeLine; decide, fun tp ht => ?_⟩
    have s1 : Same H (upd H tp (.tup [.ty "list", .ty "tuple"])) := same_new (Same.refl H) ht
    refine ⟨_, tp, _, _, _, true, rfl, upd_same, two_ty, .base (.tup (s1 _ _ hp)), isi_tup K, true, rfl, iteF ?_⟩
    refine ⟨_, rfl, _, 2, rfl, .inr ⟨_, SqT.of (s1 _ _ hp), rfl⟩, _, rfl, rfl, false, ?_, iteF ?_⟩
    · rfl
    refine ⟨_, rfl, lc_seq (K := K) (.inr (SqT.of (s1 _ _ hp))) (fun i acc H' => AllT i acc) (fun D hD => rfl) (fun D i x acc H' hD hx hacc hs hl hP => ?_) fun D acc H' hD hacc hs hl hP => ?_⟩
    · have lt : i < 2 := ix_lt hx
      obtain ⟨n, rfl⟩ : ∃ n, x = V.int n := by
        match i, lt, hx with
        | 0, _, hx => exact ⟨p.1, (Option.some.inj hx).symm⟩
        | 1, _, hx => exact ⟨p.2, (Option.some.inj hx).symm⟩
      exact ⟨rfl, _, rfl, n, rfl, LcI.push hD hacc hs hl (by omega) hP.push⟩
    · refine ⟨D, List.replicate 2 true, rfl, SqL.of (hP ▸ hacc), ?_⟩
      exact k H' (s1.trans hs)
end
end NK
namespace NK
open PySem PySem.Spec PyProof.Rows L2 L2.DX
section
variable {P : Program} {w : World} {K : PySem.W.Frag} {mg : Str → Option Value} {base : Heap}
/-! ### is_heap, are_heaps -/
def HeapOk (p : Int × Int) : Prop := -1000000 ≤ p.1 ∧ p.1 ≤ 1000000 ∧ 1 ≤ p.2 ∧ p.2 ≤ 10 ^ 60
def spIsHeap : Sp := fun vs H Q _ => ∃ (r : Addr) (p : Int × Int), vs = [.ref r] ∧ PrAt H r p ∧ HeapOk p ∧ ∀ H', Same H H' → Q (.bl true) H'
theorem scIsHeap : FnScope ["value"] ["value"] (defScope sIsHeap) := ⟨rfl, rfl, rfl, by decide +kernel, rfl, by decide +kernel, by decide +kernel⟩
theorem ok_isHeap {f : Addr} {fd : FuncData} (F : Fun K "is_heap" "is_heap" sIsHeap f fd) (T : Txt mg) (G1 : Has P w K mg base 2 "are_integers" ["value", "many"] [] spAreInts) (G2 : Has P w K mg base 2 "is_within" ["value", "least", "most"] [] spWithin) :
    FnOk P w K mg base CX0 3 f fd ["value"] spIsHeap := by
  refine F.ok scIsHeap (fun vs H Q E h => ?_) (fun cdv A outer s H vs Q E hr h => ?_)
  · obtain ⟨r, p, rfl, _⟩ := h
    rfl
  · obtain ⟨r, p, rfl, hp, ⟨h1, h2, h3, h4⟩, k⟩ := h
    obtain ⟨tf, mf⟩ := T.far
    obtain ⟨tc, mc⟩ := T.chips
    refine ⟨_, pss_one (ps_ret (pe_and (pe_has G1 hr (by rfl) (pa_cons (pv 0) (pa_cons pe_int pa_nil)))
      (pe_and (pe_has G2 hr (by rfl) (pa_cons (pe_ix ix_tup (pv 0) pe_int (fun _ _ => rfl)) (pa_cons (pe_un un_neg (pe_glob (v := .int 1000000) rfl mf ⟨_, rfl⟩)) (pa_cons (pe_glob (v := .int 1000000) rfl mf ⟨_, rfl⟩) pa_nil))))
      (pe_one (pe_has G2 hr (by rfl) (pa_cons (pe_ix ix_tup (pv 0) pe_int (fun _ _ => rfl)) (pa_cons pe_int (pa_cons (pe_glob (v := .int (10 ^ 60)) rfl mc ⟨_, rfl⟩) pa_nil)))))))), ?_⟩
    refine ⟨_, rfl, r, p, rfl, hp, fun H1 s1 => ⟨true, rfl, iteT ?_⟩⟩
    have hp1 := s1 _ _ hp
    refine ⟨_, rfl, r, _, _, _, rfl, rfl, SqT.of hp1, atI_nat (j := 0) rfl, _, rfl, p.1, _, _, rfl, h1, h2, true, rfl, iteT ?_⟩
    exact ⟨_, rfl, r, _, _, _, rfl, rfl, SqT.of hp1, atI_nat (j := 1) rfl, p.2, _, _, rfl, h3, h4, k H1 s1⟩

structure OkL (L : PL) : Prop where
  len : L.length ≤ 60
  ok : ∀ p ∈ L, HeapOk p
  nd : (keys L).Nodup
def spAreHeaps : Sp := fun vs H Q _ => ∃ (a : Addr) (rs : List Addr) (L : PL), vs = [.ref a] ∧ SqM H a (rs.map V.ref) ∧ Prs H rs L ∧ OkL L ∧ ∀ H', Same H H' → Q (.bl true) H'
abbrev nAH : List Str := ["value", "spots", "each", "spot", "_"]
theorem scAreHeaps : FnScope nAH ["value"] (defScope sAreHeaps) := ⟨rfl, rfl, rfl, by decide +kernel, rfl, by decide +kernel, by decide +kernel⟩
theorem ok_areHeaps {f : Addr} {fd : FuncData} (F : Fun K "are_heaps" "are_heaps" sAreHeaps f fd) (T : Txt mg) (G1 : Has P w K mg base 3 "is_heap" ["value"] [] spIsHeap) :
    FnOk P w K mg base CX0 4 f fd ["value"] spAreHeaps := by
  refine F.ok scAreHeaps (fun vs H Q E h => ?_) (fun cdv A outer s H vs Q E hr h => ?_)
  · obtain ⟨a, rs, L, rfl, _⟩ := h
    rfl
  · obtain ⟨a, rs, L, rfl, hS, hP, O, k⟩ := h
    obtain ⟨t60, m60⟩ := T.heaps60
    refine ⟨_, pss_cons (ps_if (PW.pt (pw_or (pt_not (pt_val (pe_callB call_isiT (by rfl) T.isi b_isi (pa_cons (pv 0) (pa_cons (pe_tup (pa_cons (pe_bltn (v := .ty "list") (by rfl) T.list b_list rfl) (pa_cons (pe_bltn (v := .ty "tuple") (by rfl) T.tuple b_tuple rfl) pa_nil))) pa_nil)))))
        (pw_or (pt_cmpR op_gt (pe_callB call_len (by rfl) T.len b_len (pa_cons (pv 0) pa_nil)) (pe_glob (v := .int 60) rfl m60 ⟨_, rfl⟩) (nomark _))
        (pw_or1 (pt_not (pt_val (pe_callB (cr_all rfl) (by rfl) T.all b_all (pa_cons (pe_lc (own := [("each", 2)]) (g := gName 2) (tt := tYes) rfl scAreHeaps.nd (pi_seq (pv 0)) (blkOk_by (own := [("each", 2)]) (N := nAH) (sc := defScope sAreHeaps) (by decide +kernel))
          (fun _ _ _ _ _ => pg_name (i := 2) scAreHeaps.nd rfl (Or.inl rfl)) (fun _ _ _ _ _ => pts_nil) (fun _ _ _ _ _ => pe_has G1 hr (by rfl) (pa_cons (pv 2) pa_nil))) pa_nil))))))))
        (pss_one (ps_ret pe_bl)) pss_nil)
      (pss_cons (ps_setLc (i := 1) (own := [("spot", 3), ("_", 4)]) (g := gTup K 2 (gCons (gName 3) (gCons (gName 4) gNil))) (tt := tYes) rfl scAreHeaps.nd rfl rfl (sw_true rfl rfl rfl (by decide +kernel)) (pi_seq (pv 0)) (blkOk_by (own := [("spot", 3), ("_", 4)]) (N := nAH) (sc := defScope sAreHeaps) (by decide +kernel))
        (fun _ _ _ _ _ => pg_tup rfl (pgs_cons (pg_name (i := 3) scAreHeaps.nd rfl (Or.inl rfl)) (pgs_cons (pg_name (i := 4) scAreHeaps.nd rfl (Or.inl rfl)) pgs_nil))) (fun _ _ _ _ _ => pts_nil) (fun _ _ _ _ _ => pv 3))
      (pss_one (ps_ret (pe_cmpR op_eq (pe_lenSetI rfl (by rfl) T.len (by rfl) T.set (pv 1)) (pe_callB call_len (by rfl) T.len b_len (pa_cons (pv 1) pa_nil)) (nomark _))))), ?_⟩
    have ln := prs_len hP
    have l60 := O.len
    refine ⟨_, rfl, by show 2 ≤ sizeLine; decide, fun tp ht => ?_⟩
    have s1 : Same H (upd H tp (.tup [.ty "list", .ty "tuple"])) := same_new (Same.refl H) ht
    have S1 := hS.same s1
    obtain ⟨ty, ht1, ht2⟩ := S1.isi (K := K)
    refine ⟨_, tp, _, _, _, true, rfl, upd_same, two_ty, ht1, ht2, true, rfl, iteF ?_⟩
    refine ⟨_, rfl, _, L.length, rfl, S1.len (by rw [List.length_map]; exact ln), _, _, rfl, rfl, false, ?_, iteF ?_⟩
    · show V.bl (decide ((60 : Int) < (L.length : Int))) = V.bl false
      rw [decide_eq_false (by omega)]
    refine ⟨_, rfl, lc_seq (K := K) S1.sq (fun i acc H' => AllT i acc) (fun D hD => rfl) (fun D i x acc H' hD hx hacc hs hl hP' => ?_) fun D acc H' hD hacc hs hl hP' => ?_⟩
    · obtain ⟨r, p, rfl, e1, e2, e3⟩ := prs_get (prs_same (s1.trans hs) hP) hx
      have lt := ix_lt e2
      exact ⟨rfl, _, rfl, r, p, rfl, e3, O.ok p (List.mem_of_getElem? e2), fun H2 s2 => LcI.push hD (s2 _ _ hacc) (hs.trans s2) hl (by omega) hP'.push⟩
    · refine ⟨D, List.replicate (rs.map V.ref).length true, rfl, SqL.of (hP' ▸ hacc), true, ?_, iteF ?_⟩
      · rw [all_rep]
      have s2 := s1.trans hs
      refine ⟨_, rfl, lc_seq (K := K) (hS.same s2).sq (fun i acc H' => acc = ((keys L).take i).map V.int) (fun D hD => rfl) (fun D i x acc H3 hD hx hacc hs3 hl hP3 => ?_) fun D acc H3 hD hacc hs3 hl hP3 => ?_⟩
      · obtain ⟨r, p, rfl, e1, e2, e3⟩ := prs_get (prs_same (s2.trans hs3) hP) hx
        have lt := ix_lt e2
        refine ⟨r, _, rfl, SqT.of e3, rfl, _, _, rfl, _, _, rfl, rfl, rfl, _, rfl, LcI.push hD hacc hs3 hl (by omega) ?_⟩
        rw [take_snoc (p := p.1) (by unfold keys; rw [List.getElem?_map, e2]; rfl), List.map_append, hP3]
        rfl
      · have e : acc = (keys L).map V.int := by
          rw [hP3, List.length_map, ln]
          congr 1
          exact List.take_of_length_le (by unfold keys; rw [List.length_map]; omega)
        have lk : (keys L).length = L.length := by unfold keys; rw [List.length_map]
        refine ⟨_, rfl, D, keys L, rfl, SqL.of (e ▸ hacc), by omega, O.nd, _, rfl, _, (keys L).length, rfl, .inl ⟨_, SqL.of hacc, by rw [e, List.length_map]⟩, rfl, ?_⟩
        show Q (V.bl (decide (V.int ((keys L).length : Int) = V.int ((keys L).length : Int)))) H3
        rw [decide_eq_true rfl]
        exact k H3 (s2.trans hs3)
end
end NK
namespace NK
open PySem PySem.Spec PyProof.Rows L2 L2.DX
section
variable {P : Program} {w : World} {K : PySem.W.Frag} {mg : Str → Option Value} {base : Heap}
/-! ### kept_heaps, need_heaps -/
/-- what stands behind a sort of heaps: at b an ascending tuple of the same -/
def SortedAt (H : Hp) (L : PL) (Q : VK) : Prop := ∀ H' b rs' L', Same H H' → TupF H' b (rs'.map V.ref) → Prs H' rs' L' → L'.Perm L → Asc L' → Q (.ref b) H'
def spKept : Sp := fun vs H Q _ => ∃ (a : Addr) (rs : List Addr) (L : PL), vs = [.ref a] ∧ SqM H a (rs.map V.ref) ∧ Prs H rs L ∧ OkL L ∧ SortedAt H L Q
theorem scKept : FnScope ["value", "spot", "many"] ["value"] (defScope sKept) := ⟨rfl, rfl, rfl, by decide +kernel, rfl, by decide +kernel, by decide +kernel⟩
theorem ok_kept {f : Addr} {fd : FuncData} (F : Fun K "kept_heaps" "kept_heaps" sKept f fd) (T : Txt mg) : FnOk P w K mg base CX0 1 f fd ["value"] spKept := by
  refine F.ok scKept (fun vs H Q E h => ?_) (fun cdv A outer s H vs Q E hr h => ?_)
  · obtain ⟨a, rs, L, rfl, _⟩ := h
    rfl
  · obtain ⟨a, rs, L, rfl, hS, hP, O, k⟩ := h
    refine ⟨_, pss_one (ps_ret (pe_callTy call_tupF (by rfl) T.tuple b_tuple (pa_cons (pe_callB cr_sortedPO (by rfl) T.sorted b_sorted (pa_cons
      (pe_lc (own := [("spot", 1), ("many", 2)]) (g := gTup K 2 (gCons (gName 1) (gCons (gName 2) gNil))) (tt := tYes) rfl scKept.nd (pi_seq (pv 0)) (blkOk_by (own := [("spot", 1), ("many", 2)]) (N := ["value", "spot", "many"]) (sc := defScope sKept) (by decide +kernel))
        (fun _ _ _ _ _ => pg_tup rfl (pgs_cons (pg_name (i := 1) scKept.nd rfl (Or.inl rfl)) (pgs_cons (pg_name (i := 2) scKept.nd rfl (Or.inl rfl)) pgs_nil))) (fun _ _ _ _ _ => pts_nil)
        (fun _ _ _ _ _ => pe_tup (pa_cons (pv 1) (pa_cons (pv 2) pa_nil)))) pa_nil)) pa_nil))), ?_⟩
    have ln := prs_len hP
    have l60 := O.len
    refine ⟨_, rfl, lc_seq (K := K) hS.sq (fun i acc H' => ∃ qs, acc = qs.map V.ref ∧ Prs H' qs (L.take i)) (fun D hD => ⟨[], rfl, .nil⟩) (fun D i x acc H' hD hx hacc hs hl hP' => ?_) fun D acc H' hD hacc hs hl hP' => ?_⟩
    · obtain ⟨r, p, rfl, e1, e2, e3⟩ := prs_get (prs_same hs hP) hx
      have lt := ix_lt e2
      obtain ⟨qs, rfl, pq⟩ := hP'
      refine ⟨r, _, rfl, SqT.of e3, rfl, _, _, rfl, _, _, rfl, rfl, rfl, _, rfl, _, rfl, by show 2 ≤ sizeLine; decide, fun q hq => ?_⟩
      have nq : D ≠ q := ne_of_none hacc hq
      have hD4 : upd H' q (.tup [.int p.1, .int p.2]) D = some (.lst (qs.map V.ref)) := by rw [upd_ne nq]; exact hacc
      refine LcI.push hD hD4 (same_new hs hq) hl (by omega) ⟨qs ++ [q], by rw [List.map_append]; rfl, ?_⟩
      rw [take_snoc e2]
      exact prs_upd hD4 (prs_snoc upd_same (prs_same (same_new (Same.refl _) hq) pq))
    · obtain ⟨qs, rfl, pq⟩ := hP'
      rw [List.take_of_length_le (by rw [List.length_map]; omega)] at pq
      refine ⟨D, _, kH H', rfl, SqL.of hacc, fun x m => ?_, fun ys p h1 h2 hp => ?_⟩
      · obtain ⟨b, mb, rfl⟩ := List.mem_map.mp m
        exact ⟨b, rfl, prs_all pq b mb⟩
      · obtain ⟨rs', L', rfl, p1, p2, p3⟩ := sorted_prs pq h1 h2
        refine ⟨p, _, rfl, SqL.of upd_same, fun a' o ha ho => ?_⟩
        have s2 := same_new (o := HO.lst (rs'.map V.ref)) (Same.refl H') hp
        have s3 := same_new (o := HO.frz o (.tup (rs'.map V.ref))) (Same.refl (upd H' p (.lst (rs'.map V.ref)))) ha
        exact k _ a' rs' L' (hs.trans (s2.trans s3)) ⟨o, ho, upd_same⟩ (prs_same (s2.trans s3) p1) p2 (asc_of p3 (nodup_perm p2 O.nd))

def spNeedHeaps : Sp := fun vs H Q _ => ∃ (a : Addr) (x : Str) (rs : List Addr) (L : PL), vs = [.ref a, .str x] ∧ SqM H a (rs.map V.ref) ∧ Prs H rs L ∧ OkL L ∧ SortedAt H L Q
theorem scNeedHeaps : FnScope ["value", "part"] ["value", "part"] (defScope sNeedHeaps) := ⟨rfl, rfl, rfl, by decide +kernel, rfl, by decide +kernel, by decide +kernel⟩
theorem ok_needHeaps {f : Addr} {fd : FuncData} (F : Fun K "need_heaps" "need_heaps" sNeedHeaps f fd) (G1 : Has P w K mg base 4 "are_heaps" ["value"] [] spAreHeaps) (G2 : Has P w K mg base 1 "kept_heaps" ["value"] [] spKept) :
    FnOk P w K mg base CX0 5 f fd ["value", "part"] spNeedHeaps := by
  refine F.ok scNeedHeaps (fun vs H Q E h => ?_) (fun cdv A outer s H vs Q E hr h => ?_)
  · obtain ⟨a, x, rs, L, rfl, _⟩ := h
    rfl
  · obtain ⟨a, x, rs, L, rfl, hS, hP, O, k⟩ := h
    refine ⟨_, pss_cons (ps_if (pt_not (pt_val (pe_has G1 hr (by rfl) (pa_cons (pv 0) pa_nil)))) pss_never pss_nil) (pss_one (ps_ret (pe_has G2 (hr.mono (by decide)) (by rfl) (pa_cons (pv 0) pa_nil)))), ?_⟩
    refine ⟨_, rfl, a, rs, L, rfl, hS, hP, O, fun H1 s1 => ⟨true, rfl, iteF ?_⟩⟩
    exact ⟨_, rfl, a, rs, L, rfl, hS.same s1, prs_same s1 hP, O, fun H' b rs' L' s2 => k H' b rs' L' (s1.trans s2)⟩

/-! ### colour_in, spots_of, need_colour -/
def spColourIn (K : PySem.W.Frag) : Sp := fun vs H Q _ => ∃ (l : Addr) (n : Int) (ns : List Int), vs = [.ref l] ∧ SqL K H l ((n :: ns).map V.int) ∧ Q (.int (n % 2)) H
theorem scColourIn : FnScope ["spots"] ["spots"] (defScope sColourIn) := ⟨rfl, rfl, rfl, by decide +kernel, rfl, by decide +kernel, by decide +kernel⟩
theorem ok_colourIn {f : Addr} {fd : FuncData} (F : Fun K "colour_in" "colour_in" sColourIn f fd) (T : Txt mg) : FnOk P w K mg base CX0 1 f fd ["spots"] (spColourIn K) := by
  refine F.ok scColourIn (fun vs H Q E h => ?_) (fun cdv A outer s H vs Q E hr h => ?_)
  · obtain ⟨l, n, ns, rfl, _⟩ := h
    rfl
  · obtain ⟨l, n, ns, rfl, hS, k⟩ := h
    refine ⟨_, pss_one (ps_ret (pe_ifExp (pt_cmpR op_gt (pe_callB call_len (by rfl) T.len b_len (pa_cons (pv 0) pa_nil)) pe_int (nomark _)) (pe_op op_mod (pe_ix ix_list (pv 0) pe_int (fun _ _ => rfl)) pe_int) pe_non)), ?_⟩
    refine ⟨_, rfl, _, (ns.length + 1), rfl, .inl ⟨_, hS, by rw [List.length_map]; rfl⟩, _, _, rfl, rfl, true, ?_, iteT ?_⟩
    · show V.bl (decide ((0 : Int) < ((ns.length + 1 : Nat) : Int))) = V.bl true
      rw [decide_eq_true (by omega)]
    · exact ⟨_, rfl, l, _, _, _, rfl, rfl, hS, atI_nat (j := 0) rfl, _, _, rfl, rfl, by show (0 : Int) < 2; decide, k⟩
def spSpots : Sp := fun vs H Q _ => ∃ (a : Addr) (rs : List Addr) (L : PL), vs = [.ref a] ∧ SqS K H a (rs.map V.ref) ∧ Prs H rs L ∧ L.length ≤ 200 ∧ ∀ H' l, Same H H' → H' l = some (.lst ((keys L).map V.int)) → Q (.ref l) H'
theorem scSpots : FnScope ["heaps", "spot", "_"] ["heaps"] (defScope sSpots) := ⟨rfl, rfl, rfl, by decide +kernel, rfl, by decide +kernel, by decide +kernel⟩
theorem ok_spots {f : Addr} {fd : FuncData} (F : Fun K "spots_of" "spots_of" sSpots f fd) : FnOk P w K mg base CX0 1 f fd ["heaps"] (spSpots (K := K)) := by
  refine F.ok scSpots (fun vs H Q E h => ?_) (fun cdv A outer s H vs Q E hr h => ?_)
  · obtain ⟨a, rs, L, rfl, _⟩ := h
    rfl
  · obtain ⟨a, rs, L, rfl, hS, hP, hz, k⟩ := h
    refine ⟨_, pss_one (ps_ret (pe_lc (own := [("spot", 1), ("_", 2)]) (g := gTup K 2 (gCons (gName 1) (gCons (gName 2) gNil))) (tt := tYes) rfl scSpots.nd (pi_seq (pv 0)) (blkOk_by (own := [("spot", 1), ("_", 2)]) (N := ["heaps", "spot", "_"]) (sc := defScope sSpots) (by decide +kernel))
        (fun _ _ _ _ _ => pg_tup rfl (pgs_cons (pg_name (i := 1) scSpots.nd rfl (Or.inl rfl)) (pgs_cons (pg_name (i := 2) scSpots.nd rfl (Or.inl rfl)) pgs_nil))) (fun _ _ _ _ _ => pts_nil) (fun _ _ _ _ _ => pv 1))), ?_⟩
    have ln := prs_len hP
    refine ⟨_, rfl, lc_seq (K := K) hS (fun i acc H' => acc = ((keys L).take i).map V.int) (fun D hD => rfl) (fun D i x acc H3 hD hx hacc hs3 hl hP3 => ?_) fun D acc H3 hD hacc hs3 hl hP3 => ?_⟩
    · obtain ⟨r, p, rfl, e1, e2, e3⟩ := prs_get (prs_same hs3 hP) hx
      have lt := ix_lt e2
      refine ⟨r, _, rfl, SqT.of e3, rfl, _, _, rfl, _, _, rfl, rfl, rfl, _, rfl, LcI.push hD hacc hs3 hl (by omega) ?_⟩
      rw [take_snoc (p := p.1) (by unfold keys; rw [List.getElem?_map, e2]; rfl), List.map_append, hP3]
      rfl
    · have e : acc = (keys L).map V.int := by
        rw [hP3, List.length_map, ln]
        congr 1
        exact List.take_of_length_le (by unfold keys; rw [List.length_map]; omega)
      exact k H3 D hs3 (e ▸ hacc)
def spNeedColour (K : PySem.W.Frag) : Sp := fun vs H Q _ => ∃ (l : Addr) (ns : List Int) (c : Int), vs = [.ref l] ∧ SqL K H l (ns.map V.int) ∧ ns.length ≤ 200 ∧ (∀ n ∈ ns, n % 2 = c) ∧ ∀ H', Same H H' → Q .non H'
theorem scNeedColour : FnScope ["spots", "spot"] ["spots"] (defScope sNeedColour) := ⟨rfl, rfl, rfl, by decide +kernel, rfl, by decide +kernel, by decide +kernel⟩
theorem ok_needColour {f : Addr} {fd : FuncData} (F : Fun K "need_colour" "need_colour" sNeedColour f fd) (T : Txt mg) (G1 : Has P w K mg base 1 "colour_in" ["spots"] [] (spColourIn K)) : FnOk P w K mg base CX0 2 f fd ["spots"] (spNeedColour K) := by
  refine F.ok scNeedColour (fun vs H Q E h => ?_) (fun cdv A outer s H vs Q E hr h => ?_)
  · obtain ⟨l, ns, c, rfl, _⟩ := h
    rfl
  · obtain ⟨l, ns, c, rfl, hS, hz, hc, k⟩ := h
    refine ⟨_, pss_one (ps_if (pt_not (pt_val (pe_callB (cr_all rfl) (by rfl) T.all b_all (pa_cons (pe_lc (own := [("spot", 1)]) (g := gName 1) (tt := tYes) rfl scNeedColour.nd (pi_seq (pv 0)) (blkOk_by (own := [("spot", 1)]) (N := ["spots", "spot"]) (sc := defScope sNeedColour) (by decide +kernel))
      (fun _ _ _ _ _ => pg_name (i := 1) scNeedColour.nd rfl (Or.inl rfl)) (fun _ _ _ _ _ => pts_nil)
      (fun _ _ _ _ _ => pe_cmpR op_eq (pe_op op_mod (pv 1) pe_int) (pe_has G1 hr (by rfl) (pa_cons (pv 0) pa_nil)) (nomark _))) pa_nil)))) pss_never pss_nil), ?_⟩
    refine ⟨_, rfl, lc_seq (K := K) (.inl hS) (fun i acc H' => AllT i acc) (fun D hD => rfl) (fun D i x acc H' hD hx hacc hs hl hP' => ?_) fun D acc H' hD hacc hs hl hP' => ?_⟩
    · rw [List.getElem?_map] at hx
      obtain ⟨n, e1, rfl⟩ := Option.map_eq_some_iff.mp hx
      have lt := ix_lt e1
      obtain ⟨m, ms, rfl⟩ : ∃ m ms, ns = m :: ms := by
        cases ns with
        | nil => cases e1
        | cons m ms => exact ⟨m, ms, rfl⟩
      refine ⟨rfl, _, rfl, _, _, rfl, rfl, by show (0 : Int) < 2; decide, _, rfl, l, m, ms, rfl, hs.seq hS, rfl, LcI.push hD hacc hs hl (by omega) ?_⟩
      have e2 : n % 2 = m % 2 := by rw [hc n (List.mem_of_getElem? e1), hc m List.mem_cons_self]
      show AllT (i + 1) (acc ++ [V.bl (decide (V.int (n % 2) = V.int (m % 2)))])
      rw [decide_eq_true (by rw [e2])]
      exact AllT.push hP'
    · refine ⟨D, List.replicate (ns.map V.int).length true, rfl, SqL.of (hP' ▸ hacc), true, by rw [all_rep], iteF ?_⟩
      exact k H' hs
end
end NK
namespace NK
open PySem PySem.Spec PyProof.Rows L2 L2.DX
section
variable {P : Program} {w : World} {K : PySem.W.Frag} {mg : Str → Option Value} {base : Heap}
/-! ### need_lefts -/
structure OkS (ns : List Int) : Prop where
  len : ns.length ≤ 60
  ok : ∀ n ∈ ns, -1000000 ≤ n ∧ n ≤ 1000000
  nd : ns.Nodup
def spNeedLefts : Sp := fun vs H Q _ => ∃ (l : Addr) (x : Str) (ns : List Int), vs = [.ref l, .str x] ∧ H l = some (.lst (ns.map V.int)) ∧ OkS ns ∧
  ∀ (H' : Hp) (b : Addr) (ns' : List Int), Same H H' → TupF H' b (ns'.map V.int) → ns'.Perm ns → ns'.Pairwise (· < ·) → Q (.ref b) H'
abbrev nNL : List Str := ["value", "part", "spot"]
theorem scNeedLefts : FnScope nNL ["value", "part"] (defScope sNeedLefts) := ⟨rfl, rfl, rfl, by decide +kernel, rfl, by decide +kernel, by decide +kernel⟩
theorem ok_needLefts {f : Addr} {fd : FuncData} {kws : List (Str × V)} (F : FunD K "need_lefts" "need_lefts" (defArgs sNeedLefts) (defBody sNeedLefts) (defScope sNeedLefts) [.str "lefts"] kws f fd) (T : Txt mg)
    (G1 : Has P w K mg base 2 "is_within" ["value", "least", "most"] [] spWithin) : FnOk P w K mg base CX0 3 f fd ["value", "part"] spNeedLefts := by
  refine F.ok scNeedLefts (fun vs H Q E h => ?_) (fun cdv A outer s H vs Q E hr h => ?_)
  · obtain ⟨l, x, ns, rfl, _⟩ := h
    rfl
  · obtain ⟨l, x, ns, rfl, hl, O, k⟩ := h
    obtain ⟨t4, m4⟩ := T.lefts400
    obtain ⟨tf, mf⟩ := T.far
    have hS : SqM H l (ns.map V.int) := .inl hl
    have l60 := O.len
    refine ⟨_, pss_cons (ps_if (PW.pt (pw_or (pt_not (pt_val (pe_callB call_isiT (by rfl) T.isi b_isi (pa_cons (pv 0) (pa_cons (pe_tup (pa_cons (pe_bltn (v := .ty "list") (by rfl) T.list b_list rfl) (pa_cons (pe_bltn (v := .ty "tuple") (by rfl) T.tuple b_tuple rfl) pa_nil))) pa_nil)))))
        (pw_or1 (pt_cmpR op_gt (pe_callB call_len (by rfl) T.len b_len (pa_cons (pv 0) pa_nil)) (pe_glob (v := .int 400) rfl m4 ⟨_, rfl⟩) (nomark _))))) pss_never pss_nil)
      (pss_cons (ps_if (PW.pt (pw_or (pt_not (pt_val (pe_callB (cr_all rfl) (by rfl) T.all b_all (pa_cons (pe_lc (own := [("spot", 2)]) (g := gName 2) (tt := tYes) rfl scNeedLefts.nd (pi_seq (pv 0)) (blkOk_by (own := [("spot", 2)]) (N := nNL) (sc := defScope sNeedLefts) (by decide +kernel))
          (fun _ _ _ _ _ => pg_name (i := 2) scNeedLefts.nd rfl (Or.inl rfl)) (fun _ _ _ _ _ => pts_nil)
          (fun _ _ _ _ _ => pe_has G1 hr (by rfl) (pa_cons (pv 2) (pa_cons (pe_un un_neg (pe_glob (v := .int 1000000) rfl mf ⟨_, rfl⟩)) (pa_cons (pe_glob (v := .int 1000000) rfl mf ⟨_, rfl⟩) pa_nil))))) pa_nil))))
        (pw_or1 (pt_cmpR op_lt (pe_lenSetI rfl (by rfl) T.len (by rfl) T.set (pv 0)) (pe_callB call_len (by rfl) T.len b_len (pa_cons (pv 0) pa_nil)) (nomark _))))) pss_never pss_nil)
      (pss_one (ps_ret (pe_callTy call_tupF (by rfl) T.tuple b_tuple (pa_cons (pe_callB cr_sortedI (by rfl) T.sorted b_sorted (pa_cons (pv 0) pa_nil)) pa_nil))))), ?_⟩
    refine ⟨_, rfl, by show 2 ≤ sizeLine; decide, fun tp ht => ?_⟩
    have s1 : Same H (upd H tp (.tup [.ty "list", .ty "tuple"])) := same_new (Same.refl H) ht
    have S1 := hS.same s1
    obtain ⟨ty, ht1, ht2⟩ := S1.isi (K := K)
    refine ⟨_, tp, _, _, _, true, rfl, upd_same, two_ty, ht1, ht2, true, rfl, iteF ?_⟩
    refine ⟨_, rfl, _, ns.length, rfl, S1.len (List.length_map ..), _, _, rfl, rfl, false, ?_, iteF ?_⟩
    · show V.bl (decide ((400 : Int) < (ns.length : Int))) = V.bl false
      rw [decide_eq_false (by omega)]
    refine ⟨_, rfl, lc_seq (K := K) S1.sq (fun i acc H' => AllT i acc) (fun D hD => rfl) (fun D i x acc H' hD hx hacc hs hl hP' => ?_) fun D acc H' hD hacc hs hl hP' => ?_⟩
    · rw [List.getElem?_map] at hx
      obtain ⟨n, e1, rfl⟩ := Option.map_eq_some_iff.mp hx
      have lt := ix_lt e1
      obtain ⟨b1, b2⟩ := O.ok n (List.mem_of_getElem? e1)
      exact ⟨rfl, _, rfl, _, rfl, n, _, _, rfl, b1, b2, LcI.push hD hacc hs hl (by omega) hP'.push⟩
    · refine ⟨D, List.replicate (ns.map V.int).length true, rfl, SqL.of (hP' ▸ hacc), true, by rw [all_rep], iteF ?_⟩
      have s2 := s1.trans hs
      have S2 := hS.same s2
      have hl2 := s2 _ _ ‹H l = some (.lst (ns.map V.int))›
      refine ⟨_, rfl, l, ns, rfl, SqL.of hl2, by omega, O.nd, _, rfl, _, ns.length, rfl, S2.len (List.length_map ..), _, _, rfl, rfl, false, ?_, iteF ?_⟩
      · show V.bl (decide ((ns.length : Int) < (ns.length : Int))) = V.bl false
        rw [decide_eq_false (by omega)]
      refine ⟨_, rfl, l, ns, rfl, SqL.of hl2, fun ns' p p1 p2 hp => ⟨p, _, rfl, SqL.of upd_same, fun a o ha ho => ?_⟩⟩
      exact k _ a ns' (s2.trans (same_new (same_new (Same.refl _) hp) ha)) ⟨o, ho, upd_same⟩ p1 (NK.lt_of_le p2 (p1.nodup_iff.mpr O.nd))

/-! ### need_start -/
def OneC (L : PL) (c : Int) : Prop := ∀ p ∈ L, p.1 % 2 = c
theorem OneC.keys {L M : PL} {c : Int} (h : OneC L c) (p : M.Perm L) : ∀ n ∈ keys M, n % 2 = c := fun n m => by
  obtain ⟨q, hq, e⟩ := List.mem_map.mp m
  rw [← e]
  exact h q (p.mem_iff.mp hq)
theorem keys_len (L : PL) : (keys L).length = L.length := List.length_map ..
def spNeedStart : Sp := fun vs H Q _ => ∃ (a l : Addr) (rs : List Addr) (L : PL) (ns : List Int) (c : Int), vs = [.ref a, .ref l] ∧ SqM H a (rs.map V.ref) ∧ Prs H rs L ∧ OkL L ∧ OneC L c ∧ H l = some (.lst (ns.map V.int)) ∧ OkS ns ∧
  ∀ (H' : Hp) (t b : Addr) (rs' : List Addr) (L' : PL) (d : Addr) (ns' : List Int), Same H H' → H' t = some (.tup [.ref b, .ref d]) → TupF H' b (rs'.map V.ref) → Prs H' rs' L' → L'.Perm L → Asc L' → TupF H' d (ns'.map V.int) → ns'.Perm ns → ns'.Pairwise (· < ·) → Q (.ref t) H'
theorem scNeedStart : FnScope ["heaps", "lefts", "found", "hands"] ["heaps", "lefts"] (defScope sNeedStart) := ⟨rfl, rfl, rfl, by decide +kernel, rfl, by decide +kernel, by decide +kernel⟩
theorem ok_needStart {f : Addr} {fd : FuncData} (F : Fun K "need_start" "need_start" sNeedStart f fd) (G1 : Has P w K mg base 5 "need_heaps" ["value", "part"] [] spNeedHeaps) (G2 : Has P w K mg base 3 "need_lefts" ["value", "part"] [.str "lefts"] spNeedLefts)
    (G3 : Has P w K mg base 2 "need_colour" ["spots"] [] (spNeedColour K)) (G4 : Has P w K mg base 1 "spots_of" ["heaps"] [] (spSpots (K := K))) : FnOk P w K mg base CX0 6 f fd ["heaps", "lefts"] spNeedStart := by
  refine F.ok scNeedStart (fun vs H Q E h => ?_) (fun cdv A outer s H vs Q E hr h => ?_)
  · obtain ⟨a, l, rs, L, ns, c, rfl, _⟩ := h
    rfl
  · obtain ⟨a, l, rs, L, ns, c, rfl, hS, hP, O, C, hl, OS, k⟩ := h
    refine ⟨_, pss_cons (ps_par (by rfl) scNeedStart.nd (i := 2) (j := 3) rfl rfl (by decide) rfl rfl (pa_cons (pe_has G1 hr (by rfl) (pa_cons (pv 0) (pa_cons pe_str pa_nil))) (pa_cons (pe_has G2 (hr.mono (by decide)) (by rfl) (pa_cons (pv 1) pa_nil)) pa_nil)) (by rfl))
      (pss_cons (ps_expr (pe_has G3 (hr.mono (by decide)) (by rfl) (pa_cons (pe_has G4 (hr.mono (by decide)) (by rfl) (pa_cons (pv 2) pa_nil)) pa_nil)))
      (pss_one (ps_ret (pe_tup (pa_cons (pv 2) (pa_cons (pv 3) pa_nil)))))), ?_⟩
    refine ⟨_, rfl, a, _, rs, L, rfl, hS, hP, O, fun H1 b rs1 L1 s1 b1 p1 q1 a1 => ?_⟩
    refine ⟨_, rfl, l, _, ns, rfl, s1 _ _ hl, OS, fun H2 d ns2 s2 d2 q2 a2 => ⟨_, _, rfl, ?_⟩⟩
    have len1 : L1.length ≤ 60 := by rw [q1.length_eq]; exact O.len
    refine ⟨_, rfl, b, rs1, L1, rfl, .inr (b1.same s2).sq, prs_same s2 p1, by omega, fun H3 l3 s3 h3 => ⟨l3, keys L1, c, rfl, SqL.of h3, by rw [keys_len]; omega, C.keys q1, fun H4 s4 => ?_⟩⟩
    refine ⟨_, rfl, _, rfl, by show 2 ≤ sizeLine; decide, fun t ht => ?_⟩
    have s5 := s3.trans (s4.trans (same_new (Same.refl H4) ht (o := .tup [.ref b, .ref d])))
    exact k _ t b rs1 L1 d ns2 (s1.trans (s2.trans s5)) upd_same (b1.same (s2.trans s5)) (prs_same (s2.trans s5) p1) q1 a1 (d2.same s5) q2 a2

/-! ### joined_heaps -/
/-- t + u of two tuples: the first, the second, or a new one -/
theorem cat_any {K : PySem.W.Frag} {H : Hp} {a b : Addr} {xs ys : List V} {Q : VK} (ha : SqT K H a xs) (hb : SqT K H b ys) (hl : xs.length + ys.length ≤ 200) (k : ∀ H' c, Same H H' → SqT K H' c (xs ++ ys) → Q (.ref c) H') : rCatA K (.ref a) (.ref b) H Q := by
  refine ⟨a, b, xs, ys, rfl, rfl, ha, hb, Nat.le_trans hl (by decide), fun e => ?_, fun _ e => ?_, fun _ _ p hp => k _ p (same_new (Same.refl H) hp) (SqT.of upd_same)⟩
  · subst e
    exact k H b (Same.refl H) hb
  · subst e
    exact k H a (Same.refl H) (by rw [List.append_nil]; exact ha)
theorem prs_app {H : Hp} : ∀ {rs qs : List Addr} {L M : PL}, Prs H rs L → Prs H qs M → Prs H (rs ++ qs) (L ++ M)
  | _, _, _, _, .nil, q => q
  | _, _, _, _, .cons h t, q => .cons h (prs_app t q)
def spJoined : Sp := fun vs H Q _ => ∃ (a b : Addr) (rs qs : List Addr) (L M : PL) (c : Int), vs = [.ref a, .ref b] ∧ SqM H a (rs.map V.ref) ∧ Prs H rs L ∧ OkL L ∧ SqM H b (qs.map V.ref) ∧ Prs H qs M ∧ OkL M ∧ OneC L c ∧ OneC M c ∧ L.length + M.length ≤ 60 ∧ M ≠ [] ∧
  (∀ x, look L x + look M x ≤ 10 ^ 60) ∧
  ∀ (H' : Hp) (t : Addr) (rs' : List Addr) (J : PL), Same H H' → TupF H' t (rs'.map V.ref) → Prs H' rs' J → Asc J → (∀ x, look J x = look L x + look M x) → OkL J → OneC J c → J.length ≤ L.length + M.length → Q (.ref t) H'
abbrev nJH : List Str := ["one", "other", "first", "second", "found", "spot", "many"]
theorem scJoined : FnScope nJH ["one", "other"] (defScope sJoined) := ⟨rfl, rfl, rfl, by decide +kernel, rfl, by decide +kernel, by decide +kernel⟩
theorem ok_joined {f : Addr} {fd : FuncData} (F : Fun K "joined_heaps" "joined_heaps" sJoined f fd) (T : Txt mg) (G1 : Has P w K mg base 5 "need_heaps" ["value", "part"] [] spNeedHeaps)
    (G3 : Has P w K mg base 2 "need_colour" ["spots"] [] (spNeedColour K)) (G4 : Has P w K mg base 1 "spots_of" ["heaps"] [] (spSpots (K := K))) : FnOk P w K mg base CX0 6 f fd ["one", "other"] spJoined := by
  refine F.ok scJoined (fun vs H Q E h => ?_) (fun cdv A outer s H vs Q E hr h => ?_)
  · obtain ⟨a, b, rs, qs, L, M, c, rfl, _⟩ := h
    rfl
  · obtain ⟨a, b, rs, qs, L, M, c, rfl, hS, hP, O, hS', hP', O', C, C', len, ne, big, k⟩ := h
    have hu := hu_of hr
    obtain ⟨t60, m60⟩ := T.heaps60
    obtain ⟨tc, mc⟩ := T.chips
    refine ⟨_, pss_cons (ps_par (by rfl) scJoined.nd (i := 2) (j := 3) rfl rfl (by decide) rfl rfl (pa_cons (pe_has G1 hr (by rfl) (pa_cons (pv 0) (pa_cons pe_str pa_nil))) (pa_cons (pe_has G1 hr (by rfl) (pa_cons (pv 1) (pa_cons pe_str pa_nil))) pa_nil)) (by rfl))
      (pss_cons (ps_expr (pe_has G3 (hr.mono (by decide)) (by rfl) (pa_cons (pe_has G4 (hr.mono (by decide)) (by rfl) (pa_cons (pe_op op_catA (pv 2) (pv 3)) pa_nil)) pa_nil)))
      (pss_cons (ps_set (i := 4) scJoined.nd rfl (Or.inl rfl) pe_dnewK)
      (pss_cons (ps_for PassesOwn.never rfl (pi_tup (pe_op op_catA (pv 2) (pv 3))) (pg_tup rfl (pgs_cons (pg_name (i := 5) scJoined.nd rfl (Or.inl rfl)) (pgs_cons (pg_name (i := 6) scJoined.nd rfl (Or.inl rfl)) pgs_nil)))
        (pss_one (ps_dput hu (pv 4) (pv 5) (pe_op op_add (pe_dget2 hu (pv 4) (pv 5) pe_int ⟨rfl, rfl, rfl, rfl⟩) (pv 6)) rfl)))
      (pss_cons (ps_if (pt_cmpR op_gt (pe_callB call_lenD (by rfl) T.len b_len (pa_cons (pv 4) pa_nil)) (pe_glob (v := .int 60) rfl m60 ⟨_, rfl⟩) (nomark _)) pss_never pss_nil)
      (pss_cons (ps_if (pt_cmpR op_gt (pe_callBK (cr_maxVals rfl) (by rfl) T.max b_max (pa_cons (pe_bm0 PySem.F.plainAttrs_dict PySem.F.slot_dict_values PySem.F.type_dict_values mt_vals (pv 4)) pa_nil) (pk_cons pe_int pk_nil)) (pe_glob (v := .int (10 ^ 60)) rfl mc ⟨_, rfl⟩) (nomark _)) pss_never pss_nil)
      (pss_one (ps_ret (pe_callTy call_tupF (by rfl) T.tuple b_tuple (pa_cons (pe_callB (cr_sortItems rfl) (by rfl) T.sorted b_sorted (pa_cons (pe_bm0 PySem.F.plainAttrs_dict PySem.F.slot_dict_items PySem.F.type_dict_items mt_items (pv 4)) pa_nil)) pa_nil))))))))), ?_⟩
    refine ⟨_, rfl, a, _, rs, L, rfl, hS, hP, O, fun H1 b1 rs1 L1 s1 t1 p1 q1 a1 => ?_⟩
    refine ⟨_, rfl, b, _, qs, M, rfl, hS'.same s1, prs_same s1 hP', O', fun H2 b2 rs2 L2 s2 t2 p2 q2 a2 => ⟨_, _, rfl, ?_⟩⟩
    have T1 : SqT K H2 b1 (rs1.map V.ref) := (t1.same s2).sq
    have T2 : SqT K H2 b2 (rs2.map V.ref) := t2.sq
    have P1 := prs_same s2 p1
    have n1 := prs_len p1
    have n2 := prs_len p2
    have e1 := q1.length_eq
    have e2 := q2.length_eq
    refine ⟨_, rfl, _, rfl, cat_any T1 T2 (by rw [List.length_map, List.length_map]; omega) fun H3 c3 s3 h3 => ?_⟩
    rw [← List.map_append] at h3
    refine ⟨c3, rs1 ++ rs2, L1 ++ L2, rfl, .inr h3, prs_app (prs_same s3 P1) (prs_same s3 p2), by rw [List.length_append]; omega, fun H4 l4 s4 h4 => ⟨l4, keys (L1 ++ L2), c, rfl, SqL.of h4, by rw [keys_len, List.length_append]; omega, fun n m => ?_, fun H5 s5 => ?_⟩⟩
    · have m' : n ∈ keys L1 ∨ n ∈ keys L2 := by
        unfold keys at m
        rw [List.map_append, List.mem_append] at m
        exact m
      exact m'.elim (C.keys q1 n) (C'.keys q2 n)
    have s25 : Same H2 H5 := s3.trans (s4.trans s5)
    intro d hd
    have s26 : Same H2 (upd H5 d (.dK [])) := same_new s25 hd
    have d0 : H2 d = none := s25.free hd
    refine ⟨_, rfl, _, rfl, cat_any (same_seqT s26 T1) (same_seqT s26 T2) (by rw [List.length_map, List.length_map]; omega) fun H6 c6 s6 h6 => ?_⟩
    rw [← List.map_append] at h6
    have s27 : Same H2 H6 := s26.trans s6
    have P6 : Prs H6 (rs1 ++ rs2) (L1 ++ L2) := prs_app (prs_same s27 P1) (prs_same s27 p2)
    have d6 : H6 d = some (.dK (dkI (joinD ((L1 ++ L2).take 0) []))) := s6 _ _ upd_same
    have LL : (L1 ++ L2).length ≤ 60 := by rw [List.length_append]; omega
    refine ⟨c6, rfl, ⟨_, h6⟩, for_tup (K := K) (a := c6) (xs := (rs1 ++ rs2).map V.ref) (fun i σ H' => ∃ v5 v6 : Option V, σ = [some (.ref a), some (.ref b), some (.ref b1), some (.ref b2), some (.ref d), v5, v6] ∧ Same H2 H' ∧ SqT K H' c6 ((rs1 ++ rs2).map V.ref) ∧ Prs H' (rs1 ++ rs2) (L1 ++ L2) ∧ H' d = some (.dK (dkI (joinD ((L1 ++ L2).take i) []))))
      ⟨none, none, rfl, s27, h6, P6, d6⟩ (fun i σ H' _ ⟨_, _, _, _, h, _⟩ => h) ?_ ?_⟩
    · rintro i x σ H' hx ⟨v5, v6, rfl, s7, h7, P7, d7⟩
      obtain ⟨r, p, rfl, e1, e2, e3⟩ := prs_get P7 hx
      have lt := ix_lt e2
      have lJ : (joinD ((L1 ++ L2).take i) []).length ≤ 60 := by
        have := length_join ((L1 ++ L2).take i) []
        rw [List.length_take, List.length_nil] at this
        omega
      refine ⟨r, _, rfl, SqT.of e3, rfl, _, _, rfl, _, _, rfl, rfl, ?_⟩
      refine ⟨_, rfl, d, rfl, .inl ⟨_, .inl d7⟩, _, rfl, _, DGet.k (k := Sum.inl p.1) d7, _, rfl, look (joinD ((L1 ++ L2).take i) []) p.1, p.2, ?_, rfl, _, rfl, _, rfl, d, _, rfl, DPut.k (k := Sum.inl p.1) d7 (by rw [dk_len]; exact small1000 (by omega)), ?_⟩
      · rw [val_dk, getD_look]
      · have nx : putK (dkI (joinD ((L1 ++ L2).take i) [])) (Sum.inl p.1) (V.int (look (joinD ((L1 ++ L2).take i) []) p.1 + p.2)) = dkI (joinD ((L1 ++ L2).take (i + 1)) []) := by
          rw [put_dk, take_snoc e2]
          unfold joinD
          rw [List.foldl_append]
          rfl
        have nd : ∀ {b : Addr} {o : HO}, H' b = some o → (∀ kvs, o ≠ .dK kvs) → b ≠ d := fun h1 h2 z => by
          rw [z, d7] at h1
          exact h2 _ (Option.some.inj h1).symm
        refine ⟨_, _, rfl, same_put s7 d0, ?_, Paired.mapP P7 fun r' p' q => ?_, Eq.trans upd_same (congrArg (fun l => some (HO.dK l)) nx)⟩
        · rcases h7 with (h7 | ⟨o, h7⟩) | h7
          · exact .inl (.inl (by rw [upd_ne (nd h7 (fun _ z => nomatch z))]; exact h7))
          · exact .inl (.inr ⟨o, by rw [upd_ne (nd h7 (fun _ z => nomatch z))]; exact h7⟩)
          · exact .inr h7
        · show upd H' d _ r' = _
          rw [upd_ne (nd q (fun _ z => nomatch z))]
          exact q
    · rintro σ H' ⟨v5, v6, rfl, s7, h7, P7, d7⟩
      have full : (L1 ++ L2).take ((rs1 ++ rs2).map V.ref).length = L1 ++ L2 := List.take_of_length_le (by rw [List.length_map, List.length_append, List.length_append]; omega)
      rw [full] at d7
      -- what the dict holds
      have nd1 : (keys L1).Nodup := a1.nodup
      have nd2 : (keys L2).Nodup := a2.nodup
      have split : joinD (L1 ++ L2) [] = joinD L2 (joinD L1 []) := by unfold joinD; rw [List.foldl_append]
      have hlook : ∀ x, look (joinD (L1 ++ L2) []) x = look L x + look M x := fun x => by
        rw [split, look_join _ _ _ nd2, look_join _ _ _ nd1, look_nil, look_perm q1 O.nd, look_perm q2 O'.nd]
        omega
      have hnd : (keys (joinD (L1 ++ L2) [])).Nodup := nodup_join _ (by simp [keys])
      have hkeys : ∀ x, x ∈ keys (joinD (L1 ++ L2) []) → x ∈ keys L ∨ x ∈ keys M := fun x m => by
        rw [keys_join] at m
        rcases m with m | m
        · simp [keys] at m
        · unfold keys at m
          rw [List.map_append, List.mem_append] at m
          exact m.imp (fun m => (keys_perm q1).mem_iff.mp m) (fun m => (keys_perm q2).mem_iff.mp m)
      have hpos : ∀ p ∈ joinD (L1 ++ L2) [], 1 ≤ p.2 := all_join (P := fun v => 1 ≤ v) (fun x y h1 h2 => by omega) _ (fun p m => by cases m) fun p m => by
        rcases List.mem_append.mp m with m | m
        · exact (O.ok p (q1.mem_iff.mp m)).2.2.1
        · exact (O'.ok p (q2.mem_iff.mp m)).2.2.1
      have hbig : ∀ p ∈ joinD (L1 ++ L2) [], p.2 ≤ 10 ^ 60 := fun p m => by
        have e := look_of hnd m
        have := big p.1
        rw [← hlook, e] at this
        exact this
      have hlen : (joinD (L1 ++ L2) []).length ≤ L.length + M.length := by
        have := length_join (L1 ++ L2) []
        rw [List.length_append, List.length_nil] at this
        omega
      have hne : joinD (L1 ++ L2) [] ≠ [] := fun z => by
        obtain ⟨p, m⟩ := List.exists_mem_of_ne_nil M ne
        have m2 : p.1 ∈ keys (joinD (L1 ++ L2) []) := by
          rw [keys_join]
          refine .inr ?_
          unfold keys
          rw [List.map_append, List.mem_append]
          exact .inr (List.mem_map.mpr ⟨p, q2.mem_iff.mpr m, rfl⟩)
        rw [z] at m2
        simp [keys] at m2
      have hc : OneC (joinD (L1 ++ L2) []) c := fun p m => by
        rcases hkeys p.1 (List.mem_map.mpr ⟨p, m, rfl⟩) with m | m
        · exact C.keys (List.Perm.refl _) _ m
        · exact C'.keys (List.Perm.refl _) _ m
      have hfar : ∀ p ∈ joinD (L1 ++ L2) [], -1000000 ≤ p.1 ∧ p.1 ≤ 1000000 := fun p m => by
        rcases hkeys p.1 (List.mem_map.mpr ⟨p, m, rfl⟩) with m | m
        · obtain ⟨q, hq, e⟩ := List.mem_map.mp m
          rw [← e]
          exact ⟨(O.ok q hq).1, (O.ok q hq).2.1⟩
        · obtain ⟨q, hq, e⟩ := List.mem_map.mp m
          rw [← e]
          exact ⟨(O'.ok q hq).1, (O'.ok q hq).2.1⟩
      generalize joinD (L1 ++ L2) [] = J at *
      refine ⟨_, rfl, d, _, rfl, d7, _, _, rfl, rfl, false, ?_, iteF ?_⟩
      · show V.bl (decide ((60 : Int) < ((dkI J).length : Int))) = V.bl false
        rw [dk_len, decide_eq_false (by omega)]
      refine ⟨_, rfl, Or.inr (Or.inr (Or.inl ⟨rfl, .inl ⟨_, d7⟩⟩)), d, _, rfl, rfl, d7, fun v hv => ⟨v, d, J, .int 0, rfl, rfl, upd_same, by rw [upd_ne (ne_of_none d7 hv)]; exact d7, hne, fun m hm _ => ⟨_, _, rfl, rfl, false, ?_, iteF ?_⟩⟩⟩
      · show V.bl (decide ((10 ^ 60 : Int) < m)) = V.bl false
        obtain ⟨p, mp, e⟩ := List.mem_map.mp hm
        have := hbig p mp
        rw [decide_eq_false (by omega)]
      · have s8 : Same H' (upd H' v (valsO v d)) := same_new (Same.refl H') hv
        have d8 := s8 _ _ d7
        refine ⟨_, rfl, Or.inr (Or.inr (Or.inl ⟨rfl, .inl ⟨_, d8⟩⟩)), d, _, rfl, rfl, d8, fun u hu2 => ⟨u, d, J, rfl, upd_same, by rw [upd_ne (ne_of_none d8 hu2)]; exact d8, fun H9 l rs' D' s9 _ h9 p9 q9 w9 => ⟨l, _, rfl, SqL.of h9, fun t o ht ho => ?_⟩⟩⟩
        have s10 := same_new (o := HO.frz o (.tup (rs'.map V.ref))) (Same.refl H9) ht
        have all : Same H _ := s1.trans (s2.trans (s7.trans (s8.trans ((same_new (Same.refl _) hu2 (o := itemsO u d)).trans (s9.trans s10)))))
        have nd9 := nodup_perm q9 hnd
        refine k _ t rs' D' all ⟨o, ho, upd_same⟩ (prs_same s10 p9) (asc_of w9 nd9) (fun x => by rw [look_perm q9 hnd, hlook]) ⟨by rw [q9.length_eq]; omega, fun p m => ?_, nd9⟩ (fun p m => hc p (q9.mem_iff.mp m)) (by rw [q9.length_eq]; omega)
        have m' := q9.mem_iff.mp m
        exact ⟨(hfar p m').1, (hfar p m').2, hpos p m', hbig p m'⟩
end
end NK
namespace NK
open PySem PySem.Spec PyProof.Rows L2 L2.DX
/-! ### a Line on the heap -/
def lf (t : Int) (a b : Addr) : List (Str × V) := putF "lefts" (.ref b) (putF "heaps" (.ref a) (putF "tick" (.int t) []))
theorem n_th : ¬ (("tick" : Str) = "heaps") := by decide +kernel
theorem n_tl : ¬ (("tick" : Str) = "lefts") := by decide +kernel
theorem n_hl : ¬ (("heaps" : Str) = "lefts") := by decide +kernel
theorem n_ht : ¬ (("heaps" : Str) = "tick") := by decide +kernel
theorem n_lt : ¬ (("lefts" : Str) = "tick") := by decide +kernel
theorem n_lh : ¬ (("lefts" : Str) = "heaps") := by decide +kernel
theorem lf_eq (t : Int) (a b : Addr) : lf t a b = ([("tick", V.int t), ("heaps", V.ref a), ("lefts", V.ref b)] : List (Str × V)) := by
  have e1 : putF "heaps" (V.ref a) (putF "tick" (V.int t) []) = ([("tick", V.int t), ("heaps", V.ref a)] : List (Str × V)) := by
    show (if ("tick" : Str) = "heaps" then _ else (("tick" : Str), V.int t) :: putF "heaps" (V.ref a) []) = _
    rw [if_neg n_th]
    rfl
  unfold lf
  rw [e1]
  show (if ("tick" : Str) = "lefts" then _ else (("tick" : Str), V.int t) :: (if ("heaps" : Str) = "lefts" then _ else (("heaps" : Str), V.ref a) :: putF "lefts" (V.ref b) [])) = _
  rw [if_neg n_tl, if_neg n_hl]
  rfl
theorem lf_tick (t : Int) (a b : Addr) : (lf t a b).lookup ("tick" : Str) = some (.int t) := by
  unfold lf
  rw [lookup_putF, if_neg n_tl, lookup_putF, if_neg n_th, lookup_putF, if_pos rfl]
theorem lf_heaps (t : Int) (a b : Addr) : (lf t a b).lookup ("heaps" : Str) = some (.ref a) := by
  unfold lf
  rw [lookup_putF, if_neg n_hl, lookup_putF, if_pos rfl]
theorem lf_lefts (t : Int) (a b : Addr) : (lf t a b).lookup ("lefts" : Str) = some (.ref b) := by
  unfold lf
  rw [lookup_putF, if_pos rfl]
theorem lf_no (t : Int) (a b : Addr) {m : Str} (h1 : ¬ m = "tick") (h2 : ¬ m = "heaps") (h3 : ¬ m = "lefts") : (lf t a b).lookup m = none := by
  unfold lf
  rw [lookup_putF, if_neg h3, lookup_putF, if_neg h2, lookup_putF, if_neg h1]
  rfl
theorem lf_len (t : Int) (a b : Addr) : (lf t a b).length < 1000 := by rw [lf_eq]; show 3 < 1000; decide
theorem put_heaps (t : Int) (a b c : Addr) : putF "heaps" (.ref c) (lf t a b) = lf t c b := by
  rw [lf_eq, lf_eq]
  show (if ("tick" : Str) = "heaps" then _ else (("tick" : Str), V.int t) :: (if ("heaps" : Str) = "heaps" then (("heaps" : Str), V.ref c) :: [(("lefts" : Str), V.ref b)] else _)) = ([("tick", V.int t), ("heaps", V.ref c), ("lefts", V.ref b)] : List (Str × V))
  rw [if_neg n_th, if_pos rfl]
theorem put_lefts (t : Int) (a b c : Addr) : putF "lefts" (.ref c) (lf t a b) = lf t a c := by
  rw [lf_eq, lf_eq]
  show (if ("tick" : Str) = "lefts" then _ else (("tick" : Str), V.int t) :: (if ("heaps" : Str) = "lefts" then _ else (("heaps" : Str), V.ref a) :: (if ("lefts" : Str) = "lefts" then [(("lefts" : Str), V.ref c)] else _))) = ([("tick", V.int t), ("heaps", V.ref a), ("lefts", V.ref c)] : List (Str × V))
  rw [if_neg n_tl, if_neg n_hl, if_pos rfl]
theorem put_tick (t u : Int) (a b : Addr) : putF "tick" (.int u) (lf t a b) = lf u a b := by
  rw [lf_eq, lf_eq]
  show (if ("tick" : Str) = "tick" then (("tick" : Str), V.int u) :: [(("heaps" : Str), V.ref a), (("lefts" : Str), V.ref b)] else _) = ([("tick", V.int u), ("heaps", V.ref a), ("lefts", V.ref b)] : List (Str × V))
  rw [if_pos rfl]
structure LTxt (K : PySem.W.Frag) (mg : Str → Option Value) (C : Addr) : Prop where
  cl : Cls K C
  nT : NoAttr K C "tick"
  nH : NoAttr K C "heaps"
  nL : NoAttr K C "lefts"
  mgC : mg "Line" = some (.ref C)
/-- the line at p: its heaps L, its lefts S, its tick t -/
def LineAt (C : Addr) (H : Hp) (p : Addr) (L : PL) (S : List Int) (t : Int) : Prop := ∃ dx th tl rs, H p = some (.ins C dx (lf t th tl)) ∧ TupF H th (rs.map V.ref) ∧ Prs H rs L ∧ TupF H tl (S.map V.int)
/-- all that stood stands, but what is at p -/
def SameBut (p : Addr) (H H' : Hp) : Prop := ∀ b o, H b = some o → b ≠ p → H' b = some o
theorem same_but {p : Addr} {H H' : Hp} (s : Same H H') : SameBut p H H' := fun b o h _ => s b o h
theorem SameBut.trans {p : Addr} {H H1 H2 : Hp} (a : SameBut p H H1) (b : SameBut p H1 H2) : SameBut p H H2 := fun c o h n => b c o (a c o h n) n
theorem SameBut.upd {p : Addr} {H H1 : Hp} {o : HO} (s : SameBut p H H1) : SameBut p H (L2.upd H1 p o) := fun b u h n => by
  rw [upd_ne n]
  exact s b u h n
theorem tupF_keep {H H' : Hp} {p : Addr} {u : HO} (hp : H p = some u) (nf : ∀ o xs, u ≠ .frz o (.tup xs)) (s : SameBut p H H') {b : Addr} {xs : List V} (h : TupF H b xs) : TupF H' b xs := by
  obtain ⟨o, d, e⟩ := h
  refine ⟨o, d, s b _ e fun z => ?_⟩
  rw [z, hp] at e
  exact nf _ _ (Option.some.inj e)
theorem prs_keep {H H' : Hp} {p : Addr} {u : HO} (hp : H p = some u) (nf : ∀ xs, u ≠ .tup xs) (s : SameBut p H H') {rs : List Addr} {L : PL} (h : Prs H rs L) : Prs H' rs L := Paired.mapP h fun r q e => by
  have e' : H r = some (.tup [.int q.1, .int q.2]) := e
  refine s r _ e' fun z => ?_
  rw [z, hp] at e'
  exact nf _ (Option.some.inj e')
theorem LineAt.keep {C : Addr} {H H' : Hp} {p q : Addr} {u : HO} {L : PL} {S : List Int} {t : Int} (h : LineAt C H p L S t) (hq : H q = some u) (n1 : ∀ o xs, u ≠ .frz o (.tup xs)) (n2 : ∀ xs, u ≠ .tup xs) (n3 : p ≠ q) (s : SameBut q H H') : LineAt C H' p L S t := by
  obtain ⟨dx, th, tl, rs, h1, h2, h3, h4⟩ := h
  exact ⟨dx, th, tl, rs, s p _ h1 n3, tupF_keep hq n1 s h2, prs_keep hq n2 s h3, tupF_keep hq n1 s h4⟩
theorem LineAt.same {C : Addr} {H H' : Hp} {p : Addr} {L : PL} {S : List Int} {t : Int} (h : LineAt C H p L S t) (s : Same H H') : LineAt C H' p L S t := by
  obtain ⟨dx, th, tl, rs, h1, h2, h3, h4⟩ := h
  exact ⟨dx, th, tl, rs, s p _ h1, h2.same s, prs_same s h3, h4.same s⟩

section
variable {P : Program} {w : World} {K : PySem.W.Frag} {mg : Str → Option Value} {base : Heap}
/-! ### Line.__init__ -/
def spInit (C : Addr) : Sp := fun vs H Q _ => ∃ (p dx a l : Addr) (rs : List Addr) (L : PL) (ns : List Int) (c : Int), vs = [.ref p, .ref a, .ref l] ∧ H p = some (.ins C dx []) ∧ SqM H a (rs.map V.ref) ∧ Prs H rs L ∧ OkL L ∧ OneC L c ∧ H l = some (.lst (ns.map V.int)) ∧ OkS ns ∧
  ∀ (H' : Hp) (L' : PL) (S : List Int), LineAt C H' p L' S 0 → L'.Perm L → Asc L' → S.Perm ns → S.Pairwise (· < ·) → SameBut p H H' → Q .non H'
abbrev nIN : List Str := ["self", "heaps", "lefts", "found", "hands"]
theorem scInit : FnScope nIN ["self", "heaps", "lefts"] (defScope sInit) := ⟨rfl, rfl, rfl, by decide +kernel, rfl, by decide +kernel, by decide +kernel⟩
theorem ok_init {f C : Addr} {fd : FuncData} (F : Fun K "__init__" "Line.__init__" sInit f fd) (T : LTxt K mg C) (G : Has P w K mg base 6 "need_start" ["heaps", "lefts"] [] spNeedStart) : FnOk P w K mg base CX0 7 f fd ["self", "heaps", "lefts"] (spInit C) := by
  refine F.ok scInit (fun vs H Q E h => ?_) (fun cdv A outer s H vs Q E hr h => ?_)
  · obtain ⟨p, dx, a, l, rs, L, ns, c, rfl, _⟩ := h
    rfl
  · obtain ⟨p, dx, a, l, rs, L, ns, c, rfl, hp, hS, hP, O, OC, hl, OS, k⟩ := h
    refine ⟨_, pss_cons (ps_asg (pe_has G hr (by rfl) (pa_cons (pv 1) (pa_cons (pv 2) pa_nil))) (pg_tup rfl (pgs_cons (pg_name (i := 3) scInit.nd rfl (Or.inl rfl)) (pgs_cons (pg_name (i := 4) scInit.nd rfl (Or.inl rfl)) pgs_nil))))
      (pss_cons (ps_fld (pv 0) pe_int rfl) (pss_cons (ps_fld (pv 0) (pv 3) rfl) (pss_one (ps_fld (pv 0) (pv 4) rfl)))), ?_⟩
    refine ⟨_, rfl, _, rfl, a, l, rs, L, ns, c, rfl, hS, hP, O, OC, hl, OS, fun H1 t b rs' L' d ns' s1 ht hb hP1 q1 a1 hd q2 a2 => ?_⟩
    have hp1 := s1 _ _ hp
    refine ⟨t, _, rfl, SqT.of ht, rfl, _, _, rfl, _, _, rfl, rfl, ?_⟩
    refine ⟨_, rfl, p, C, dx, [], rfl, hp1, T.cl, T.nT, by show 0 < 1000; decide, ?_⟩
    refine ⟨_, rfl, _, rfl, p, C, dx, _, rfl, upd_same, T.cl, T.nH, by show 1 < 1000; decide, ?_⟩
    refine ⟨_, rfl, _, rfl, p, C, dx, _, rfl, upd_same, T.cl, T.nL, ?_, ?_⟩
    · exact Nat.lt_of_le_of_lt (length_putF _ _ _) (by show 2 < 1000; decide)
    rw [upd_upd, upd_upd]
    have sb : SameBut p H1 (upd H1 p (.ins C dx (lf 0 b d))) := SameBut.upd (same_but (Same.refl H1))
    refine k _ L' ns' ⟨dx, b, d, rs', upd_same, tupF_keep hp1 (fun _ _ z => nomatch z) sb hb, prs_keep hp1 (fun _ z => nomatch z) sb hP1, tupF_keep hp1 (fun _ _ z => nomatch z) sb hd⟩ q1 a1 q2 a2 ((same_but s1).trans sb)
end
end NK
namespace NK
open PySem PySem.Spec PyProof.Rows L2 L2.DX
/-! ### the dict of lefts -/
abbrev dkB (D : List (Int × Bool)) : List (Key × V) := dk V.bl D
theorem getD_lb (D : List (Int × Bool)) (k : Int) : ((getA D k).map V.bl).getD (.bl false) = .bl (lb D k) := by
  unfold lb
  cases getA D k <;> rfl
theorem leftsD_keys : ∀ (S : List Int) (x : Int), x ∈ keys (leftsD S) ↔ x ∈ S := by
  have go : ∀ (S : List Int) (D : List (Int × Bool)) (x : Int), x ∈ keys (S.foldl (fun D x => putA D x true) D) ↔ x ∈ keys D ∨ x ∈ S := by
    intro S
    induction S with
    | nil => intro D x; simp
    | cons s r ih =>
      intro D x
      rw [List.foldl_cons, ih, mem_keys_put, List.mem_cons]
      constructor
      · rintro ((h | h) | h)
        · exact .inr (.inl h)
        · exact .inl h
        · exact .inr (.inr h)
      · rintro (h | h | h)
        · exact .inl (.inr h)
        · exact .inl (.inl h)
        · exact .inr h
  intro S x
  show x ∈ keys (S.foldl (fun D x => putA D x true) []) ↔ _
  rw [go S [] x]
  exact ⟨fun h => h.elim (fun z => by cases z) id, .inr⟩
theorem leftsD_some (S : List Int) (x : Int) : (valV (dkB (leftsD S)) (Sum.inl x)).isSome = decide (x ∈ S) := by
  rw [val_dk, Option.isSome_map]
  by_cases m : x ∈ S
  · obtain ⟨v, e⟩ := getA_some_of_key ((leftsD_keys S x).mpr m)
    rw [e, decide_eq_true m]
    rfl
  · rw [getA_none fun z => m ((leftsD_keys S x).mp z), decide_eq_false m]
    rfl
theorem set_wipe {σ : L2.St} {n : Nat} {x : Option V} : wipe (((wipe σ [n])).set n x) [n] = wipe σ [n] := by
  simp [wipe, List.set_set]
theorem get_set {σ : L2.St} {n : Nat} {x : Option V} (h : n < σ.length) : ((wipe σ [n]).set n x)[n]? = some x := by
  simp [wipe, h]
/-- {x: True for x in t}, t a tuple of ints -/
theorem dc_lefts {K : PySem.W.Frag} {a : Addr} {S : List Int} {n : Nat} {σ : L2.St} {H1 : Hp} {Qd : Addr → Hp → Prop} (hn : n < σ.length) (hT : TupF H1 a (S.map V.int)) (hz : S.length ≤ 1000)
    (hd : ∀ D H', H1 D = none → Same H1 H' → H' D = some (.dK (dkB (leftsD S))) → Qd D H') :
    ∀ D, H1 D = none → ∃ W : Nat → Nat → Hp → Prop, (∃ m, W 0 m (upd H1 D (.dK []))) ∧ ∀ i m H, W i m H →
      ((Itt K a).stop i H ∧ Qd D H) ∨ ((Itt K a).go i H ∧ ∃ Nx : Hp → Prop, (∀ H', Nx H' → ∃ m', m' < m ∧ W (i + 1) m' H') ∧ ∀ x H', (Itt K a).yld i H x H' → gName n x (wipe σ [n]) H' fun σ2 H2 => wipe σ2 [n] = wipe σ [n] ∧ tYes σ2 H2 fun b H3 =>
        if b = true then tVar n σ2 H3 fun y H4 => tC (.bl true) σ2 H4 fun z H5 => ∃ kvs k, y = kV k ∧ H5 D = some (.dK kvs) ∧ kvs.length < sizeLine ∧ Nx (upd H5 D (.dK (putK kvs k z))) else Nx H3) := by
  intro D hD
  refine dc_tup (K := K) (a := a) (xs := S.map V.int) (fun i H' => Same H1 H' ∧ H' D = some (.dK (dkB (leftsD (S.take i))))) ⟨same_put (Same.refl _) hD, upd_same⟩ (fun i H' _ h => same_seqT h.1 hT.sq) (fun i x H' hx ⟨s, h⟩ => ?_) fun H' ⟨s, h⟩ => hd D H' hD s ?_
  · rw [List.getElem?_map] at hx
    obtain ⟨m, e, rfl⟩ := Option.map_eq_some_iff.mp hx
    have lt := ix_lt e
    have len := leftsD_length (S.take i)
    rw [List.length_take] at len
    refine ⟨set_wipe, _, get_set hn, _, Sum.inl m, rfl, h, by rw [dk_len]; exact small1000 (by omega), same_put s hD, ?_⟩
    rw [upd_same, put_dk, take_snoc e]
    unfold leftsD
    rw [List.foldl_append]
    rfl
  · rw [h, List.length_map, List.take_length]
/-! ### triples -/
abbrev TrAt (H : Hp) (r : Addr) (t : Int × Int × Int) : Prop := H r = some (.tup [.int t.1, .int t.2.1, .int t.2.2])
abbrev Trs (H : Hp) (ts : List Addr) (T : List (Int × Int × Int)) : Prop := Paired (TrAt H) ts T
theorem trs_same {H H' : Hp} (s : Same H H') {ts : List Addr} {T : List (Int × Int × Int)} (h : Trs H ts T) : Trs H' ts T := Paired.mapP h fun _ _ e => s _ _ e
theorem trs_snoc {H : Hp} {r : Addr} {t : Int × Int × Int} (h : TrAt H r t) : ∀ {ts : List Addr} {T : List (Int × Int × Int)}, Trs H ts T → Trs H (ts ++ [r]) (T ++ [t])
  | _, _, .nil => .cons h .nil
  | _, _, .cons h' u => .cons h' (trs_snoc h u)
theorem trs_keep {H H' : Hp} (k : ∀ b xs, H b = some (.tup xs) → H' b = some (.tup xs)) {ts : List Addr} {T : List (Int × Int × Int)} (h : Trs H ts T) : Trs H' ts T := Paired.mapP h fun _ _ e => k _ _ e
theorem trs_get {H : Hp} : ∀ {ts : List Addr} {T : List (Int × Int × Int)} {i : Nat} {x : V}, Trs H ts T → (ts.map V.ref)[i]? = some x → ∃ r t, x = .ref r ∧ ts[i]? = some r ∧ T[i]? = some t ∧ TrAt H r t
  | _, _, i, x, .nil, e => by simp at e
  | _, _, 0, x, .cons (a := r) (b := t) h u, e => by
    simp at e
    exact ⟨r, t, e.symm, rfl, rfl, h⟩
  | _, _, i + 1, x, .cons h u, e => by
    obtain ⟨r', t', e1, e2, e3, e4⟩ := trs_get (i := i) (x := x) u (by simpa using e)
    exact ⟨r', t', e1, by simpa using e2, by simpa using e3, e4⟩
theorem prs_keepT {H H' : Hp} (k : ∀ b xs, H b = some (.tup xs) → H' b = some (.tup xs)) {rs : List Addr} {L : PL} (h : Prs H rs L) : Prs H' rs L := Paired.mapP h fun _ _ e => k _ _ e
/-- a store to what is no tuple leaves the tuples -/
theorem tups_upd {H : Hp} {p : Addr} {u o : HO} (hp : H p = some u) (nt : ∀ xs, u ≠ .tup xs) : ∀ b xs, H b = some (.tup xs) → upd H p o b = some (.tup xs) := fun b xs e => by
  rw [upd_ne (fun z => by rw [z, hp] at e; exact nt _ (Option.some.inj e))]
  exact e
section
variable {P : Program} {w : World} {K : PySem.W.Frag} {mg : Str → Option Value} {base : Heap}
/-! ### sent_on -/
def spSent : Sp := fun vs H Q _ => ∃ (a l : Addr) (rs : List Addr) (L : PL) (S : List Int), vs = [.ref a, .ref l] ∧ TupF H a (rs.map V.ref) ∧ Prs H rs L ∧ TupF H l (S.map V.int) ∧ L.length ≤ 1000 ∧ S.length ≤ 1000 ∧
  ∀ (H' : Hp) (f : Addr) (ts : List Addr), Same H H' → H f = none → H' f = some (.lst (ts.map V.ref)) → Trs H' ts (sentOn L S) → Q (.ref f) H'
abbrev nSE : List Str := ["heaps", "lefts", "spot", "shown", "found", "many", "more"]
theorem scSent : FnScope nSE ["heaps", "lefts"] (defScope sSent) := ⟨rfl, rfl, rfl, by decide +kernel, rfl, by decide +kernel, by decide +kernel⟩
theorem ok_sent {f : Addr} {fd : FuncData} (F : Fun K "sent_on" "sent_on" sSent f fd) : FnOk P w K mg base CX0 1 f fd ["heaps", "lefts"] spSent := by
  refine F.ok scSent (fun vs H Q E h => ?_) (fun cdv A outer s H vs Q E hr h => ?_)
  · obtain ⟨a, l, rs, L, S, rfl, _⟩ := h
    rfl
  · obtain ⟨a, l, rs, L, S, rfl, hA, hP, hL, z1, z2, k⟩ := h
    have hu := hu_of hr
    refine ⟨_, pss_cons (ps_par (by rfl) scSent.nd (i := 3) (j := 4) rfl rfl (by decide) rfl rfl (pa_cons (pe_dc (own := [("spot", 2)]) (g := gName 2) (tt := tYes) rfl scSent.nd (pi_tup (pv 1)) (blkOk_by (own := [("spot", 2)]) (N := nSE) (sc := defScope sSent) (by decide +kernel))
        (fun _ _ _ _ _ => pg_name (i := 2) scSent.nd rfl (Or.inl rfl)) (fun _ _ _ _ _ => pts_nil) (fun _ _ _ _ _ => pv 2) (fun _ _ _ _ _ => pe_bl)) (pa_cons (pe_lst pa_nil) pa_nil)) (by rfl))
      (pss_cons (ps_for PassesOwn.never rfl (pi_tup (pv 0)) (pg_tup rfl (pgs_cons (pg_name (i := 2) scSent.nd rfl (Or.inl rfl)) (pgs_cons (pg_name (i := 5) scSent.nd rfl (Or.inl rfl)) pgs_nil)))
        (pss_cons (ps_set (i := 6) scSent.nd rfl (Or.inl rfl) (pe_op op_sub (pv 5) (pe_op op_fdiv (pv 5) pe_int)))
        (pss_one (ps_expr (pe_bm PySem.F.plainAttrs_list PySem.F.slot_list_append PySem.F.type_list_append mt_append (pv 4) (pa_cons (pe_ifExp (pt_cmp (pc_din hu (pv 2) (pv 3)))
          (pe_tup (pa_cons (pv 2) (pa_cons (pv 6) (pa_cons (pe_op op_fdiv (pv 5) pe_int) pa_nil)))) (pe_tup (pa_cons (pv 2) (pa_cons (pe_op op_fdiv (pv 5) pe_int) (pa_cons (pv 6) pa_nil))))) pa_nil))))))
      (pss_one (ps_ret (pv 4)))), ?_⟩
    refine ⟨_, rfl, l, rfl, ⟨_, hL.sq⟩, dc_lefts (K := K) (by show 2 < 7; decide) hL z2 fun D H1 hD s1 hD1 => ⟨Nat.zero_le _, fun q hq => ⟨_, _, rfl, ?_⟩⟩⟩
    have q0 : H q = none := s1.free hq
    have s2 : Same H (upd H1 q (.lst [])) := same_put s1 q0
    have nDq : D ≠ q := ne_of_none hD1 hq
    have ln := prs_len hP
    refine ⟨_, rfl, a, rfl, ⟨_, same_seqT s2 hA.sq⟩, for_tup (K := K) (a := a) (xs := rs.map V.ref) (fun i σ H' => ∃ (v2 v5 v6 : Option V) (ts : List Addr), σ = [some (.ref a), some (.ref l), v2, some (.ref D), some (.ref q), v5, v6] ∧ Same H H' ∧ H' D = some (.dK (dkB (leftsD S))) ∧ H' q = some (.lst (ts.map V.ref)) ∧ Trs H' ts (sentOn (L.take i) S))
      ⟨none, none, none, [], rfl, s2, by rw [upd_ne nDq]; exact hD1, upd_same, .nil⟩ (fun i σ H' _ ⟨_, _, _, _, _, s, _⟩ => same_seqT s hA.sq) ?_ ?_⟩
    · rintro i x σ H' hx ⟨v2, v5, v6, ts, rfl, s3, h3, h4, h5⟩
      obtain ⟨r, p, rfl, e1, e2, e3⟩ := prs_get (prs_same s3 hP) hx
      have lt := ix_lt e2
      have lts : ts.length = i := by
        rw [Paired.length h5]
        unfold sentOn
        rw [List.length_map, List.length_take]
        omega
      have fin : ∀ (tr : Addr) (t : Int × Int × Int), H' tr = none → t = (p.1, toL S p.1 p.2, toR S p.1 p.2) → ∀ (v2 v5 v6 : Option V), ∃ (v2' v5' v6' : Option V) (ts' : List Addr), [some (V.ref a), some (V.ref l), v2, some (V.ref D), some (V.ref q), v5, v6] = [some (V.ref a), some (.ref l), v2', some (.ref D), some (.ref q), v5', v6'] ∧
          Same H (upd (upd H' tr (.tup [.int t.1, .int t.2.1, .int t.2.2])) q (.lst (ts.map V.ref ++ [.ref tr]))) ∧ upd (upd H' tr (.tup [.int t.1, .int t.2.1, .int t.2.2])) q (.lst (ts.map V.ref ++ [.ref tr])) D = some (.dK (dkB (leftsD S))) ∧
          upd (upd H' tr (.tup [.int t.1, .int t.2.1, .int t.2.2])) q (.lst (ts.map V.ref ++ [.ref tr])) q = some (.lst (ts'.map V.ref)) ∧ Trs (upd (upd H' tr (.tup [.int t.1, .int t.2.1, .int t.2.2])) q (.lst (ts.map V.ref ++ [.ref tr]))) ts' (sentOn (L.take (i + 1)) S) := by
        intro tr t htr et v2 v5 v6
        have nq : q ≠ tr := ne_of_none h4 htr
        have nD : D ≠ tr := ne_of_none h3 htr
        have hq4 : upd H' tr (.tup [.int t.1, .int t.2.1, .int t.2.2]) q = some (.lst (ts.map V.ref)) := by rw [upd_ne nq]; exact h4
        refine ⟨v2, v5, v6, ts ++ [tr], rfl, same_put (same_new s3 htr) q0, by rw [upd_ne nDq, upd_ne nD]; exact h3, by rw [upd_same, List.map_append]; rfl, ?_⟩
        have e : sentOn (L.take (i + 1)) S = sentOn (L.take i) S ++ [t] := by
          rw [take_snoc e2, et]
          unfold sentOn
          rw [List.map_append]
          rfl
        rw [e]
        exact trs_keep (tups_upd hq4 fun _ z => nomatch z) (trs_snoc upd_same (trs_same (same_new (Same.refl _) htr) h5))
      refine ⟨r, _, rfl, SqT.of e3, rfl, _, _, rfl, _, _, rfl, rfl, ?_⟩
      refine ⟨_, rfl, _, rfl, p.2, 2, rfl, rfl, ⟨by decide, by decide⟩, p.2, p.2 / 2, rfl, rfl, ?_⟩
      refine ⟨_, rfl, .inl ⟨rfl, _, SqL.of h4⟩, _, rfl, _, rfl, D, _, rfl, DGet.k (k := Sum.inl p.1) h3, _, rfl, ?_⟩
      rw [leftsD_some]
      by_cases m : p.1 ∈ S
      · rw [decide_eq_true m]
        refine iteT ⟨_, rfl, _, rfl, _, rfl, p.2, 2, rfl, rfl, ⟨by decide, by decide⟩, by show 3 ≤ sizeLine; decide, fun tr htr => ⟨q, _, _, rfl, rfl, by rw [upd_ne (ne_of_none h4 htr)]; exact h4, by rw [List.length_map]; exact small1000 (by omega), ?_⟩⟩
        exact fin tr (p.1, p.2 - p.2 / 2, p.2 / 2) htr (by unfold toL toR; rw [if_pos m, if_pos m]) _ _ _
      · rw [decide_eq_false m]
        refine iteF ⟨_, rfl, _, rfl, p.2, 2, rfl, rfl, ⟨by decide, by decide⟩, _, rfl, by show 3 ≤ sizeLine; decide, fun tr htr => ⟨q, _, _, rfl, rfl, by rw [upd_ne (ne_of_none h4 htr)]; exact h4, by rw [List.length_map]; exact small1000 (by omega), ?_⟩⟩
        exact fin tr (p.1, p.2 / 2, p.2 - p.2 / 2) htr (by unfold toL toR; rw [if_neg m, if_neg m]) _ _ _
    · rintro σ H' ⟨v2, v5, v6, ts, rfl, s3, h3, h4, h5⟩
      rw [List.length_map, ln, List.take_length] at h5
      exact ⟨_, rfl, k H' q ts s3 q0 h4 h5⟩
end
end NK
namespace NK
open PySem PySem.Spec PyProof.Rows L2 L2.DX
/-! ### a comprehension over a locked dict's items -/
theorem lc_dict {d : Addr} {od : Obj} {kvs : List (Key × V)} {g : TG} {tt : TT} {te : TE} {vs : List Nat} {σ : L2.St} {Hl : Hp} {Qd : Addr → Hp → Prop} (hd : Hl d = some (.frz od (.dK kvs))) (Pv : Nat → List V → Hp → Prop)
    (h0 : ∀ D, Hl D = none → Pv 0 [] (upd Hl D (.lst [])))
    (hs : ∀ D i k v T acc H, Hl D = none → kvs[i]? = some (k, v) → H D = some (.lst acc) → Same Hl H → acc.length ≤ i → Pv i acc H → H T = none → g (.ref T) (wipe σ vs) (upd H T (.tup [kV k, v])) fun σ2 H2 => wipe σ2 vs = wipe σ vs ∧ tt σ2 H2 fun b H3 =>
      if b = true then te σ2 H3 fun y H4 => ∃ acc, H4 D = some (.lst acc) ∧ acc.length < sizeLine ∧ LcI Hl D Pv (i + 1) (upd H4 D (.lst (acc ++ [y]))) else LcI Hl D Pv (i + 1) H3)
    (hq : ∀ D acc H, Hl D = none → H D = some (.lst acc) → Same Hl H → acc.length ≤ kvs.length → Pv kvs.length acc H → Qd D H) :
    ∀ D, Hl D = none → ∃ W : Nat → Nat → Hp → Prop, (∃ m, W 0 m (upd Hl D (.lst []))) ∧ ∀ i m H, W i m H →
      ((Iti d od kvs).stop i H ∧ Qd D H) ∨ ((Iti d od kvs).go i H ∧ ∃ Nx : Hp → Prop, (∀ H', Nx H' → ∃ m', m' < m ∧ W (i + 1) m' H') ∧ ∀ x H', (Iti d od kvs).yld i H x H' → g x (wipe σ vs) H' fun σ2 H2 => wipe σ2 vs = wipe σ vs ∧ tt σ2 H2 fun b H3 =>
        if b = true then te σ2 H3 fun y H4 => ∃ acc, H4 D = some (.lst acc) ∧ acc.length < sizeLine ∧ Nx (upd H4 D (.lst (acc ++ [y]))) else Nx H3) := by
  intro D hD
  refine lc_it walk_items (LcI Hl D Pv) ⟨[], upd_same, same_put (Same.refl _) hD, Nat.le_refl _, h0 D hD⟩ (fun i H _ ⟨_, _, s, _⟩ => s _ _ hd) ?_ fun H ⟨acc, h1, h2, h3, h4⟩ => hq D acc H hD h1 h2 h3 h4
  rintro i x H H' hi ⟨acc, h1, h2, h3, h4⟩ ⟨T, y, z, rfl, hT, rfl, e1, e2⟩
  obtain ⟨⟨k, v⟩, e3⟩ : ∃ q, kvs[i]? = some q := ⟨kvs[i], List.getElem?_eq_getElem hi⟩
  have e1' : (kvs[i]?).map (fun kv => kV kv.1) = some y := e1
  have e2' : (kvs[i]?).map Prod.snd = some z := e2
  rw [e3] at e1' e2'
  obtain rfl := Option.some.inj e1'
  obtain rfl := Option.some.inj e2'
  exact hs D i k v T acc H hD e3 h1 h2 h3 h4 hT
theorem unlock_same {H H' : Hp} {d : Addr} {od : Obj} {u : HO} (hd : H d = some u) (s : Same (upd H d (.frz od u)) H') : Same H (upd H' d u) := fun b o e => by
  by_cases z : b = d
  · rw [z, hd] at e
    rw [z, upd_same]
    exact e
  · rw [upd_ne z]
    exact s b o (by rw [upd_ne z]; exact e)
/-! ### what stands while advance runs -/
structure AdvI (H H' : Hp) (d e f : Addr) (ts : List Addr) (T : List (Int × Int × Int)) (D : PL) (E : List (Int × Bool)) : Prop where
  same : Same H H'
  hd : H' d = some (.dK (dkI D))
  he : H' e = some (.dK (dkB E))
  hf : H' f = some (.lst (ts.map V.ref))
  tr : Trs H' ts T
theorem AdvI.on {H H' H2 : Hp} {d e f : Addr} {ts : List Addr} {T : List (Int × Int × Int)} {D : PL} {E : List (Int × Bool)} (a : AdvI H H' d e f ts T D E) (s : Same H' H2) : AdvI H H2 d e f ts T D E :=
  ⟨a.same.trans s, s _ _ a.hd, s _ _ a.he, s _ _ a.hf, trs_same s a.tr⟩
theorem AdvI.putD {H H' : Hp} {d e f : Addr} {ts : List Addr} {T : List (Int × Int × Int)} {D : PL} {E : List (Int × Bool)} (a : AdvI H H' d e f ts T D E) (hd : H d = none) (n : d ≠ e) {o : HO} {D' : PL} (ho : o = .dK (dkI D')) : AdvI H (upd H' d o) d e f ts T D' E :=
  ⟨same_put a.same hd, by rw [upd_same, ho], by rw [upd_ne n.symm]; exact a.he, by rw [upd_ne (ne_of a.hf a.hd (fun z => nomatch z))]; exact a.hf, trs_keep (tups_upd a.hd fun _ z => nomatch z) a.tr⟩
theorem AdvI.putE {H H' : Hp} {d e f : Addr} {ts : List Addr} {T : List (Int × Int × Int)} {D : PL} {E : List (Int × Bool)} (a : AdvI H H' d e f ts T D E) (he : H e = none) (n : d ≠ e) {o : HO} {E' : List (Int × Bool)} (ho : o = .dK (dkB E')) : AdvI H (upd H' e o) d e f ts T D E' :=
  ⟨same_put a.same he, by rw [upd_ne n]; exact a.hd, by rw [upd_same, ho], by rw [upd_ne (ne_of a.hf a.he (fun z => nomatch z))]; exact a.hf, trs_keep (tups_upd a.he fun _ z => nomatch z) a.tr⟩
theorem sent_len (L : PL) (S : List Int) : (sentOn L S).length = L.length := List.length_map ..
section
variable {P : Program} {w : World} {K : PySem.W.Frag} {mg : Str → Option Value} {base : Heap}
def spAdvance (C : Addr) : Sp := fun vs H Q _ => ∃ (p : Addr) (L : PL) (S : List Int) (t : Int), vs = [.ref p] ∧ LineAt C H p L S t ∧ L.length ≤ 300 ∧ S.length ≤ 300 ∧
  ∀ (H' : Hp) (L' : PL) (S' : List Int), LineAt C H' p L' S' (t + 1) → L'.Perm ((spread (sentOn L S) []).filter fun q => decide (0 < q.2)) → L'.Pairwise (fun q r => q.1 ≤ r.1) →
    S'.Perm (((toggles (sentOn L S) (leftsD S)).filter (·.2)).map (·.1)) → S'.Pairwise (· ≤ ·) → SameBut p H H' → Q (.int (t + 1)) H'
abbrev nAD : List Str := ["self", "spot", "later", "lefts", "left", "right", "beside", "many", "is_left"]
theorem scAdv : FnScope nAD ["self"] (defScope sAdvance) := ⟨rfl, rfl, rfl, by decide +kernel, rfl, by decide +kernel, by decide +kernel⟩
theorem ok_advance {f0 C : Addr} {fd : FuncData} (F : Fun K "advance" "Line.advance" sAdvance f0 fd) (T : LTxt K mg C) (X : Txt mg) (G : Has P w K mg base 1 "sent_on" ["heaps", "lefts"] [] spSent) : FnOk P w K mg base CX0 2 f0 fd ["self"] (spAdvance C) := by
  refine F.ok scAdv (fun vs H Q E h => ?_) (fun cdv A outer s H vs Q E hr h => ?_)
  · obtain ⟨p, L, S, t, rfl, _⟩ := h
    rfl
  · obtain ⟨p, L, S, t, rfl, hline, zL, zS, k⟩ := h
    obtain ⟨dx, th, tl, rs, hp, hth, hP, htl⟩ := hline
    have hu := hu_of hr
    refine ⟨_, pss_cons (ps_par (by rfl) scAdv.nd (i := 2) (j := 3) rfl rfl (by decide) rfl rfl (pa_cons pe_dnewK (pa_cons (pe_dc (own := [("spot", 1)]) (g := gName 1) (tt := tYes) rfl scAdv.nd (pi_tup (pe_fld (pv 0) rfl)) (blkOk_by (own := [("spot", 1)]) (N := nAD) (sc := defScope sAdvance) (by decide +kernel))
        (fun _ _ _ _ _ => pg_name (i := 1) scAdv.nd rfl (Or.inl rfl)) (fun _ _ _ _ _ => pts_nil) (fun _ _ _ _ _ => pv 1) (fun _ _ _ _ _ => pe_bl)) pa_nil)) (by rfl))
      (pss_cons (ps_for PassesOwn.never rfl (pi_list (pe_has G hr (by rfl) (pa_cons (pe_fld (pv 0) rfl) (pa_cons (pe_fld (pv 0) rfl) pa_nil)))) (pg_tup rfl (pgs_cons (pg_name (i := 1) scAdv.nd rfl (Or.inl rfl)) (pgs_cons (pg_name (i := 4) scAdv.nd rfl (Or.inl rfl)) (pgs_cons (pg_name (i := 5) scAdv.nd rfl (Or.inl rfl)) pgs_nil))))
        (pss_cons (ps_for PassesOwn.never rfl (pi_tup (pe_tup (pa_cons (pe_tup (pa_cons (pe_op op_sub (pv 1) pe_int) (pa_cons (pv 4) pa_nil))) (pa_cons (pe_tup (pa_cons (pe_op op_add (pv 1) pe_int) (pa_cons (pv 5) pa_nil))) pa_nil)))) (pg_tup rfl (pgs_cons (pg_name (i := 6) scAdv.nd rfl (Or.inl rfl)) (pgs_cons (pg_name (i := 7) scAdv.nd rfl (Or.inl rfl)) pgs_nil)))
          (pss_one (ps_dput hu (pv 2) (pv 6) (pe_op op_add (pe_dget2 hu (pv 2) (pv 6) pe_int ⟨rfl, rfl, rfl, rfl⟩) (pv 7)) rfl)))
        (pss_one (ps_if (pt_cmpR op_ne (pv 4) (pv 5) (nomark _)) (pss_one (ps_dput hu (pv 3) (pv 1) (pe_not (pe_dget2 hu (pv 3) (pv 1) pe_bl ⟨rfl, rfl, rfl, rfl⟩)) rfl)) pss_nil))))
      (pss_cons (ps_fld (pv 0) (pe_callTy call_tupF (by rfl) X.tuple b_tuple (pa_cons (pe_callB cr_sortedPO (by rfl) X.sorted b_sorted (pa_cons
        (pe_lock (pe_lc (own := [("spot", 1), ("many", 7)]) (g := gTup K 2 (gCons (gName 1) (gCons (gName 7) gNil))) rfl scAdv.nd (pi_items (pv 2)) (blkOk_by (own := [("spot", 1), ("many", 7)]) (N := nAD) (sc := defScope sAdvance) (by decide +kernel))
          (fun _ _ _ _ _ => pg_tup rfl (pgs_cons (pg_name (i := 1) scAdv.nd rfl (Or.inl rfl)) (pgs_cons (pg_name (i := 7) scAdv.nd rfl (Or.inl rfl)) pgs_nil))) (fun _ _ _ _ _ => pts_one (pt_cmpR op_gt (pv 7) pe_int (nomark _)))
          (fun _ _ _ _ _ => pe_tup (pa_cons (pv 1) (pa_cons (pv 7) pa_nil))))) pa_nil)) pa_nil)) rfl)
      (pss_cons (ps_fld (pv 0) (pe_callTy call_tupF (by rfl) X.tuple b_tuple (pa_cons (pe_callB cr_sortedI (by rfl) X.sorted b_sorted (pa_cons
        (pe_lock (pe_lc (own := [("spot", 1), ("is_left", 8)]) (g := gTup K 2 (gCons (gName 1) (gCons (gName 8) gNil))) rfl scAdv.nd (pi_items (pv 3)) (blkOk_by (own := [("spot", 1), ("is_left", 8)]) (N := nAD) (sc := defScope sAdvance) (by decide +kernel))
          (fun _ _ _ _ _ => pg_tup rfl (pgs_cons (pg_name (i := 1) scAdv.nd rfl (Or.inl rfl)) (pgs_cons (pg_name (i := 8) scAdv.nd rfl (Or.inl rfl)) pgs_nil))) (fun _ _ _ _ _ => pts_one (pt_val (pv 8)))
          (fun _ _ _ _ _ => pv 1))) pa_nil)) pa_nil)) rfl)
      (pss_cons (ps_fld (pv 0) (pe_op op_add (pe_fld (pv 0) rfl) pe_int) rfl)
      (pss_one (ps_ret (pe_fld (pv 0) rfl))))))), ?_⟩
    intro d hd0
    have s1 : Same H (upd H d (.dK [])) := same_new (Same.refl H) hd0
    refine ⟨_, rfl, p, C, dx, _, _, rfl, s1 _ _ hp, T.cl, T.nL, lf_lefts _ _ _, tl, rfl, ⟨_, (htl.same s1).sq⟩, dc_lefts (K := K) (by show 1 < 9; decide) (htl.same s1) (by omega) fun e H1 he s2 he1 => ⟨_, _, rfl, ?_⟩⟩
    have nde : d ≠ e := ne_of_none upd_same he
    have he0 : H e = none := s1.free he
    have s3 := s1.trans s2
    have hd1 := s2 _ _ upd_same
    refine ⟨_, rfl, p, C, dx, _, _, rfl, s3 _ _ hp, T.cl, T.nH, lf_heaps _ _ _, _, rfl, p, C, dx, _, _, rfl, s3 _ _ hp, T.cl, T.nL, lf_lefts _ _ _, th, tl, rs, L, S, rfl, hth.same s3, prs_same s3 hP, htl.same s3, by omega, by omega, fun H2 f ts s4 hf0 hf htr => ⟨f, rfl, ⟨_, SqL.of hf⟩, ?_⟩⟩
    have A2 : AdvI H H2 d e f ts (sentOn L S) (spread ((sentOn L S).take 0) []) (toggles ((sentOn L S).take 0) (leftsD S)) := ⟨s3.trans s4, s4 _ _ hd1, s4 _ _ he1, hf, htr⟩
    have lts : ts.length = L.length := by rw [Paired.length htr, sent_len]
    refine for_list (K := K) (a := f) (xs := ts.map V.ref) (fun i σ H' => ∃ v1 v4 v5 v6 v7 v8 : Option V, σ = [some (.ref p), v1, some (.ref d), some (.ref e), v4, v5, v6, v7, v8] ∧ AdvI H H' d e f ts (sentOn L S) (spread ((sentOn L S).take i) []) (toggles ((sentOn L S).take i) (leftsD S)))
      ⟨none, none, none, none, none, none, rfl, A2⟩ (fun i σ H' _ ⟨_, _, _, _, _, _, _, a⟩ => SqL.of a.hf) ?_ ?_
    · rintro i x σ H' hx ⟨v1, v4, v5, v6, v7, v8, rfl, A⟩
      obtain ⟨r, ⟨s, l, q⟩, rfl, e1, e2, e3⟩ := trs_get A.tr hx
      have lt := ix_lt e2
      rw [sent_len] at lt
      have lD : (spread ((sentOn L S).take i) []).length ≤ 600 := by
        have := length_spread ((sentOn L S).take i) []
        rw [List.length_take, List.length_nil, sent_len] at this
        omega
      have lE : (toggles ((sentOn L S).take i) (leftsD S)).length ≤ 600 := by
        have := length_toggles ((sentOn L S).take i) (leftsD S)
        have := leftsD_length S
        rw [List.length_take, sent_len] at *
        omega
      have nD : spread ((sentOn L S).take (i + 1)) [] = spread1 (spread ((sentOn L S).take i) []) (s, l, q) := by
        rw [take_snoc e2]
        unfold spread
        rw [List.foldl_append]
        rfl
      have nE : toggles ((sentOn L S).take (i + 1)) (leftsD S) = toggle1 (toggles ((sentOn L S).take i) (leftsD S)) (s, l, q) := by
        rw [take_snoc e2]
        unfold toggles
        rw [List.foldl_append]
        rfl
      rw [nD, nE]
      generalize spread ((sentOn L S).take i) [] = D at *
      generalize toggles ((sentOn L S).take i) (leftsD S) = E at *
      refine ⟨r, _, rfl, SqT.of e3, rfl, _, _, rfl, _, _, rfl, _, _, rfl, rfl, ?_⟩
      refine ⟨_, rfl, s, 1, rfl, rfl, _, rfl, by show 2 ≤ sizeLine; decide, fun t1 ht1 => ⟨_, rfl, s, 1, rfl, rfl, _, rfl, by show 2 ≤ sizeLine; decide, fun t2 ht2 => ⟨by show 2 ≤ sizeLine; decide, fun t3 ht3 => ⟨t3, rfl, ⟨_, SqT.of upd_same⟩, ?_⟩⟩⟩⟩
      have r1 := same_new (o := HO.tup [.int (s - 1), .int l]) (Same.refl H') ht1
      have r2 := same_new (o := HO.tup [.int (s + 1), .int q]) (Same.refl _) ht2
      have r3 := same_new (o := HO.tup [.ref t1, .ref t2]) (Same.refl _) ht3
      have A3 := A.on (r1.trans (r2.trans r3))
      have prs3 : Prs _ [t1, t2] [(s - 1, l), (s + 1, q)] := .cons (r3 _ _ (r2 _ _ upd_same)) (.cons (r3 _ _ upd_same) .nil)
      refine for_tup (K := K) (a := t3) (xs := [V.ref t1, V.ref t2]) (fun j σ H' => ∃ v6 v7 : Option V, σ = [some (.ref p), some (.int s), some (.ref d), some (.ref e), some (.int l), some (.int q), v6, v7, v8] ∧ AdvI H H' d e f ts (sentOn L S) (joinD ([(s - 1, l), (s + 1, q)].take j) D) E ∧ H' t3 = some (.tup [.ref t1, .ref t2]) ∧ Prs H' [t1, t2] [(s - 1, l), (s + 1, q)])
        ⟨_, _, rfl, A3, upd_same, prs3⟩ (fun j σ H' _ ⟨_, _, _, _, h, _⟩ => SqT.of h) ?_ ?_
      · rintro j x σ H3 hx ⟨v6, v7, rfl, A4, h3, p3⟩
        obtain ⟨r', pr, rfl, f1, f2, f3⟩ := prs_get (rs := [t1, t2]) p3 hx
        have lt2 : j < 2 := ix_lt f2
        have lJ : (joinD ([(s - 1, l), (s + 1, q)].take j) D).length ≤ 700 := by
          have := length_join ([(s - 1, l), (s + 1, q)].take j) D
          rw [List.length_take] at this
          show _ ≤ 700
          have : min j [(s - 1, l), (s + 1, q)].length ≤ 2 := by show min j 2 ≤ 2; omega
          omega
        refine ⟨r', _, rfl, SqT.of f3, rfl, _, _, rfl, _, _, rfl, rfl, ?_⟩
        refine ⟨_, rfl, d, rfl, .inl ⟨_, .inl A4.hd⟩, _, rfl, _, DGet.k (k := Sum.inl pr.1) A4.hd, _, rfl, look (joinD ([(s - 1, l), (s + 1, q)].take j) D) pr.1, pr.2, ?_, rfl, _, rfl, _, rfl, d, _, rfl, DPut.k (k := Sum.inl pr.1) A4.hd (by rw [dk_len]; exact small1000 (by omega)), ?_⟩
        · rw [val_dk, getD_look]
        · have nx : putK (dkI (joinD ([(s - 1, l), (s + 1, q)].take j) D)) (Sum.inl pr.1) (V.int (look (joinD ([(s - 1, l), (s + 1, q)].take j) D) pr.1 + pr.2)) = dkI (joinD ([(s - 1, l), (s + 1, q)].take (j + 1)) D) := by
            rw [put_dk, take_snoc f2]
            unfold joinD
            rw [List.foldl_append]
            rfl
          have kt := tups_upd (o := HO.dK (putK (dkI (joinD ([(s - 1, l), (s + 1, q)].take j) D)) (Sum.inl pr.1) (V.int (look (joinD ([(s - 1, l), (s + 1, q)].take j) D) pr.1 + pr.2)))) A4.hd (fun _ z => nomatch z)
          exact ⟨_, _, rfl, A4.putD hd0 nde (congrArg HO.dK nx), kt _ _ h3, prs_keepT kt p3⟩
      · rintro σ H3 ⟨v6, v7, rfl, A4, h3, p3⟩
        have A5 : AdvI H H3 d e f ts (sentOn L S) (spread1 D (s, l, q)) E := A4
        refine ⟨_, rfl, _, rfl, rfl, _, rfl, ?_⟩
        refine ite2 (fun z => ?_) (fun z => ?_)
        · have ne : ¬ l = q := fun w => by rw [w] at z; simp at z
          refine ⟨_, rfl, e, rfl, .inl ⟨_, .inl A5.he⟩, _, rfl, _, DGet.k (k := Sum.inl s) A5.he, lb E s, ?_, _, rfl, _, rfl, e, _, rfl, DPut.k (k := Sum.inl s) A5.he (by rw [dk_len]; exact small1000 (by omega)), ?_⟩
          · rw [val_dk, getD_lb]
          · refine ⟨_, _, _, _, _, _, rfl, A5.putE he0 nde ?_⟩
            show HO.dK (putK (dkB E) (Sum.inl s) (V.bl (!lb E s))) = _
            rw [put_dk]
            unfold toggle1
            rw [if_neg (show ¬ (s, l, q).2.1 = (s, l, q).2.2 from ne)]
        · have eq : l = q := Classical.byContradiction fun w => z (by
            rw [decide_eq_false (fun h => w (V.int.inj h))]
            rfl)
          refine ⟨_, _, _, _, _, _, rfl, ?_⟩
          unfold toggle1
          rw [if_pos (show (s, l, q).2.1 = (s, l, q).2.2 from eq)]
          exact A5
    · rintro σ H3 ⟨v1, v4, v5, v6, v7, v8, rfl, A⟩
      rw [List.length_map, lts, ← sent_len L S, List.take_length] at A
      have lD : (spread (sentOn L S) []).length ≤ 600 := by
        have := length_spread (sentOn L S) []
        rw [List.length_nil, sent_len] at this
        omega
      have lE : (toggles (sentOn L S) (leftsD S)).length ≤ 600 := by
        have := length_toggles (sentOn L S) (leftsD S)
        have := leftsD_length S
        rw [sent_len] at *
        omega
      generalize spread (sentOn L S) [] = D at *
      generalize toggles (sentOn L S) (leftsD S) = E at *
      refine ⟨d, _, A.hd, trivial, fun od => ⟨_, rfl, d, od, _, rfl, upd_same, lc_dict upd_same (fun i acc H' => ∃ qs : List Addr, acc = qs.map V.ref ∧ Prs H' qs ((D.take i).filter fun q => decide (0 < q.2))) (fun _ _ => ⟨[], rfl, .nil⟩) (fun J i k' v T' acc H' hJ hx hacc hs hl ⟨qs, eqs, pq⟩ hT => ?_) fun J acc H' hJ hacc hs hl ⟨qs, eqs, pq⟩ => ?_⟩⟩
      · subst eqs
        have hx' : (D[i]?).map (fun q => ((Sum.inl q.1 : Key), V.int q.2)) = some (k', v) := by rw [← List.getElem?_map]; exact hx
        obtain ⟨q, e1, e2⟩ := Option.map_eq_some_iff.mp hx'
        obtain ⟨rfl, rfl⟩ := Prod.mk.inj e2
        have lt := ix_lt e1
        have w1 := same_new (o := HO.tup [kV (Sum.inl q.1), .int q.2]) (Same.refl H') hT
        refine ⟨T', _, rfl, SqT.of upd_same, rfl, _, _, rfl, _, _, rfl, rfl, rfl, _, rfl, q.2, 0, rfl, rfl, _, rfl, ?_⟩
        refine ite2 (fun z => ?_) (fun z => ?_)
        · have z' : 0 < q.2 := of_decide_eq_true z
          refine ⟨_, rfl, _, rfl, by show 2 ≤ sizeLine; decide, fun u hu2 => ?_⟩
          have w2 := same_new (o := HO.tup [.int q.1, .int q.2]) (Same.refl _) hu2
          refine LcI.push hJ (w2 _ _ (w1 _ _ hacc)) (hs.trans (w1.trans w2)) hl (by omega) ⟨qs ++ [u], by rw [List.map_append]; rfl, ?_⟩
          rw [take_snoc e1, List.filter_append, List.filter_cons_of_pos (by rw [decide_eq_true z']), List.filter_nil]
          exact prs_keepT (tups_upd (w2 _ _ (w1 _ _ hacc)) fun _ z => nomatch z) (prs_snoc upd_same (prs_same (w1.trans w2) pq))
        · have z' : ¬ 0 < q.2 := fun h => z (decide_eq_true h)
          refine LcI.skip (w1 _ _ hacc) (hs.trans w1) hl ⟨qs, rfl, ?_⟩
          rw [take_snoc e1, List.filter_append, List.filter_cons_of_neg (by rw [decide_eq_false z']; decide), List.filter_nil, List.append_nil]
          exact prs_same w1 pq
      · subst eqs
        rw [dk_len, List.take_length] at pq
        have hdl := hs _ _ upd_same
        have nJ : J ≠ d := fun z => by rw [z, upd_same] at hJ; cases hJ
        have u1 : Same H3 (upd H' d (.dK (dkI D))) := unlock_same A.hd hs
        have pqu : Prs (upd H' d (.dK (dkI D))) qs (D.filter fun q => decide (0 < q.2)) := prs_keepT (tups_upd hdl fun _ z => nomatch z) pq
        refine ⟨hdl, J, _, kH (upd H' d (.dK (dkI D))), rfl, SqL.of (by rw [upd_ne nJ]; exact hacc), fun x m => ?_, fun ys p1 h1 h2 hp1 => ⟨p1, _, rfl, SqL.of upd_same, fun a' o ha' ho => ?_⟩⟩
        · obtain ⟨b, mb, rfl⟩ := List.mem_map.mp m
          exact ⟨b, rfl, prs_all pqu b mb⟩
        obtain ⟨rs', L', rfl, g1, g2, g3⟩ := sorted_prs pqu h1 h2
        have u2 := same_new (o := HO.lst (rs'.map V.ref)) (Same.refl _) hp1
        have u3 := same_new (o := HO.frz o (.tup (rs'.map V.ref))) (Same.refl _) ha'
        have A4 := A.on (u1.trans (u2.trans u3))
        have g4 := prs_same (u2.trans u3) g1
        have t4 : TupF (upd (upd (upd H' d (.dK (dkI D))) p1 (.lst (rs'.map V.ref))) a' (.frz o (.tup (rs'.map V.ref)))) a' (rs'.map V.ref) := ⟨o, ho, upd_same⟩
        have hp4 := A4.same _ _ hp
        generalize upd (upd (upd H' d (.dK (dkI D))) p1 (.lst (rs'.map V.ref))) a' (.frz o (.tup (rs'.map V.ref))) = H4 at A4 g4 t4 hp4 ⊢
        clear hdl u1 pqu h1 h2 hp1 u2 u3 pq hacc hs hl hJ nJ ha'
        refine ⟨_, rfl, p, C, dx, _, rfl, hp4, T.cl, T.nH, lf_len _ _ _, ?_⟩
        rw [put_heaps]
        have npe : e ≠ p := ne_of A4.he hp4 (fun z => nomatch z)
        have b5 : SameBut p H4 (upd H4 p (.ins C dx (lf t a' tl))) := SameBut.upd (same_but (Same.refl H4))
        have he5 := b5 _ _ A4.he npe
        have t5 := tupF_keep hp4 (fun _ _ z => nomatch z) b5 t4
        have g5 := prs_keep hp4 (fun _ z => nomatch z) b5 g4
        have l5 := tupF_keep hp4 (fun _ _ z => nomatch z) b5 (htl.same A4.same)
        have hp5 : upd H4 p (.ins C dx (lf t a' tl)) p = some (.ins C dx (lf t a' tl)) := upd_same
        have k5 : SameBut p H (upd H4 p (.ins C dx (lf t a' tl))) := (same_but A4.same).trans b5
        generalize upd H4 p (.ins C dx (lf t a' tl)) = H5 at he5 t5 g5 l5 hp5 k5 ⊢
        refine ⟨e, _, he5, trivial, fun od2 => ⟨_, rfl, e, od2, _, rfl, upd_same, lc_dict upd_same (fun i acc H' => acc = (((E.take i).filter (·.2)).map (·.1)).map V.int) (fun _ _ => rfl) (fun J i k' v T' acc H' hJ hx hacc hs hl eqs hT => ?_) fun J acc H' hJ hacc hs hl eqs => ?_⟩⟩
        · have hx' : (E[i]?).map (fun q => ((Sum.inl q.1 : Key), V.bl q.2)) = some (k', v) := by rw [← List.getElem?_map]; exact hx
          obtain ⟨⟨x, b⟩, e1, e2⟩ := Option.map_eq_some_iff.mp hx'
          obtain ⟨rfl, rfl⟩ := Prod.mk.inj e2
          have lt := ix_lt e1
          have w1 := same_new (o := HO.tup [kV (Sum.inl x), .bl b]) (Same.refl H') hT
          refine ⟨T', _, rfl, SqT.of upd_same, rfl, _, _, rfl, _, _, rfl, rfl, rfl, _, rfl, b, rfl, ?_⟩
          cases b with
          | true =>
            refine iteT ⟨_, rfl, LcI.push hJ (w1 _ _ hacc) (hs.trans w1) hl (by omega) ?_⟩
            rw [take_snoc e1, List.filter_append, List.map_append, List.map_append, eqs]
            rfl
          | false =>
            refine iteF (LcI.skip (w1 _ _ hacc) (hs.trans w1) hl ?_)
            rw [take_snoc e1, List.filter_append, List.map_append, List.map_append, eqs]
            exact (List.append_nil _).symm
        · rw [dk_len, List.take_length] at eqs
          have hdl := hs _ _ upd_same
          have nJ : J ≠ e := fun z => by rw [z, upd_same] at hJ; cases hJ
          have u1 : Same H5 (upd H' e (.dK (dkB E))) := unlock_same he5 hs
          refine ⟨hdl, J, _, rfl, SqL.of (by rw [upd_ne nJ, hacc, eqs]), fun ns' p2 h1 h2 hp2 => ⟨p2, _, rfl, SqL.of upd_same, fun a2 o2 ha2 ho2 => ?_⟩⟩
          have u2 := same_new (o := HO.lst (ns'.map V.int)) (Same.refl _) hp2
          have u3 := same_new (o := HO.frz o2 (.tup (ns'.map V.int))) (Same.refl _) ha2
          have u6 := u1.trans (u2.trans u3)
          have n6 : TupF (upd (upd (upd H' e (.dK (dkB E))) p2 (.lst (ns'.map V.int))) a2 (.frz o2 (.tup (ns'.map V.int)))) a2 (ns'.map V.int) := ⟨o2, ho2, upd_same⟩
          generalize upd (upd (upd H' e (.dK (dkB E))) p2 (.lst (ns'.map V.int))) a2 (.frz o2 (.tup (ns'.map V.int))) = H6 at u6 n6 ⊢
          have hp6 := u6 _ _ hp5
          refine ⟨_, rfl, p, C, dx, _, rfl, hp6, T.cl, T.nL, lf_len _ _ _, ?_⟩
          rw [put_lefts]
          refine ⟨_, rfl, p, C, dx, _, _, rfl, upd_same, T.cl, T.nT, lf_tick _ _ _, t, 1, rfl, rfl, _, rfl, p, C, dx, _, rfl, upd_same, T.cl, T.nT, lf_len _ _ _, ?_⟩
          rw [upd_upd]
          refine ⟨_, rfl, p, C, dx, _, .int (t + 1), rfl, upd_same, T.cl, T.nT, ?_, ?_⟩
          · show (putF "tick" (.int (t + 1)) (lf t a' a2)).lookup ("tick" : Str) = some (.int (t + 1))
            rw [put_tick]
            exact lf_tick _ _ _
          show Q (.int (t + 1)) (upd H6 p (.ins C dx (putF "tick" (.int (t + 1)) (lf t a' a2))))
          rw [put_tick]
          have b7 : SameBut p H6 (upd H6 p (.ins C dx (lf (t + 1) a' a2))) := SameBut.upd (same_but (Same.refl H6))
          exact k _ L' ns' ⟨dx, a', a2, rs', upd_same, tupF_keep hp6 (fun _ _ z => nomatch z) b7 (t5.same u6), prs_keep hp6 (fun _ z => nomatch z) b7 (prs_same u6 g5), tupF_keep hp6 (fun _ _ z => nomatch z) b7 n6⟩ g2 g3 h1 h2 (k5.trans ((same_but u6).trans b7))
end
end NK
namespace NK
open PySem PySem.Spec PyProof.Rows L2 L2.DX
/-! ### lists of ints, tuples of pairs, as data -/
def dI (ns : List Int) : List PyData := ns.map PyData.int
def dP (L : PL) : List PyData := L.map fun p => PyData.tuple [.int p.1, .int p.2]
theorem lay_I : ∀ ns : List Int, PyData.canLayAll0 (dI ns) = true
  | [] => rfl
  | n :: ns => by
    show (PyData.canLay0 (.int n) && PyData.canLayAll0 (dI ns)) = true
    rw [lay_I ns]
    rfl
theorem dep_I : ∀ ns : List Int, PyData.depthAll (dI ns) ≤ 0
  | [] => Nat.le_refl _
  | n :: ns => by
    show max (PyData.depth (.int n)) (PyData.depthAll (dI ns)) ≤ 0
    have := dep_I ns
    have e : PyData.depth (.int n) = 0 := by simp [PyData.depth]
    omega
theorem lay_P : ∀ L : PL, PyData.canLayAll0 (dP L) = true
  | [] => rfl
  | p :: L => by
    show (PyData.canLay0 (.tuple [.int p.1, .int p.2]) && PyData.canLayAll0 (dP L)) = true
    rw [lay_P L]
    rfl
theorem dep_P : ∀ L : PL, PyData.depthAll (dP L) ≤ 1
  | [] => by simp [dP, PyData.depthAll]
  | p :: L => by
    show max (PyData.depth (.tuple [.int p.1, .int p.2])) (PyData.depthAll (dP L)) ≤ 1
    have := dep_P L
    have e : PyData.depth (.tuple [.int p.1, .int p.2]) = 1 := by simp [PyData.depth, PyData.depthAll]
    omega
theorem shaped_lI (ns : List Int) : SeqAt.shaped (.list (dI ns)) = true := by
  have := dep_I ns
  show (PyData.canLayAll0 (dI ns) && decide (PyData.depth (.list (dI ns)) ≤ 64)) = true
  rw [lay_I, decide_eq_true (by simp only [PyData.depth]; omega)]
  rfl
theorem shaped_tI (ns : List Int) : SeqAt.shaped (.tuple (dI ns)) = true := by
  have := dep_I ns
  show (PyData.canLayAll0 (dI ns) && decide (PyData.depth (.tuple (dI ns)) ≤ 64)) = true
  rw [lay_I, decide_eq_true (by simp only [PyData.depth]; omega)]
  rfl
theorem shaped_tP (L : PL) : SeqAt.shaped (.tuple (dP L)) = true := by
  have := dep_P L
  show (PyData.canLayAll0 (dP L) && decide (PyData.depth (.tuple (dP L)) ≤ 64)) = true
  rw [lay_P, decide_eq_true (by simp only [PyData.depth]; omega)]
  rfl
theorem dp_I {K : PySem.W.Frag} {H : Hp} : ∀ ns : List Int, DpAll K H (ns.map V.int) (dI ns)
  | [] => .nil
  | n :: ns => .cons (.int n) (dp_I ns)
theorem dp_P {K : PySem.W.Frag} {H : Hp} : ∀ {rs : List Addr} {L : PL}, Prs H rs L → DpAll K H (rs.map V.ref) (dP L)
  | _, _, .nil => .nil
  | _, _, .cons h t => .cons (.tup (SqT.of h) (.cons (.int _) (.cons (.int _) .nil))) (dp_P t)

/-! ### the quern -/
/-- the quern at q: its cells, how many were begun (at most n), what is left -/
def QuernAt (H : Hp) (q : Addr) (n : Int) : Prop := ∃ (l : Addr) (cells : List Int) (at' rest : Int), H q = some (.lst [.ref l, .int at', .int rest]) ∧ H l = some (.lst (cells.map V.int)) ∧ cells.length ≤ 60 ∧ 0 ≤ at' ∧ at' ≤ n
theorem QuernAt.mono {H : Hp} {q : Addr} {n m : Int} (h : QuernAt H q n) (l : n ≤ m) : QuernAt H q m := by
  obtain ⟨a, b, c, d, h1, h2, h3, h4, h5⟩ := h
  exact ⟨a, b, c, d, h1, h2, h3, h4, by omega⟩
theorem quern_ne {H : Hp} {q l : Addr} {cells : List Int} {ys : List V} (h1 : H q = some (.lst (.ref l :: ys))) (h2 : H l = some (.lst (cells.map V.int))) : l ≠ q := by
  intro z
  rw [z, h1] at h2
  have e := Option.some.inj h2
  cases cells with
  | nil => injection e with e; cases e
  | cons c cs => injection e with e; injection e with e _; cases e
theorem QuernAt.same {H H' : Hp} {q : Addr} {n : Int} (h : QuernAt H q n) (s : Same H H') : QuernAt H' q n := by
  obtain ⟨a, b, c, d, h1, h2, h3⟩ := h
  exact ⟨a, b, c, d, s _ _ h1, s _ _ h2, h3⟩
/-- a store elsewhere, to what is no list -/
theorem QuernAt.upd {H : Hp} {q p : Addr} {n : Int} {o : HO} (h : QuernAt H q n) (np : ∀ xs, H p ≠ some (.lst xs)) : QuernAt (L2.upd H p o) q n := by
  obtain ⟨a, b, c, d, h1, h2, h3⟩ := h
  exact ⟨a, b, c, d, by rw [upd_ne (fun z => np _ (z ▸ h1))]; exact h1, by rw [upd_ne (fun z => np _ (z ▸ h2))]; exact h2, h3⟩
section
variable {P : Program} {w : World} {K : PySem.W.Frag} {mg : Str → Option Value} {base : Heap}
def spQuern (K : PySem.W.Frag) : Sp := fun vs H Q _ => ∃ (a : Addr) (ns : List Int), vs = [.ref a] ∧ SqL K H a (ns.map V.int) ∧ ns.length ≤ 63 ∧ ∀ (H' : Hp) (q : Addr), Same H H' → H q = none → QuernAt H' q 0 → Q (.ref q) H'
theorem scQuern : FnScope ["_law_script", "_law_cell"] ["_law_script"] (defScope sQuern) := ⟨rfl, rfl, rfl, by decide +kernel, rfl, by decide +kernel, by decide +kernel⟩
theorem cut_ints (ns : List Int) (a b : Option Int) : ∃ ms : List Int, cutV (ns.map V.int) a b = ms.map V.int := by
  unfold cutV
  rw [← List.map_drop, ← List.map_take]
  exact ⟨_, rfl⟩
theorem cut60 (ns : List Int) (h : ns.length ≤ 63) : ∃ ms : List Int, cutV (ns.map V.int) none (some 60) = ms.map V.int ∧ ms.length ≤ 60 := by
  obtain ⟨ms, e⟩ := cut_ints ns none (some 60)
  refine ⟨ms, e, ?_⟩
  have e2 := congrArg List.length e
  rw [List.length_map] at e2
  rw [← e2]
  unfold cutV
  rw [List.length_take]
  refine Nat.le_trans (Nat.min_le_left _ _) (Nat.le_trans (Nat.sub_le _ _) ?_)
  rw [List.length_map]
  show HT.sIx ns.length ns.length (some 60) ≤ 60
  unfold HT.sIx
  simp
  omega
theorem ok_quern {f : Addr} {fd : FuncData} (F : Fun K "_law_quern" "_law_quern" sQuern f fd) (T : Txt mg) : FnOk P w K mg base CX0 1 f fd ["_law_script"] (spQuern K) := by
  refine F.ok scQuern (fun vs H Q E h => ?_) (fun cdv A outer s H vs Q E hr h => ?_)
  · obtain ⟨a, ns, rfl, _⟩ := h
    rfl
  · obtain ⟨a, ns, rfl, hS, hz, k⟩ := h
    refine ⟨_, pss_one (ps_ret (pe_lst (pa_cons (pe_lc (own := [("_law_cell", 1)]) (g := gName 1) (tt := tYes) rfl scQuern.nd (pi_seq (pe_slice sl_list (pv 0) po_none (po_some pe_int))) (blkOk_by (own := [("_law_cell", 1)]) (N := ["_law_script", "_law_cell"]) (sc := defScope sQuern) (by decide +kernel))
      (fun _ _ _ _ _ => pg_name (i := 1) scQuern.nd rfl (Or.inl rfl)) (fun _ _ _ _ _ => pts_nil) (fun _ _ _ _ _ => pe_callTy call_int1 (by rfl) T.int b_int (pa_cons (pv 1) pa_nil))) (pa_cons pe_int (pa_cons pe_int pa_nil))))), ?_⟩
    obtain ⟨ms, e, lm⟩ := cut60 ns hz
    refine ⟨_, rfl, _, rfl, a, _, rfl, hS, fun c hc => ?_⟩
    rw [e]
    have s1 : Same H (upd H c (.lst (ms.map V.int))) := same_new (Same.refl H) hc
    refine lc_seq (K := K) (xs := ms.map V.int) (.inl (SqL.of upd_same)) (fun i acc H' => acc = (ms.take i).map V.int) (fun D hD => rfl) (fun D i x acc H' hD hx hacc hs hl hP => ?_) fun D acc H' hD hacc hs hl hP => ?_
    · rw [List.getElem?_map] at hx
      obtain ⟨n, e1, rfl⟩ := Option.map_eq_some_iff.mp hx
      have lt := ix_lt e1
      refine ⟨rfl, _, rfl, .inl ⟨n, rfl, LcI.push hD hacc hs hl (by omega) ?_⟩⟩
      rw [take_snoc e1, List.map_append, hP]
      rfl
    · have e2 : acc = ms.map V.int := by rw [hP, List.length_map, List.take_length]
      refine ⟨by show 3 ≤ sizeLine; decide, fun q hq => ?_⟩
      have s2 := same_new (o := HO.lst [.ref D, .int 0, .int 0]) (Same.refl H') hq
      exact k _ q (s1.trans (hs.trans s2)) ((s1.trans hs).free hq) ⟨D, ms, 0, 0, upd_same, s2 _ _ (e2 ▸ hacc), lm, by decide, by decide⟩
end
end NK
namespace NK
open PySem PySem.Spec PyProof.Rows L2 L2.DX
section
variable {P : Program} {w : World} {K : PySem.W.Frag} {mg : Str → Option Value} {base : Heap}
theorem mod_at (x m : Int) (h : 0 < m) : 0 ≤ x % m ∧ x % m < m := ⟨Int.emod_nonneg _ (by omega), Int.emod_lt_of_pos _ h⟩
def spGrind : Sp := fun vs H Q _ => ∃ (q : Addr) (m n : Int), vs = [.ref q, .int m] ∧ 1 ≤ m ∧ m ≤ 1000 ∧ n ≤ 1000 ∧ QuernAt H q n ∧ ∀ (H' : Hp) (r : Int), 0 ≤ r → r < m → QuernAt H' q (n + 1) → SameBut q H H' → Q (.int r) H'
abbrev nGR : List Str := ["_law_quern_here", "_law_many", "_law_rest", "_law_at", "_law_cell", "_law_mixed"]
theorem scGrind : FnScope nGR ["_law_quern_here", "_law_many"] (defScope sGrind) := ⟨rfl, rfl, rfl, by decide +kernel, rfl, by decide +kernel, by decide +kernel⟩
theorem mixed1 {c a : Int} (h0 : 0 ≤ a) (h1 : a ≤ 1000) : (c % 2147483587 + 37341 * a + 9481).natAbs < 2 ^ 64 := by
  have := mod_at c 2147483587 (by decide)
  omega
theorem mixed2 {x a : Int} (hx : 0 ≤ x) (hx2 : x < 2147483549) (h0 : 0 ≤ a) (h1 : a ≤ 1000) : (x * (2 * a + 9107) + 96821 * a * a + 37341).natAbs < 2 ^ 64 := by
  have e1 : x * (2 * a + 9107) ≤ 2147483549 * 11107 := Int.mul_le_mul (by omega) (by omega) (by omega) (by decide)
  have e2 : 0 ≤ x * (2 * a + 9107) := Int.mul_nonneg hx (by omega)
  have e3 : 96821 * a * a ≤ 96821000 * 1000 := Int.mul_le_mul (by omega) h1 h0 (by decide)
  have e4 : 0 ≤ 96821 * a * a := Int.mul_nonneg (by omega) h0
  omega
theorem mul_ok {x : Int} (h0 : 0 ≤ x) (h1 : x < 2147483549) : -(2 ^ 64) < x ∧ x < 2 ^ 64 := by omega
theorem ok_grind {f : Addr} {fd : FuncData} (F : Fun K "_law_grind" "_law_grind" sGrind f fd) (T : Txt mg) : FnOk P w K mg base CX0 1 f fd ["_law_quern_here", "_law_many"] spGrind := by
  refine F.ok scGrind (fun vs H Q E h => ?_) (fun cdv A outer s H vs Q E hr h => ?_)
  · obtain ⟨q, m, n, rfl, _⟩ := h
    rfl
  · obtain ⟨q, m, n, rfl, m1, m2, hn, ⟨l, cells, a, rest, hq, hl, hz, a0, a1⟩, k⟩ := h
    have nlq : l ≠ q := quern_ne hq hl
    refine ⟨_, pss_cons (ps_if (pt_cmpR op_gt (pe_ix ix_list (pv 0) pe_int (fun _ _ => rfl)) pe_int (nomark _))
        (pss_cons (ps_set (i := 2) scGrind.nd rfl (Or.inl rfl) (pe_callTy call_int1 (by rfl) T.int b_int (pa_cons (pe_ix ix_list (pv 0) pe_int (fun _ _ => rfl)) pa_nil)))
        (pss_cons (ps_asg (pe_op op_fdiv (pv 2) (pv 1)) (pg_sub (pv 0) pe_int set_list))
        (pss_one (ps_ret (pe_op op_mod (pe_callTy call_int1 (by rfl) T.int b_int (pa_cons (pv 2) pa_nil)) (pv 1)))))) pss_nil)
      (pss_cons (ps_set (i := 3) scGrind.nd rfl (Or.inl rfl) (pe_ix ix_list (pv 0) pe_int (fun _ _ => rfl)))
      (pss_cons (ps_asg (pe_op op_add (pv 3) pe_int) (pg_sub (pv 0) pe_int set_list))
      (pss_cons (ps_if (pt_cmpR (op_eqD hr.units) (pe_ix ix_list (pv 0) pe_int (fun _ _ => rfl)) (pe_lst pa_nil) (nomark _)) (pss_one (ps_ret pe_int)) pss_nil)
      (pss_cons (ps_set (i := 4) scGrind.nd rfl (Or.inl rfl) (pe_ix ix_list (pe_ix ix_list (pv 0) pe_int (fun _ _ => rfl)) (pe_op op_mod (pe_callTy call_int1 (by rfl) T.int b_int (pa_cons (pv 3) pa_nil)) (pe_callB call_len (by rfl) T.len b_len (pa_cons (pe_ix ix_list (pv 0) pe_int (fun _ _ => rfl)) pa_nil))) (fun _ _ => rfl)))
      (pss_cons (ps_if (PW.pt (pw_and (pt_cmpR op_lt (pv 3) (pe_callB call_len (by rfl) T.len b_len (pa_cons (pe_ix ix_list (pv 0) pe_int (fun _ _ => rfl)) pa_nil)) (nomark _)) (pw_and1 (pt_cmpR op_ge (pe_callB call_abs (by rfl) T.abs b_abs (pa_cons (pv 4) pa_nil)) (pe_op op_pow pe_int pe_int) (nomark _)))))
        (pss_cons (ps_set (i := 2) scGrind.nd rfl (Or.inl rfl) (pe_op op_add (pe_op op_mul pe_int (pe_op op_sub (pe_callB call_abs (by rfl) T.abs b_abs (pa_cons (pv 4) pa_nil)) (pe_op op_pow pe_int pe_int))) (pe_callTy call_int1 (by rfl) T.int b_int (pa_cons (pe_cmpR op_lt (pv 4) pe_int (nomark _)) pa_nil))))
        (pss_cons (ps_asg (pe_op op_fdiv (pe_callTy call_int1 (by rfl) T.int b_int (pa_cons (pv 2) pa_nil)) (pv 1)) (pg_sub (pv 0) pe_int set_list))
        (pss_one (ps_ret (pe_op op_mod (pe_callTy call_int1 (by rfl) T.int b_int (pa_cons (pv 2) pa_nil)) (pv 1)))))) pss_nil)
      (pss_cons (ps_set (i := 5) scGrind.nd rfl (Or.inl rfl) (pe_op op_mod (pe_callTy call_int1 (by rfl) T.int b_int (pa_cons (pe_op op_pow (pe_op op_add (pe_op op_add (pe_op op_mod (pe_callTy call_int1 (by rfl) T.int b_int (pa_cons (pv 4) pa_nil)) pe_int) (pe_op op_mul pe_int (pv 3))) pe_int) pe_int) pa_nil)) pe_int))
      (pss_cons (ps_set (i := 5) scGrind.nd rfl (Or.inl rfl) (pe_op op_mod (pe_callTy call_int1 (by rfl) T.int b_int (pa_cons (pe_op op_pow (pe_op op_add (pe_op op_add (pe_op op_mul (pv 5) (pe_op op_add (pe_op op_mul pe_int (pv 3)) pe_int)) (pe_op op_mul (pe_op op_mul pe_int (pv 3)) (pv 3))) pe_int) pe_int) pa_nil)) pe_int))
      (pss_one (ps_ret (pe_op op_mod (pe_callTy call_int1 (by rfl) T.int b_int (pa_cons (pe_op op_fdiv (pv 5) pe_int) pa_nil)) (pv 1))))))))))), ?_⟩
    have mm : (0 : Int) < m ∧ m < 1073741824 := ⟨by omega, by omega⟩
    refine ⟨_, rfl, q, _, _, _, rfl, rfl, SqL.of hq, atI_nat (j := 2) rfl, rest, 0, rfl, rfl, _, rfl, ?_⟩
    refine ite2 (fun z => ?_) (fun z => ?_)
    · refine ⟨_, rfl, q, _, _, _, rfl, rfl, SqL.of hq, atI_nat (j := 2) rfl, .inl ⟨rest, rfl, ?_⟩⟩
      refine ⟨_, rfl, _, rfl, rest, m, rfl, rfl, mm, _, rfl, q, _, _, 2, rfl, rfl, hq, rfl, ?_⟩
      refine ⟨_, rfl, .inl ⟨rest, rfl, _, rfl, rest, m, rfl, rfl, mm.1, ?_⟩⟩
      obtain ⟨r0, r1⟩ := mod_at rest m mm.1
      exact k _ _ r0 r1 ⟨l, cells, a, rest / m, upd_same, by rw [upd_ne nlq]; exact hl, hz, a0, by omega⟩ (SameBut.upd (same_but (Same.refl H)))
    · refine ⟨_, rfl, q, _, _, _, rfl, rfl, SqL.of hq, atI_nat (j := 1) rfl, ?_⟩
      refine ⟨_, rfl, a, 1, rfl, rfl, _, rfl, q, _, _, 1, rfl, rfl, hq, rfl, ?_⟩
      have hq1 : upd H q (.lst ([V.ref l, .int a, .int rest].set 1 (.int (a + 1)))) q = some (.lst [.ref l, .int (a + 1), .int rest]) := upd_same
      have hl1 : upd H q (.lst ([V.ref l, .int a, .int rest].set 1 (.int (a + 1)))) l = some (.lst (cells.map V.int)) := by rw [upd_ne nlq]; exact hl
      have b1 : SameBut q H (upd H q (.lst ([V.ref l, .int a, .int rest].set 1 (.int (a + 1))))) := SameBut.upd (same_but (Same.refl H))
      generalize upd H q (.lst ([V.ref l, .int a, .int rest].set 1 (.int (a + 1)))) = H1 at hq1 hl1 b1
      refine ⟨_, rfl, q, _, _, _, rfl, rfl, SqL.of hq1, atI_nat (j := 0) rfl, Nat.zero_le _, fun e he => ?_⟩
      have s2 := same_new (o := HO.lst []) (Same.refl H1) he
      have hq2 := s2 _ _ hq1
      have hl2 := s2 _ _ hl1
      have b2 : SameBut q H (upd H1 e (.lst [])) := b1.trans (same_but s2)
      have deq : Dp K (upd H1 e (.lst [])) (.ref e) (.list []) := .lst (SqL.of upd_same) .nil
      generalize upd H1 e (.lst []) = H2 at hq2 hl2 b2 deq
      refine ⟨.list (dI cells), .list [], .lst (SqL.of hl2) (dp_I cells), deq, shaped_lI cells, by decide +kernel, _, rfl, ?_⟩
      refine ite2 (fun z => ?_) (fun z => ?_)
      · exact k _ 0 (by decide) (by omega) ⟨l, cells, a + 1, rest, hq2, hl2, hz, by omega, by omega⟩ b2
      · have ne : 0 < cells.length := by
          cases cells with
          | nil => exact absurd (show PyData.eqv (.list []) (.list []) = true by simp [PyData.eqv, PyData.eqvAll]) z
          | cons c cs => exact Nat.succ_pos _
        obtain ⟨i0, i1⟩ := mod_at a (cells.length : Int) (by omega)
        have hi : (a % (cells.length : Int)).toNat < cells.length := by omega
        have hc : (cells.map V.int)[(a % (cells.length : Int)).toNat]? = some (.int (cells[(a % (cells.length : Int)).toNat])) := by
          rw [List.getElem?_map, List.getElem?_eq_getElem hi]
          rfl
        generalize cells[(a % (cells.length : Int)).toNat] = c at hc
        have hat : atI (cells.map V.int) (a % (cells.length : Int)) = some (.int c) := by
          have e : a % (cells.length : Int) = (((a % (cells.length : Int)).toNat : Nat) : Int) := by omega
          rw [e]
          exact atI_nat hc
        have L1 : LenV K (.ref l) H2 cells.length := .inl ⟨_, SqL.of hl2, (List.length_map ..).symm⟩
        have fin : ∀ r : Int, 0 ≤ r → r < m → Q (.int r) H2 := fun r r0 r1 => k _ r r0 r1 ⟨l, cells, a + 1, rest, hq2, hl2, hz, by omega, by omega⟩ b2
        refine ⟨_, rfl, q, _, _, _, rfl, rfl, SqL.of hq2, atI_nat (j := 0) rfl, _, rfl, .inl ⟨a, rfl, ?_⟩⟩
        refine ⟨_, rfl, q, _, _, _, rfl, rfl, SqL.of hq2, atI_nat (j := 0) rfl, _, cells.length, rfl, L1, a, _, rfl, rfl, by show (0 : Int) < (cells.length : Int); omega, l, _, _, _, rfl, rfl, SqL.of hl2, hat, ?_⟩
        have pw : (0 : Int) ≤ 18 ∧ (18 : Int) ≤ 1000000 ∧ (10 : Int).natAbs < 2 ^ 64 := by decide
        by_cases hb : a < (cells.length : Int) ∧ 10 ^ 18 ≤ (if c < 0 then -c else c)
        · refine ⟨_, rfl, _, rfl, q, _, _, _, rfl, rfl, SqL.of hq2, atI_nat (j := 0) rfl, _, cells.length, rfl, L1, a, _, rfl, rfl, _, rfl, ?_⟩
          refine ite2 (fun _ => ?_) (fun z => absurd (decide_eq_true hb.1) z)
          refine ⟨_, rfl, c, rfl, 10, 18, rfl, rfl, pw, _, _, rfl, rfl, _, rfl, ?_⟩
          refine ite2 (fun _ => ?_) (fun z => absurd (decide_eq_true hb.2) z)
          refine ⟨_, rfl, c, rfl, 10, 18, rfl, rfl, pw, _, _, rfl, rfl, 2, _, rfl, rfl, .inl ⟨by decide, by decide⟩, _, rfl, c, 0, rfl, rfl, .inr ⟨_, rfl, _, _, rfl, rfl, ?_⟩⟩
          refine ⟨_, rfl, .inl ⟨_, rfl, _, rfl, _, m, rfl, rfl, mm, _, rfl, q, _, _, 2, rfl, rfl, hq2, rfl, ?_⟩⟩
          refine ⟨_, rfl, .inl ⟨_, rfl, _, rfl, _, m, rfl, rfl, mm.1, ?_⟩⟩
          exact k _ _ (mod_at _ m mm.1).1 (mod_at _ m mm.1).2 ⟨l, cells, a + 1, _, upd_same, by rw [upd_ne nlq]; exact hl2, hz, by omega, by omega⟩ (SameBut.upd b2)
        · refine ⟨_, rfl, _, rfl, q, _, _, _, rfl, rfl, SqL.of hq2, atI_nat (j := 0) rfl, _, cells.length, rfl, L1, a, _, rfl, rfl, _, rfl, ?_⟩
          refine ite2 (fun z1 => ⟨_, rfl, c, rfl, 10, 18, rfl, rfl, pw, _, _, rfl, rfl, _, rfl, ite2 (fun z2 => absurd ⟨of_decide_eq_true z1, of_decide_eq_true z2⟩ hb) fun z2 => ?_⟩) (fun z => ?_)
          all_goals
            refine ⟨_, rfl, .inl ⟨c, rfl, _, _, rfl, rfl, (by show (0 : Int) < 2147483587; decide), _, rfl, 37341, a, rfl, rfl, .inl ⟨by decide, by decide⟩, _, _, rfl, rfl, _, _, rfl, rfl, _, 5, rfl, rfl, ⟨by decide, by decide, mixed1 a0 (by omega)⟩, .inl ⟨_, rfl, _, _, rfl, rfl, (by show (0 : Int) < 2147483549; decide), ?_⟩⟩⟩
            obtain ⟨x0, x1⟩ := mod_at ((c % 2147483587 + 37341 * a + 9481) ^ (Int.toNat 5)) 2147483549 (by decide)
            refine ⟨_, rfl, _, rfl, 2, a, rfl, rfl, .inl ⟨by decide, by decide⟩, _, _, rfl, rfl, _, _, rfl, rfl, .inl (mul_ok x0 x1), _, rfl, 96821, a, rfl, rfl, .inl ⟨by decide, by decide⟩, _, rfl, _, a, rfl, rfl, .inr ⟨by omega, by omega⟩, _, _, rfl, rfl, _, _, rfl, rfl, _, 3, rfl, rfl, ⟨by decide, by decide, mixed2 x0 x1 a0 (by omega)⟩, .inl ⟨_, rfl, _, _, rfl, rfl, (by show (0 : Int) < 2147483563; decide), ?_⟩⟩
            refine ⟨_, rfl, _, 64, rfl, rfl, ⟨by decide, by decide⟩, .inl ⟨_, rfl, _, rfl, _, m, rfl, rfl, mm.1, ?_⟩⟩
            exact fin _ (mod_at _ m mm.1).1 (mod_at _ m mm.1).2
end
end NK
namespace NK
open PySem PySem.Spec PyProof.Rows L2 L2.DX
section
variable {P : Program} {w : World} {K : PySem.W.Frag} {mg : Str → Option Value} {base : Heap}
/-! ### grain -/
def spGrain : Sp := fun vs H Q _ => ∃ (q s : Addr) (ms : List Int) (n : Int), vs = [.ref q, .ref s] ∧ s ≠ q ∧ H s = some (.lst (ms.map V.int)) ∧ 1 ≤ ms.length ∧ ms.length ≤ 100 ∧ n ≤ 1000 ∧ QuernAt H q n ∧ ∀ (H' : Hp) (v : Int), v ∈ ms → QuernAt H' q (n + 1) → SameBut q H H' → Q (.int v) H'
theorem scGrain : FnScope ["_law_quern_here", "_law_some"] ["_law_quern_here", "_law_some"] (defScope sGrain) := ⟨rfl, rfl, rfl, by decide +kernel, rfl, by decide +kernel, by decide +kernel⟩
theorem ok_grain {f : Addr} {fd : FuncData} (F : Fun K "_law_grain" "_law_grain" sGrain f fd) (T : Txt mg) (G : Has P w K mg base 1 "_law_grind" ["_law_quern_here", "_law_many"] [] spGrind) : FnOk P w K mg base CX0 2 f fd ["_law_quern_here", "_law_some"] spGrain := by
  refine F.ok scGrain (fun vs H Q E h => ?_) (fun cdv A outer s H vs Q E hr h => ?_)
  · obtain ⟨q, s, ms, n, rfl, _⟩ := h
    rfl
  · obtain ⟨q, s, ms, n, rfl, ne, hs, l1, l2, hn, hq, k⟩ := h
    refine ⟨_, pss_one (ps_ret (pe_ix ix_list (pv 1) (pe_has G hr (by rfl) (pa_cons (pv 0) (pa_cons (pe_callB call_len (by rfl) T.len b_len (pa_cons (pv 1) pa_nil)) pa_nil))) (fun _ _ => rfl))), ?_⟩
    refine ⟨_, rfl, _, rfl, _, rfl, _, ms.length, rfl, .inl ⟨_, SqL.of hs, (List.length_map ..).symm⟩, q, (ms.length : Int), n, rfl, by omega, by omega, hn, hq, fun H' r r0 r1 q' b => ?_⟩
    have hs' := b _ _ hs ne
    have hi : r.toNat < ms.length := by omega
    obtain ⟨v, hm, hc⟩ : ∃ v, v ∈ ms ∧ ms[r.toNat]? = some v := ⟨ms[r.toNat], List.getElem_mem hi, List.getElem?_eq_getElem hi⟩
    have hat : atI (ms.map V.int) r = some (.int v) := by
      have e : r = ((r.toNat : Nat) : Int) := by omega
      rw [e]
      exact atI_nat (by rw [List.getElem?_map, hc]; rfl)
    exact ⟨s, _, _, _, rfl, rfl, SqL.of hs', hat, k H' v hm q' b⟩

/-! ### start -/
theorem prs_items {H : Hp} : ∀ {ts : List Addr} {D : PL}, Paired (fun (t : Addr) (q : Key × V) => H t = some (.tup [kV q.1, q.2])) ts (dkI D) → Prs H ts D
  | [], [], _ => .nil
  | _ :: _, [], h => by cases h
  | [], _ :: _, h => by cases h
  | t :: ts, p :: D, h => by
    have h : Paired _ (t :: ts) (((Sum.inl p.1 : Key), V.int p.2) :: dkI D) := h
    cases h with
    | cons a b => exact .cons a (prs_items b)
theorem keys_list {β : Type} {f : β → V} : ∀ D : List (Int × β), (dk f D).map (fun kv => kV kv.1) = (keys D).map V.int
  | [] => rfl
  | p :: D => by
    show V.int p.1 :: (dk f D).map (fun kv => kV kv.1) = V.int p.1 :: (keys D).map V.int
    rw [keys_list D]
/-- what a drawn start is -/
structure Drawn (L : PL) (ns : List Int) (c : Int) : Prop where
  len : L.length ≤ 4
  nd : (keys L).Nodup
  ok : ∀ p ∈ L, HeapOk p
  one : OneC L c
  ls : ns.length ≤ 5
  lnd : ns.Nodup
  lok : ∀ n ∈ ns, -1000000 ≤ n ∧ n ≤ 1000000
def spStart : Sp := fun vs H Q _ => ∃ (q : Addr) (n : Int), vs = [.ref q, .int 4] ∧ n ≤ 900 ∧ QuernAt H q n ∧
  ∀ (H' : Hp) (t a l : Addr) (rs : List Addr) (L : PL) (ns : List Int) (c : Int), SameBut q H H' → QuernAt H' q (n + 60) → H' t = some (.tup [.ref a, .ref l]) → H' a = some (.lst (rs.map V.ref)) → Prs H' rs L → H' l = some (.lst (ns.map V.int)) → Drawn L ns c → H a = none → H l = none → Q (.ref t) H'
/-- what stands while a start is drawn -/
structure StI (H H' : Hp) (q : Addr) (N : Int) (dh dl : Addr) (D : PL) (E : List (Int × Bool)) : Prop where
  b : SameBut q H H'
  qu : QuernAt H' q N
  hd : H' dh = some (.dK (dkI D))
  he : H' dl = some (.dK (dkB E))
theorem quern_dk {H : Hp} {q p : Addr} {N : Int} {kvs : List (Key × V)} (h : QuernAt H q N) (e : H p = some (.dK kvs)) : p ≠ q := by
  obtain ⟨_, _, _, _, h1, _⟩ := h
  exact ne_of e h1 (fun z => nomatch z)
theorem StI.grind {H H' H2 : Hp} {q : Addr} {N M : Int} {dh dl : Addr} {D : PL} {E : List (Int × Bool)} (a : StI H H' q N dh dl D E) (b : SameBut q H' H2) (h : QuernAt H2 q M) : StI H H2 q M dh dl D E :=
  ⟨a.b.trans b, h, b _ _ a.hd (quern_dk a.qu a.hd), b _ _ a.he (quern_dk a.qu a.he)⟩
theorem StI.on {H H' H2 : Hp} {q : Addr} {N : Int} {dh dl : Addr} {D : PL} {E : List (Int × Bool)} (a : StI H H' q N dh dl D E) (s : Same H' H2) : StI H H2 q N dh dl D E :=
  ⟨a.b.trans (same_but s), a.qu.same s, s _ _ a.hd, s _ _ a.he⟩
theorem StI.putD {H H' : Hp} {q : Addr} {N : Int} {dh dl : Addr} {D D' : PL} {E : List (Int × Bool)} (a : StI H H' q N dh dl D E) (n : dh ≠ dl) (hd : H dh = none) {o : HO} (ho : o = .dK (dkI D')) : StI H (upd H' dh o) q N dh dl D' E :=
  ⟨fun b u h nb => by rw [upd_ne (ne_of_none h hd)]; exact a.b b u h nb, a.qu.upd (fun xs z => by rw [a.hd] at z; cases z), by rw [upd_same, ho], by rw [upd_ne n.symm]; exact a.he⟩
theorem StI.putE {H H' : Hp} {q : Addr} {N : Int} {dh dl : Addr} {D : PL} {E E' : List (Int × Bool)} (a : StI H H' q N dh dl D E) (n : dh ≠ dl) (hd : H dl = none) {o : HO} (ho : o = .dK (dkB E')) : StI H (upd H' dl o) q N dh dl D E' :=
  ⟨fun b u h nb => by rw [upd_ne (ne_of_none h hd)]; exact a.b b u h nb, a.qu.upd (fun xs z => by rw [a.he] at z; cases z), by rw [upd_ne n]; exact a.hd, by rw [upd_same, ho]⟩
theorem SameBut.free {q p : Addr} {H H' : Hp} (s : SameBut q H H') (n : p ≠ q) (h : H' p = none) : H p = none := by
  cases e : H p with
  | none => rfl
  | some o =>
    rw [s p o e n] at h
    cases h
theorem quern_new {H : Hp} {q p : Addr} {N : Int} (h : QuernAt H q N) (e : H p = none) : p ≠ q := by
  obtain ⟨_, _, _, _, h1, _⟩ := h
  exact (ne_of_none h1 e).symm
abbrev nST : List Str := ["_law_quern_here", "_law_most", "_law_colour", "_law_heaps", "_law_lefts", "_law_turn", "_law_half", "_law_many"]
theorem scStart : FnScope nST ["_law_quern_here", "_law_most"] (defScope sStart) := ⟨rfl, rfl, rfl, by decide +kernel, rfl, by decide +kernel, by decide +kernel⟩
theorem ok_start {f : Addr} {fd : FuncData} (F : Fun K "_law_start" "_law_start" sStart f fd) (T : Txt mg) (G : Has P w K mg base 1 "_law_grind" ["_law_quern_here", "_law_many"] [] spGrind) (G2 : Has P w K mg base 2 "_law_grain" ["_law_quern_here", "_law_some"] [] spGrain) :
    FnOk P w K mg base CX0 3 f fd ["_law_quern_here", "_law_most"] spStart := by
  refine F.ok scStart (fun vs H Q E h => ?_) (fun cdv A outer s H vs Q E hr h => ?_)
  · obtain ⟨q, n, rfl, _⟩ := h
    rfl
  · obtain ⟨q, n, rfl, hn, hq, k⟩ := h
    have hu := hu_of hr
    have hr1 : Room 1 _ := hr.mono (by decide)
    refine ⟨_, pss_cons (ps_par3 (i := 2) (j := 3) (l := 4) rfl scStart.nd rfl rfl rfl (by decide) (by decide) (by decide) rfl rfl rfl (pa_cons (pe_has G hr1 (by rfl) (pa_cons (pv 0) (pa_cons pe_int pa_nil))) (pa_cons pe_dnewK (pa_cons pe_dnewK pa_nil))) (by rfl))
      (pss_cons (ps_for PassesOwn.never rfl (pi_range1 (by rfl) T.range (pa_cons (pe_has G hr1 (by rfl) (pa_cons (pv 0) (pa_cons (pe_op op_add (pv 1) pe_int) pa_nil))) pa_nil)) (pg_name (i := 5) scStart.nd rfl (Or.inl rfl))
        (pss_cons (ps_set (i := 6) scStart.nd rfl (Or.inl rfl) (pe_has G2 hr (by rfl) (pa_cons (pv 0) (pa_cons (pe_lst (pa_cons (pe_op op_sub (pe_has G hr1 (by rfl) (pa_cons (pv 0) (pa_cons pe_int pa_nil))) pe_int) (pa_cons (pe_op op_sub (pe_has G hr1 (by rfl) (pa_cons (pv 0) (pa_cons pe_int pa_nil))) pe_int) (pa_cons (pe_op op_sub (pe_has G hr1 (by rfl) (pa_cons (pv 0) (pa_cons pe_int pa_nil))) pe_int) pa_nil)))) pa_nil))))
        (pss_cons (ps_set (i := 7) scStart.nd rfl (Or.inl rfl) (pe_has G2 hr (by rfl) (pa_cons (pv 0) (pa_cons (pe_lst (pa_cons pe_int (pa_cons pe_int (pa_cons pe_int (pa_cons (pe_op op_add pe_int (pe_has G hr1 (by rfl) (pa_cons (pv 0) (pa_cons pe_int pa_nil)))) (pa_cons (pe_op op_add pe_int (pe_has G hr1 (by rfl) (pa_cons (pv 0) (pa_cons pe_int pa_nil)))) (pa_cons (pe_op op_sub (pe_op op_pow pe_int pe_int) (pe_has G hr1 (by rfl) (pa_cons (pv 0) (pa_cons pe_int pa_nil)))) pa_nil))))))) pa_nil))))
        (pss_one (ps_dput hu (pv 3) (pe_op op_add (pe_op op_mul pe_int (pv 6)) (pv 2)) (pv 7) rfl)))))
      (pss_cons (ps_for PassesOwn.never rfl (pi_range1 (by rfl) T.range (pa_cons (pe_has G hr1 (by rfl) (pa_cons (pv 0) (pa_cons pe_int pa_nil))) pa_nil)) (pg_name (i := 5) scStart.nd rfl (Or.inl rfl))
        (pss_one (ps_dput hu (pv 4) (pe_op op_sub (pe_has G hr1 (by rfl) (pa_cons (pv 0) (pa_cons pe_int pa_nil))) pe_int) pe_bl rfl)))
      (pss_one (ps_ret (pe_tup (pa_cons (LiI.pe_listItems rfl (pv 3) (by rfl) T.list b_list) (pa_cons (pe_callTy (call_list_dK rfl) (by rfl) T.list b_list (pa_cons (pv 4) pa_nil)) pa_nil))))))), ?_⟩
    refine ⟨_, rfl, q, 2, n, rfl, by decide, by decide, by omega, hq, fun H1 c c0 c1 q1 b1 => ?_⟩
    intro dh hdh dl hdl
    refine ⟨_, _, _, rfl, ?_⟩
    have s1 := same_new (o := HO.dK []) (Same.refl H1) hdh
    have s2 := same_new (o := HO.dK []) (Same.refl (upd H1 dh (.dK []))) hdl
    have ndl : dh ≠ dl := ne_of_none upd_same hdl
    have dh0 : H dh = none := b1.free (quern_new q1 hdh) hdh
    have dl1 : H1 dl = none := s1.free hdl
    have dl0 : H dl = none := b1.free (quern_new q1 dl1) dl1
    have A0 : StI H (upd (upd H1 dh (.dK [])) dl (.dK [])) q (n + 1) dh dl [] [] := ⟨b1.trans (same_but (s1.trans s2)), (q1.same s1).same s2, s2 _ _ upd_same, upd_same⟩
    generalize upd (upd H1 dh (.dK [])) dl (.dK []) = H2 at A0
    clear s1 s2 hdl dl1 hdh
    refine ⟨_, rfl, _, rfl, 4, 1, rfl, rfl, q, 5, n + 1, rfl, by decide, by decide, by omega, A0.qu, fun H3 r r0 r1 q3 b3 => ⟨r, rfl, by omega, by omega, ?_⟩⟩
    have A1 := A0.grind b3 q3
    refine for_range (lo := 0) (n := r.toNat) (fun i σ H' => ∃ (v5 v6 v7 : Option V) (D : PL), σ = [some (.ref q), some (.int 4), some (.int c), some (.ref dh), some (.ref dl), v5, v6, v7] ∧ StI H H' q (n + 2 + 8 * (i : Int)) dh dl D [] ∧ D.length ≤ i ∧ (keys D).Nodup ∧ (∀ p ∈ D, HeapOk p) ∧ OneC D c)
      ⟨none, none, none, [], rfl, ⟨A1.b, A1.qu.mono (by omega), A1.hd, A1.he⟩, Nat.zero_le _, (by simp [keys]), (fun p m => by cases m), (fun p m => by cases m)⟩ ?_ ?_
    · rintro i σ H4 hi ⟨v5, v6, v7, D, rfl, A, lD, nD, oD, cD⟩
      have i4 : (i : Int) ≤ 4 := by omega
      -- half
      refine ⟨_, rfl, _, rfl, q, 7, _, rfl, by decide, by decide, by omega, A.qu, fun H5 a a0 a1 q5 b5 => ⟨a, 3, rfl, rfl, _, rfl, q, 7, _, rfl, by decide, by decide, by omega, q5, fun H6 b bb0 bb1 q6 b6 => ⟨b, 3, rfl, rfl, _, rfl, q, 60, _, rfl, by decide, by decide, by omega, q6, fun H7 d d0 d1 q7 b7 => ⟨d, 30, rfl, rfl, by show 3 ≤ sizeLine; decide, fun ls hls => ?_⟩⟩⟩⟩
      have A7 := ((A.grind b5 q5).grind b6 q6).grind b7 q7
      have A8 := A7.on (same_new (o := HO.lst [.int (a - 3), .int (b - 3), .int (d - 30)]) (Same.refl H7) hls)
      refine ⟨q, ls, [a - 3, b - 3, d - 30], _, rfl, quern_new q7 hls, upd_same, by show 1 ≤ 3; decide, by show 3 ≤ 100; decide, by omega, A8.qu, fun H9 half hm q9 b9 => ?_⟩
      have A9 := A8.grind b9 q9
      have hh : -30 ≤ half ∧ half ≤ 29 := by
        simp only [List.mem_cons, List.not_mem_nil, or_false] at hm
        omega
      clear A7 A8 hm hls
      -- many
      refine ⟨_, rfl, _, rfl, q, 9, _, rfl, by decide, by decide, by omega, A9.qu, fun H10 x x0 x1 q10 b10 => ⟨1, x, rfl, rfl, _, rfl, q, 1000, _, rfl, by decide, by decide, by omega, q10, fun H11 y y0 y1 q11 b11 => ⟨1, y, rfl, rfl, 10, 60, rfl, rfl, ⟨by decide, by decide, by decide⟩, _, rfl, q, 3, _, rfl, by decide, by decide, by omega, q11, fun H12 z z0 z1 q12 b12 => ⟨_, z, rfl, rfl, by show 6 ≤ sizeLine; decide, fun l2 hl2 => ?_⟩⟩⟩⟩
      have A12 := ((A9.grind b10 q10).grind b11 q11).grind b12 q12
      have A13 := A12.on (same_new (o := HO.lst [.int 1, .int 2, .int 3, .int (1 + x), .int (1 + y), .int (10 ^ 60 - z)]) (Same.refl H12) hl2)
      refine ⟨q, l2, [1, 2, 3, 1 + x, 1 + y, 10 ^ 60 - z], _, rfl, quern_new q12 hl2, upd_same, by show 1 ≤ 6; decide, by show 6 ≤ 100; decide, by omega, A13.qu, fun H14 many hm q14 b14 => ?_⟩
      have A14 := A13.grind b14 q14
      have hy : 1 ≤ many ∧ many ≤ 10 ^ 60 := by
        simp only [List.mem_cons, List.not_mem_nil, or_false] at hm
        omega
      clear A12 A13 hm hl2
      refine ⟨_, rfl, _, rfl, _, rfl, 2, half, rfl, rfl, .inl ⟨by decide, by decide⟩, _, rfl, _, c, rfl, rfl, dh, _, rfl, DPut.k (k := Sum.inl (2 * half + c)) A14.hd (by rw [dk_len]; exact small1000 (by omega)), ?_⟩
      refine ⟨_, _, _, putA D (2 * half + c) many, rfl, ?_, Nat.le_trans (length_put _ _ _) (by omega), nodup_put _ _ nD, fun p m => ?_, fun p m => ?_⟩
      · have A15 := A14.putD ndl dh0 (congrArg HO.dK (put_dk D (2 * half + c) many))
        exact ⟨A15.b, A15.qu.mono (by omega), A15.hd, A15.he⟩
      · rcases mem_put m with e | m
        · rw [e]
          exact ⟨by show -1000000 ≤ 2 * half + c; omega, by show 2 * half + c ≤ 1000000; omega, hy.1, hy.2⟩
        · exact oD p m
      · rcases mem_put m with e | m
        · rw [e]
          show (2 * half + c) % 2 = c
          omega
        · exact cD p m
    · rintro σ H4 ⟨v5, v6, v7, D, rfl, A, lD, nD, oD, cD⟩
      have r4 : r.toNat ≤ 4 := by omega
      refine ⟨_, rfl, q, 6, _, rfl, by decide, by decide, by omega, A.qu, fun H5 r' r0' r1' q5 b5 => ⟨r', rfl, by omega, by omega, ?_⟩⟩
      have A5 := A.grind b5 q5
      refine for_range (lo := 0) (n := r'.toNat) (fun i σ H' => ∃ (v5 : Option V) (E : List (Int × Bool)), σ = [some (.ref q), some (.int 4), some (.int c), some (.ref dh), some (.ref dl), v5, v6, v7] ∧ StI H H' q (n + 35 + (i : Int)) dh dl D E ∧ E.length ≤ i ∧ (keys E).Nodup ∧ (∀ x ∈ keys E, -1000000 ≤ x ∧ x ≤ 1000000))
        ⟨_, [], rfl, ⟨A5.b, A5.qu.mono (by omega), A5.hd, A5.he⟩, Nat.zero_le _, (by simp [keys]), (fun p m => by simp [keys] at m)⟩ ?_ ?_
      · rintro i σ H6 hi ⟨v5, E, rfl, A6, lE, nE, oE⟩
        refine ⟨_, rfl, _, rfl, q, 19, _, rfl, by decide, by decide, by omega, A6.qu, fun H7 a a0 a1 q7 b7 => ⟨a, 9, rfl, rfl, dl, _, rfl, DPut.k (k := Sum.inl (a - 9)) (A6.grind b7 q7).he (by rw [dk_len]; exact small1000 (by omega)), ?_⟩⟩
        have A7 := (A6.grind b7 q7).putE ndl dl0 (congrArg HO.dK (put_dk (f := V.bl) E (a - 9) true))
        refine ⟨_, putA E (a - 9) true, rfl, ⟨A7.b, A7.qu.mono (by omega), A7.hd, A7.he⟩, Nat.le_trans (length_put _ _ _) (by omega), nodup_put _ _ nE, fun x m => ?_⟩
        rcases mem_keys_put.mp m with e | m
        · omega
        · exact oE x m
      · rintro σ H6 ⟨v5, E, rfl, A6, lE, nE, oE⟩
        refine ⟨_, rfl, dh, _, rfl, A6.hd, fun H7 a ts s7 ha hts na h7 p7 => ⟨_, rfl, dl, _, rfl, s7 _ _ A6.he, fun l hl => ⟨by show 2 ≤ sizeLine; decide, fun t ht => ?_⟩⟩⟩
        have s8 := same_new (o := HO.lst ((dkB E).map fun kv => kV kv.1)) (Same.refl H7) hl
        have s9 := same_new (o := HO.tup [.ref a, .ref l]) (Same.refl _) ht
        have A9 := ((A6.on s7).on s8).on s9
        have a0 : H a = none := A6.b.free (quern_new A6.qu ha) ha
        have l0 : H l = none := (A6.on s7).b.free (quern_new (A6.on s7).qu hl) hl
        refine k _ t a l ts D (keys E) c A9.b (A9.qu.mono (by omega)) upd_same (s9 _ _ (s8 _ _ h7)) (prs_same (s8.trans s9) (prs_items p7)) ?_ ⟨by omega, nD, oD, cD, by unfold keys; rw [List.length_map]; omega, nE, oE⟩ a0 l0
        rw [← keys_list (f := V.bl)]
        exact s9 _ _ upd_same
end
end NK
namespace NK
open PySem PySem.Spec PyProof.Rows L2 L2.DX
section
variable {P : Program} {w : World} {K : PySem.W.Frag} {mg : Str → Option Value} {base : Heap}
theorem halved_len (D : PL) : ∀ n, (halved D n).length ≤ 2 ^ n * D.length
  | 0 => by simp [halved]
  | n + 1 => by
    have h1 := halve_length (halved D n)
    have h2 := halved_len D n
    show (halveStep (halved D n)).length ≤ _
    rw [Nat.pow_succ, Nat.mul_comm (2 ^ n) 2, Nat.mul_assoc]
    omega
theorem halved_le {D : PL} {n : Nat} (hD : D.length ≤ 4) (hn : n ≤ 6) : (halved D n).length ≤ 256 := by
  have h := halved_len D n
  have h2 : 2 ^ n ≤ 2 ^ 6 := Nat.pow_le_pow_right (by decide) hn
  have h3 : 2 ^ n * D.length ≤ 2 ^ 6 * 4 := Nat.mul_le_mul h2 hD
  omega
theorem prs_dk {K : PySem.W.Frag} {H : Hp} {rs : List Addr} {L : PL} (h : Prs H rs L) : Paired (fun p kv => SqT K H p [kV kv.1, kv.2]) rs (dkI L) := by
  induction h with
  | nil => exact .nil
  | cons a t ih => exact .cons (SqT.of a) ih
/-! ### halved -/
def spHalved : Sp := fun vs H Q _ => ∃ (a : Addr) (rs : List Addr) (L : PL) (T : Nat), vs = [.ref a, .int (T : Int)] ∧ H a = some (.lst (rs.map V.ref)) ∧ Prs H rs L ∧ L.length ≤ 4 ∧ (keys L).Nodup ∧ T ≤ 6 ∧
  ∀ (H' : Hp) (d : Addr), Same H H' → H d = none → H' d = some (.dK (dkI (halved L T))) → Q (.ref d) H'
abbrev nHV : List Str := ["_law_heaps", "_law_ticks", "_law_spot", "_law_many", "_law_here", "_law_tick", "_law_later", "_law_beside"]
theorem scHalved : FnScope nHV ["_law_heaps", "_law_ticks"] (defScope sHalved) := ⟨rfl, rfl, rfl, by decide +kernel, rfl, by decide +kernel, by decide +kernel⟩
theorem lock_new {H : Hp} {e d : Addr} {o u z : HO} (he : H e = none) (n : e ≠ d) : Same (upd H d z) (upd (upd H e o) d z) := fun b x h => by
  by_cases q : b = d
  · rw [q, upd_same] at h ⊢
    exact h
  · rw [upd_ne q] at h ⊢
    rw [upd_ne (ne_of_none h he)]
    exact h
theorem ok_halved {f : Addr} {fd : FuncData} (F : Fun K "_law_halved" "_law_halved" sHalved f fd) (X : Txt mg) : FnOk P w K mg base CX0 1 f fd ["_law_heaps", "_law_ticks"] spHalved := by
  refine F.ok scHalved (fun vs H Q E h => ?_) (fun cdv A outer s H vs Q E hr h => ?_)
  · obtain ⟨a, rs, L, T, rfl, _⟩ := h
    rfl
  · obtain ⟨a, rs, L, T, rfl, ha, hP, lL, nL, hT, k⟩ := h
    have hu := hu_of hr
    refine ⟨_, pss_cons (ps_set (i := 4) scHalved.nd rfl (Or.inl rfl) (pe_callTy (call_dictP rfl) (by rfl) X.dict b_dict (pa_cons
        (pe_lc (own := [("_law_spot", 2), ("_law_many", 3)]) (g := gTup K 2 (gCons (gName 2) (gCons (gName 3) gNil))) (tt := tYes) rfl scHalved.nd (pi_seq (pv 0)) (blkOk_by (own := [("_law_spot", 2), ("_law_many", 3)]) (N := nHV) (sc := defScope sHalved) (by decide +kernel))
          (fun _ _ _ _ _ => pg_tup rfl (pgs_cons (pg_name (i := 2) scHalved.nd rfl (Or.inl rfl)) (pgs_cons (pg_name (i := 3) scHalved.nd rfl (Or.inl rfl)) pgs_nil))) (fun _ _ _ _ _ => pts_nil)
          (fun _ _ _ _ _ => pe_tup (pa_cons (pv 2) (pa_cons (pv 3) pa_nil)))) pa_nil)))
      (pss_cons (ps_for PassesOwn.never rfl (pi_range1 (by rfl) X.range (pa_cons (pv 1) pa_nil)) (pg_name (i := 5) scHalved.nd rfl (Or.inl rfl))
        (pss_cons (ps_set (i := 6) scHalved.nd rfl (Or.inl rfl) pe_dnewK)
        (pss_cons (ps_lock (ps_for PassesOwn.never rfl (pi_items (pv 4)) (pg_tup rfl (pgs_cons (pg_name (i := 2) scHalved.nd rfl (Or.inl rfl)) (pgs_cons (pg_name (i := 3) scHalved.nd rfl (Or.inl rfl)) pgs_nil)))
          (pss_one (ps_for PassesOwn.never rfl (pi_tup (pe_tup (pa_cons (pe_op op_sub (pv 2) pe_int) (pa_cons (pe_op op_add (pv 2) pe_int) pa_nil)))) (pg_name (i := 7) scHalved.nd rfl (Or.inl rfl))
            (pss_one (ps_dput hu (pv 6) (pv 7) (pe_op op_add (pe_dget2 hu (pv 6) (pv 7) pe_int ⟨rfl, rfl, rfl, rfl⟩) (pe_op op_fdiv (pv 3) pe_int)) rfl))))))
        (pss_one (ps_set (i := 4) scHalved.nd rfl (Or.inl rfl) (pv 6))))))
      (pss_one (ps_ret (pv 4)))), ?_⟩
    refine ⟨_, rfl, lc_seq (K := K) (.inl (SqL.of ha)) (fun i acc H' => ∃ qs : List Addr, acc = qs.map V.ref ∧ Prs H' qs (L.take i)) (fun D hD => ⟨[], rfl, .nil⟩) (fun D i x acc H' hD hx hacc hs hl ⟨qs, eqs, pq⟩ => ?_) fun D acc H' hD hacc hs hl ⟨qs, eqs, pq⟩ => ?_⟩
    · subst eqs
      obtain ⟨r, p, rfl, e1, e2, e3⟩ := prs_get (prs_same hs hP) hx
      have lt := ix_lt e2
      refine ⟨r, _, rfl, SqT.of e3, rfl, _, _, rfl, _, _, rfl, rfl, rfl, _, rfl, _, rfl, by show 2 ≤ sizeLine; decide, fun u hu2 => ?_⟩
      have w2 := same_new (o := HO.tup [.int p.1, .int p.2]) (Same.refl H') hu2
      refine LcI.push hD (w2 _ _ hacc) (hs.trans w2) hl (by omega) ⟨qs ++ [u], by rw [List.map_append]; rfl, ?_⟩
      rw [take_snoc e2]
      exact prs_keepT (tups_upd (w2 _ _ hacc) fun _ z => nomatch z) (prs_snoc upd_same (prs_same w2 pq))
    · subst eqs
      have full : L.take (rs.map V.ref).length = L := List.take_of_length_le (by rw [List.length_map, prs_len hP]; omega)
      rw [full] at pq
      refine ⟨D, qs, dkI L, rfl, SqL.of hacc, prs_dk pq, fun d hd => ?_⟩
      have s1 : Same H (upd H' d (.dK (mergeK [] (dkI L)))) := same_new hs hd
      have d0 : H d = none := hs.free hd
      have hd1 : upd H' d (.dK (mergeK [] (dkI L))) d = some (.dK (dkI (halved L 0))) := by rw [upd_same, merge_dk, fromPairs_eq nL]; rfl
      generalize upd H' d (.dK (mergeK [] (dkI L))) = H1 at s1 hd1
      refine ⟨_, rfl, (T : Int), rfl, by omega, by omega, ?_⟩
      refine for_range (lo := 0) (n := (T : Int).toNat) (fun i σ H' => ∃ (v2 v3 v5 v6 v7 : Option V) (d : Addr), σ = [some (.ref a), some (.int T), v2, v3, some (.ref d), v5, v6, v7] ∧ Same H H' ∧ H d = none ∧ H' d = some (.dK (dkI (halved L i))))
        ⟨_, _, _, _, _, d, rfl, s1, d0, hd1⟩ ?_ ?_
      · rintro i σ H2 hi ⟨v2, v3, v5, v6, v7, d, rfl, s2, d2, h2⟩
        intro e he
        have lD := halved_le lL (n := i) (by omega)
        show _
        have nD : halved L (i + 1) = spread ((halved L i).map fun p => (p.1, p.2 / 2, p.2 / 2)) [] := rfl
        rw [nD]
        generalize halved L i = D at *
        have ned : e ≠ d := (ne_of_none h2 he).symm
        have e0 : H e = none := s2.free he
        have h2e : upd H2 e (.dK []) d = some (.dK (dkI D)) := by rw [upd_ne ned.symm]; exact h2
        refine ⟨d, _, h2e, trivial, fun od => ⟨_, rfl, d, od, _, rfl, upd_same, ?_⟩⟩
        have ef : upd H2 d (.frz od (.dK (dkI D))) e = none := by rw [upd_ne ned]; exact he
        refine for_it walk_items (fun j σ H' => ∃ v2 v3 v7 : Option V, σ = [some (.ref a), some (.int T), v2, v3, some (.ref d), some (.int (0 + (i : Int))), some (.ref e), v7] ∧ Same (upd H2 d (.frz od (.dK (dkI D)))) H' ∧ H' e = some (.dK (dkI (spread ((D.map fun p => (p.1, p.2 / 2, p.2 / 2)).take j) []))))
          ⟨_, _, _, rfl, lock_new (u := .dK []) he ned, by rw [upd_ne ned, upd_same]; rfl⟩ (fun j σ H' _ ⟨_, _, _, _, s, _⟩ => s _ _ upd_same) ?_ ?_
        · rintro j x σ H3 H4 hj ⟨v2, v3, v7, rfl, s3, h3⟩ ⟨t, y, z, rfl, ht, rfl, e1, e2⟩
          obtain ⟨p, e3⟩ : ∃ p, D[j]? = some p := by
            rw [dk_len] at hj
            exact ⟨D[j], List.getElem?_eq_getElem hj⟩
          have lt := ix_lt e3
          have e1' : ((dkI D)[j]?).map (fun kv => kV kv.1) = some y := e1
          have e2' : ((dkI D)[j]?).map Prod.snd = some z := e2
          have e4 : (dkI D)[j]? = some ((Sum.inl p.1 : Key), V.int p.2) := by
            unfold dkI dk
            rw [List.getElem?_map, e3]
            rfl
          rw [e4] at e1' e2'
          obtain rfl := Option.some.inj e1'
          obtain rfl := Option.some.inj e2'
          have e5 : (D.map fun p => (p.1, p.2 / 2, p.2 / 2))[j]? = some (p.1, p.2 / 2, p.2 / 2) := by rw [List.getElem?_map, e3]; rfl
          have nx : spread ((D.map fun p => (p.1, p.2 / 2, p.2 / 2)).take (j + 1)) [] = spread1 (spread ((D.map fun p => (p.1, p.2 / 2, p.2 / 2)).take j) []) (p.1, p.2 / 2, p.2 / 2) := by
            rw [take_snoc e5]
            unfold spread
            rw [List.foldl_append]
            rfl
          have lE : (spread ((D.map fun p => (p.1, p.2 / 2, p.2 / 2)).take j) []).length ≤ 512 := by
            have := length_spread ((D.map fun p => (p.1, p.2 / 2, p.2 / 2)).take j) []
            rw [List.length_take, List.length_nil, List.length_map] at this
            omega
          rw [nx]
          generalize spread ((D.map fun p => (p.1, p.2 / 2, p.2 / 2)).take j) [] = E at *
          have w1 := same_new (o := HO.tup [kV (Sum.inl p.1), .int p.2]) (Same.refl H3) ht
          refine ⟨t, _, rfl, SqT.of upd_same, rfl, _, _, rfl, _, _, rfl, rfl, ?_⟩
          refine ⟨_, rfl, p.1, 1, rfl, rfl, _, rfl, p.1, 1, rfl, rfl, by show 2 ≤ sizeLine; decide, fun t3 ht3 => ⟨t3, rfl, ⟨_, SqT.of upd_same⟩, ?_⟩⟩
          have w2 := same_new (o := HO.tup [.int (p.1 - 1), .int (p.1 + 1)]) (Same.refl _) ht3
          have s5 := s3.trans (w1.trans w2)
          have h5 := w2 _ _ (w1 _ _ h3)
          refine for_tup (K := K) (a := t3) (xs := [p.1 - 1, p.1 + 1].map V.int) (fun m σ H' => ∃ v7 : Option V, σ = [some (.ref a), some (.int T), some (.int p.1), some (.int p.2), some (.ref d), some (.int (0 + (i : Int))), some (.ref e), v7] ∧ Same (upd H2 d (.frz od (.dK (dkI D)))) H' ∧ H' e = some (.dK (dkI (joinD (([p.1 - 1, p.1 + 1].map fun x => (x, p.2 / 2)).take m) E))) ∧ H' t3 = some (.tup ([p.1 - 1, p.1 + 1].map V.int)))
            ⟨_, rfl, s5, h5, upd_same⟩ (fun m σ H' _ ⟨_, _, _, _, h⟩ => SqT.of h) ?_ ?_
          · rintro m x σ H6 hx ⟨v7, rfl, s6, h6, t6⟩
            rw [List.getElem?_map] at hx
            obtain ⟨n, f1, rfl⟩ := Option.map_eq_some_iff.mp hx
            have f2 : ([p.1 - 1, p.1 + 1].map fun x => (x, p.2 / 2))[m]? = some (n, p.2 / 2) := by rw [List.getElem?_map, f1]; rfl
            have lt2 : m < 2 := ix_lt f1
            have lJ : (joinD (([p.1 - 1, p.1 + 1].map fun x => (x, p.2 / 2)).take m) E).length ≤ 600 := by
              have := length_join (([p.1 - 1, p.1 + 1].map fun x => (x, p.2 / 2)).take m) E
              rw [List.length_take] at this
              omega
            refine ⟨_, rfl, e, rfl, .inl ⟨_, .inl h6⟩, _, rfl, _, DGet.k (k := Sum.inl n) h6, _, rfl, p.2, 2, rfl, rfl, ⟨by decide, by decide⟩, look (joinD (([p.1 - 1, p.1 + 1].map fun x => (x, p.2 / 2)).take m) E) n, p.2 / 2, ?_, rfl, _, rfl, _, rfl, e, _, rfl, DPut.k (k := Sum.inl n) h6 (by rw [dk_len]; exact small1000 (by omega)), ?_⟩
            · rw [val_dk, getD_look]
            · have nx2 : putK (dkI (joinD (([p.1 - 1, p.1 + 1].map fun x => (x, p.2 / 2)).take m) E)) (Sum.inl n) (V.int (look (joinD (([p.1 - 1, p.1 + 1].map fun x => (x, p.2 / 2)).take m) E) n + p.2 / 2)) = dkI (joinD (([p.1 - 1, p.1 + 1].map fun x => (x, p.2 / 2)).take (m + 1)) E) := by
                rw [put_dk, take_snoc f2]
                unfold joinD
                rw [List.foldl_append]
                rfl
              exact ⟨_, rfl, same_put s6 ef, Eq.trans upd_same (congrArg (fun l => some (HO.dK l)) nx2), by rw [upd_ne (fun z => by rw [z, h6] at t6; cases t6)]; exact t6⟩
          · rintro σ H6 ⟨v7, rfl, s6, h6, t6⟩
            exact ⟨_, _, _, rfl, s6, h6⟩
        · rintro σ H3 ⟨v2, v3, v7, rfl, s3, h3⟩
          have fl : (D.map fun p => (p.1, p.2 / 2, p.2 / 2)).take (dkI D).length = D.map fun p => (p.1, p.2 / 2, p.2 / 2) := List.take_of_length_le (by rw [dk_len, List.length_map]; omega)
          rw [fl] at h3
          have u1 : Same H2 (upd H3 d (.dK (dkI D))) := unlock_same h2 s3
          refine ⟨s3 _ _ upd_same, _, rfl, ?_⟩
          exact ⟨_, _, _, _, _, e, rfl, s2.trans u1, e0, by rw [upd_ne ned]; exact h3⟩
      · rintro σ H2 ⟨v2, v3, v5, v6, v7, d, rfl, s2, d2, h2⟩
        exact ⟨_, rfl, k _ d s2 d2 (by rw [show (T : Int).toNat = T from Int.toNat_natCast T] at h2; exact h2)⟩
end
end NK
namespace NK
open PySem PySem.Spec PyProof.Rows L2 L2.DX
section
variable {P : Program} {w : World} {K : PySem.W.Frag} {mg : Str → Option Value} {base : Heap}
/-! ### odd -/
def spOdd (C : Addr) : Sp := fun vs H Q _ => ∃ (p : Addr) (L : PL) (S : List Int) (t : Int), vs = [.ref p] ∧ LineAt C H p L S t ∧ L.length ≤ 500 ∧
  ∀ (H' : Hp) (l : Addr), Same H H' → H l = none → H' l = some (.lst ((odds L).map V.int)) → Q (.ref l) H'
abbrev nOD : List Str := ["_law_line", "_law_spot", "_law_many"]
theorem scOdd : FnScope nOD ["_law_line"] (defScope sOdd) := ⟨rfl, rfl, rfl, by decide +kernel, rfl, by decide +kernel, by decide +kernel⟩
theorem ok_odd {f C : Addr} {fd : FuncData} (F : Fun K "_law_odd" "_law_odd" sOdd f fd) (X : Txt mg) (T : LTxt K mg C) : FnOk P w K mg base CX0 1 f fd ["_law_line"] (spOdd C) := by
  refine F.ok scOdd (fun vs H Q E h => ?_) (fun cdv A outer s H vs Q E hr h => ?_)
  · obtain ⟨p, L, S, t, rfl, _⟩ := h
    rfl
  · obtain ⟨p, L, S, t, rfl, ⟨dx, th, tl, rs, hp, hth, hP, htl⟩, zL, k⟩ := h
    refine ⟨_, pss_one (ps_ret (pe_lc (own := [("_law_spot", 1), ("_law_many", 2)]) (g := gTup K 2 (gCons (gName 1) (gCons (gName 2) gNil))) rfl scOdd.nd (pi_seq (pe_fld (pv 0) rfl)) (blkOk_by (own := [("_law_spot", 1), ("_law_many", 2)]) (N := nOD) (sc := defScope sOdd) (by decide +kernel))
          (fun _ _ _ _ _ => pg_tup rfl (pgs_cons (pg_name (i := 1) scOdd.nd rfl (Or.inl rfl)) (pgs_cons (pg_name (i := 2) scOdd.nd rfl (Or.inl rfl)) pgs_nil)))
          (fun _ _ _ _ _ => pts_one (pt_cmpR op_eq (pe_op op_mod (pe_callTy call_int1 (by rfl) X.int b_int (pa_cons (pv 2) pa_nil)) pe_int) pe_int (nomark _)))
          (fun _ _ _ _ _ => pv 1))), ?_⟩
    refine ⟨_, rfl, p, C, dx, _, _, rfl, hp, T.cl, T.nH, lf_heaps _ _ _, lc_seq (K := K) (.inr hth.sq) (fun i acc H' => acc = (odds (L.take i)).map V.int) (fun D hD => rfl) (fun D i x acc H' hD hx hacc hs hl eqs => ?_) fun D acc H' hD hacc hs hl eqs => ?_⟩
    · obtain ⟨r, q, rfl, e1, e2, e3⟩ := prs_get (prs_same hs hP) hx
      have lt := ix_lt e2
      refine ⟨r, _, rfl, SqT.of e3, rfl, _, _, rfl, _, _, rfl, rfl, rfl, _, rfl, .inl ⟨q.2, rfl, q.2, 2, rfl, rfl, (show (0:Int) < 2 by decide), rfl, _, rfl, ?_⟩⟩
      refine ite2 (fun z => ?_) (fun z => ?_)
      · have z' : q.2 % 2 = 1 := V.int.inj (of_decide_eq_true z)
        refine ⟨_, rfl, LcI.push hD hacc hs hl (by omega) ?_⟩
        rw [take_snoc e2, eqs]
        unfold odds
        rw [List.filter_append, List.filter_cons_of_pos (by rw [decide_eq_true z']), List.filter_nil, List.map_append, List.map_append]
        rfl
      · have z' : ¬ q.2 % 2 = 1 := fun h => z (by
          show decide (V.int (q.2 % 2) = V.int 1) = true
          rw [h]
          exact decide_eq_true rfl)
        refine LcI.skip hacc hs hl ?_
        rw [take_snoc e2, eqs]
        unfold odds
        rw [List.filter_append, List.filter_cons_of_neg (by rw [decide_eq_false z']; decide), List.filter_nil, List.append_nil]
    · have full : L.take (rs.map V.ref).length = L := List.take_of_length_le (by rw [List.length_map, prs_len hP]; omega)
      rw [full] at eqs
      subst eqs
      exact k _ D hs hD hacc

/-! ### sum -/
def spSum : Sp := fun vs H Q _ => ∃ (a b : Addr) (A D : PL), vs = [.ref a, .ref b] ∧ H a = some (.dK (dkI A)) ∧ H b = some (.dK (dkI D)) ∧ A.length ≤ 400 ∧ D.length ≤ 400 ∧
  ∀ (H' : Hp) (t : Addr) (rs : List Addr) (ns : List Int), Same H H' → TupF H' t (rs.map V.ref) → Prs H' rs (ns.map fun x => (x, look A x + look D x)) → ns.Pairwise (· < ·) → (∀ x : Int, x ∈ ns ↔ x ∈ keys A ∨ x ∈ keys D) → Q (.ref t) H'
abbrev nSU : List Str := ["_law_one", "_law_other", "_law_spot"]
theorem scSum : FnScope nSU ["_law_one", "_law_other"] (defScope sSum) := ⟨rfl, rfl, rfl, by decide +kernel, rfl, by decide +kernel, by decide +kernel⟩
theorem ok_sum {f : Addr} {fd : FuncData} (F : Fun K "_law_sum" "_law_sum" sSum f fd) (X : Txt mg) : FnOk P w K mg base CX0 1 f fd ["_law_one", "_law_other"] spSum := by
  refine F.ok scSum (fun vs H Q E h => ?_) (fun cdv A outer s H vs Q E hr h => ?_)
  · obtain ⟨a, b, A, D, rfl, _⟩ := h
    rfl
  · obtain ⟨a, b, A, D, rfl, ha, hb, lA, lD, k⟩ := h
    have hu := hu_of hr
    refine ⟨_, pss_one (ps_ret (pe_callTy call_tupF (by rfl) X.tuple b_tuple (pa_cons (pe_lc (own := [("_law_spot", 2)]) (g := gName 2) (tt := tYes) rfl scSum.nd
          (pi_seq (pe_sortSet rfl (by rfl) X.sorted (by rfl) X.set (pe_op op_cat (pe_callTy (call_list_dK rfl) (by rfl) X.list b_list (pa_cons (pv 0) pa_nil)) (pe_callTy (call_list_dK rfl) (by rfl) X.list b_list (pa_cons (pv 1) pa_nil)))))
          (blkOk_by (own := [("_law_spot", 2)]) (N := nSU) (sc := defScope sSum) (by decide +kernel))
          (fun _ _ _ _ _ => pg_name (i := 2) scSum.nd rfl (Or.inl rfl)) (fun _ _ _ _ _ => pts_nil)
          (fun _ _ _ _ _ => pe_tup (pa_cons (pv 2) (pa_cons (pe_op op_add (pe_dget2 hu (pv 0) (pv 2) pe_int ⟨rfl, rfl, rfl, rfl⟩) (pe_dget2 hu (pv 1) (pv 2) pe_int ⟨rfl, rfl, rfl, rfl⟩)) pa_nil)))) pa_nil))), ?_⟩
    refine ⟨_, rfl, a, _, rfl, ha, fun l1 h1 => ⟨_, rfl, b, dkI D, rfl, ?_, fun l2 h2 => ?_⟩⟩
    · rw [upd_ne (ne_of_none hb h1)]
      exact hb
    have s1 := same_new (o := HO.lst ((dkI A).map fun kv => kV kv.1)) (Same.refl H) h1
    have s2 := same_new (o := HO.lst ((dkI D).map fun kv => kV kv.1)) (Same.refl _) h2
    refine ⟨l1, l2, _, _, rfl, rfl, s2 _ _ upd_same, upd_same, ?_, fun l3 h3 => ?_⟩
    · rw [List.length_map, List.length_map, dk_len, dk_len]
      exact Nat.le_of_lt (small1000 (by omega))
    have s3 := same_new (o := HO.lst (((dkI A).map fun kv => kV kv.1) ++ ((dkI D).map fun kv => kV kv.1))) (Same.refl _) h3
    have s123 := s1.trans (s2.trans s3)
    have e3 : ((dkI A).map fun kv => kV kv.1) ++ ((dkI D).map fun kv => kV kv.1) = (keys A ++ keys D).map V.int := by
      rw [List.map_append, keys_list, keys_list]
    have lK : (keys A ++ keys D).length ≤ 800 := by
      rw [List.length_append]
      unfold keys
      rw [List.length_map, List.length_map]
      omega
    refine ⟨l3, keys A ++ keys D, rfl, SqL.of (by rw [upd_same, e3]), by omega, fun ns l4 q1 q2 q3 h4 => ?_⟩
    have s4 := same_new (o := HO.lst (ns.map V.int)) (Same.refl _) h4
    have S := s123.trans s4
    refine lc_seq (K := K) (a := l4) (xs := ns.map V.int) (.inl (SqL.of upd_same)) (fun i acc H' => ∃ qs : List Addr, acc = qs.map V.ref ∧ Prs H' qs ((ns.take i).map fun x => (x, look A x + look D x))) (fun J hJ => ⟨[], rfl, .nil⟩) (fun J i x acc H' hJ hx hacc hs hl ⟨qs, eqs, pq⟩ => ?_) fun J acc H' hJ hacc hs hl ⟨qs, eqs, pq⟩ => ?_
    · subst eqs
      rw [List.getElem?_map] at hx
      obtain ⟨n, f1, rfl⟩ := Option.map_eq_some_iff.mp hx
      have lt := ix_lt f1
      have ha' := hs _ _ (S _ _ ha)
      have hb' := hs _ _ (S _ _ hb)
      refine ⟨rfl, _, rfl, _, rfl, a, rfl, .inl ⟨_, .inl ha'⟩, _, rfl, _, DGet.k (k := Sum.inl n) ha', _, rfl, b, rfl, .inl ⟨_, .inl hb'⟩, _, rfl, _, DGet.k (k := Sum.inl n) hb', look A n, look D n, ?_, ?_, by show 2 ≤ sizeLine; decide, fun u hu2 => ?_⟩
      · rw [val_dk, getD_look]
      · rw [val_dk, getD_look]
      have w2 := same_new (o := HO.tup [.int n, .int (look A n + look D n)]) (Same.refl H') hu2
      refine LcI.push hJ (w2 _ _ hacc) (hs.trans w2) hl (by omega) ⟨qs ++ [u], by rw [List.map_append]; rfl, ?_⟩
      rw [take_snoc f1, List.map_append]
      have one : Prs (upd H' u (.tup [.int n, .int (look A n + look D n)])) (qs ++ [u]) ((ns.take i).map (fun x => (x, look A x + look D x)) ++ [(n, look A n + look D n)]) := prs_snoc (p := (n, look A n + look D n)) upd_same (prs_same w2 pq)
      exact prs_keepT (tups_upd (w2 _ _ hacc) fun _ z => nomatch z) one
    · subst eqs
      rw [List.length_map, List.take_length] at pq
      refine ⟨J, _, rfl, SqL.of hacc, fun t o ht ho => ?_⟩
      have s5 := same_new (o := HO.frz o (.tup (qs.map V.ref))) (Same.refl H') ht
      refine k _ t qs ns (S.trans (hs.trans s5)) ⟨o, ho, upd_same⟩ (prs_same s5 pq) q1 (fun x => ?_)
      rw [q2, List.mem_append]
end
end NK
namespace NK
open PySem PySem.Spec PyProof.Rows L2 L2.DX
/-! ### what stands while two lines run side by side -/
theorem shaped_lP (L : PL) : SeqAt.shaped (.list (dP L)) = true := by
  have := dep_P L
  show (PyData.canLayAll0 (dP L) && decide (PyData.depth (.list (dP L)) ≤ 64)) = true
  rw [lay_P, decide_eq_true (by simp only [PyData.depth]; omega)]
  rfl
theorem eqv_lI (ns : List Int) : PyData.eqv (.list (dI ns)) (.list (dI ns)) = true := SeqAt.eqv_refl _ (by show PyData.canLayAll0 (dI ns) = true; exact lay_I ns)
theorem eqv_tI (ns : List Int) : PyData.eqv (.tuple (dI ns)) (.tuple (dI ns)) = true := SeqAt.eqv_refl _ (by show PyData.canLayAll0 (dI ns) = true; exact lay_I ns)
theorem eqv_tP (L : PL) : PyData.eqv (.tuple (dP L)) (.tuple (dP L)) = true := SeqAt.eqv_refl _ (by show PyData.canLayAll0 (dP L) = true; exact lay_P L)
theorem QuernAt.keep {H H' : Hp} {q p : Addr} {n : Int} {u : HO} (h : QuernAt H q n) (hp : H p = some u) (nl : ∀ xs, u ≠ .lst xs) (s : SameBut p H H') : QuernAt H' q n := by
  obtain ⟨a, b, c, d, h1, h2, h3⟩ := h
  exact ⟨a, b, c, d, s _ _ h1 (ne_of h1 hp (fun z => nl _ z.symm)), s _ _ h2 (ne_of h2 hp (fun z => nl _ z.symm)), h3⟩
/-- a new thing made at x -/
theorem made_same {H H' : Hp} {x dx : Addr} {o o' : HO} (hx : H x = none) (hd : H dx = none) (n : dx ≠ x) (sb : SameBut x (upd (upd H dx o) x o') H') : Same H H' := fun b u e => by
  refine sb b u ?_ (ne_of_none e hx)
  rw [upd_ne (ne_of_none e hx), upd_ne (ne_of_none e hd)]
  exact e
theorem adv_len {L L' : PL} {S : List Int} (hp : L'.Perm ((spread (sentOn L S) []).filter fun p => decide (0 < p.2))) : L'.length ≤ 2 * L.length := by
  have h := length_spread (sentOn L S) []
  rw [List.length_nil, sent_len] at h
  rw [hp.length_eq]
  exact Nat.le_trans (List.length_filter_le _ _) (by omega)
theorem hand_len {L : PL} {S S' : List Int} (hp : S'.Perm (((toggles (sentOn L S) (leftsD S)).filter (·.2)).map (·.1))) : S'.length ≤ S.length + L.length := by
  have h := length_toggles (sentOn L S) (leftsD S)
  have h2 := leftsD_length S
  rw [sent_len] at h
  rw [hp.length_eq, List.length_map]
  exact Nat.le_trans (List.length_filter_le _ _) (by omega)
/-- the quern, the dict of what is laid on, and both lines at a tick -/
structure Both (C : Addr) (H : Hp) (q : Addr) (N : Int) (m p1 p2 : Addr) (D : PL) (i : Nat) (A B : PL) (S : List Int) : Prop where
  qu : QuernAt H q N
  hm : H m = some (.dK (dkI D))
  la : LineAt C H p1 A S (i : Int)
  lb : LineAt C H p2 B S (i : Int)
  cA : Canon A
  cB : Canon B
  laid : Laid A B (halved D i)
  lA : A.length ≤ 4 * 2 ^ i
  lB : B.length ≤ 7 * 2 ^ i
  lS : S.length ≤ 7 * 2 ^ i
section
variable {C : Addr} {H H1 H2 : Hp} {q m p1 p2 : Addr} {N : Int} {D A B A' B' : PL} {S SA SB : List Int} {T i : Nat}
theorem Both.same (b : Both C H q N m p1 p2 D i A B S) (s : Same H H1) : Both C H1 q N m p1 p2 D i A B S :=
  ⟨b.qu.same s, s _ _ b.hm, b.la.same s, b.lb.same s, b.cA, b.cB, b.laid, b.lA, b.lB, b.lS⟩
theorem LineAt.ins {t : Int} (h : LineAt C H p1 A S t) : ∃ dx fs, H p1 = some (.ins C dx fs) := by
  obtain ⟨dx, th, tl, rs, h1, _⟩ := h
  exact ⟨dx, _, h1⟩
theorem Both.step (b : Both C H q N m p1 p2 D i A B S) (n12 : p2 ≠ p1) (hi : i < T) (hD : Mult (2 ^ T) D) (nD : (keys D).Nodup)
    (a1 : LineAt C H1 p1 A' SA ((i : Int) + 1)) (a2 : A'.Perm ((spread (sentOn A S) []).filter fun q => decide (0 < q.2))) (a3 : A'.Pairwise fun q r => q.1 ≤ r.1)
    (a4 : SA.Perm (((toggles (sentOn A S) (leftsD S)).filter (·.2)).map (·.1))) (a5 : SA.Pairwise (· ≤ ·)) (a6 : SameBut p1 H H1)
    (b1 : LineAt C H2 p2 B' SB ((i : Int) + 1)) (b2 : B'.Perm ((spread (sentOn B S) []).filter fun q => decide (0 < q.2))) (b3 : B'.Pairwise fun q r => q.1 ≤ r.1)
    (b4 : SB.Perm (((toggles (sentOn B S) (leftsD S)).filter (·.2)).map (·.1))) (b5 : SB.Pairwise (· ≤ ·)) (b6 : SameBut p2 H1 H2) : Both C H2 q N m p1 p2 D (i + 1) A' B' SA := by
  obtain ⟨dx1, f1, e1⟩ := b.la.ins
  have lb1 : LineAt C H1 p2 B S (i : Int) := b.lb.keep e1 (fun _ _ z => nomatch z) (fun _ z => nomatch z) n12 a6
  obtain ⟨dx2, f2, e2⟩ := lb1.ins
  have q1 := b.qu.keep e1 (fun _ z => nomatch z) a6
  have q2 := q1.keep e2 (fun _ z => nomatch z) b6
  have m1 := a6 _ _ b.hm (ne_of b.hm e1 (fun z => nomatch z))
  have m2 := b6 _ _ m1 (ne_of m1 e2 (fun z => nomatch z))
  have la2 := a1.keep e2 (fun _ _ z => nomatch z) (fun _ z => nomatch z) n12.symm b6
  obtain ⟨c1, k1⟩ := tick_heaps b.cA a2 a3
  obtain ⟨c2, k2⟩ := tick_heaps b.cB b2 b3
  obtain ⟨h1, j1⟩ := tick_hands b.cA.asc.nodup a4 a5
  obtain ⟨h2, j2⟩ := tick_hands b.cB.asc.nodup b4 b5
  obtain ⟨e, he⟩ : ∃ e, T - i = e + 1 := ⟨T - i - 1, by omega⟩
  have hM := halved_mult hD i (by omega)
  rw [he, Int.pow_succ, Int.mul_comm] at hM
  have eS : SA = SB := laid_hands hM b.laid h1 j1 h2 j2
  have x1 := adv_len a2
  have x2 := adv_len b2
  have x3 := hand_len a4
  have y1 := b.lA
  have y2 := b.lB
  have y3 := b.lS
  have p2e : 2 ^ (i + 1) = 2 * 2 ^ i := by rw [Nat.pow_succ, Nat.mul_comm]
  refine ⟨q2, m2, la2, by rw [eS]; exact b1, c1, c2, laid_tick k1 k2 (halved_nodup nD i) hM b.laid, ?_, ?_, ?_⟩
  · rw [p2e]; omega
  · rw [p2e]; omega
  · rw [p2e]; omega
end
/-- the quern and a drawn start, as they stand -/
structure Mat (H : Hp) (q : Addr) (n : Int) (a : Addr) (rs : List Addr) (L : PL) (l : Addr) (ns : List Int) : Prop where
  qu : QuernAt H q n
  ha : H a = some (.lst (rs.map V.ref))
  hP : Prs H rs L
  hl : H l = some (.lst (ns.map V.int))
  na : a ≠ q
  nl : l ≠ q
section
variable {H H1 : Hp} {q a l p : Addr} {n m : Int} {rs : List Addr} {L : PL} {ns : List Int}
theorem Mat.on (h : Mat H q n a rs L l ns) (s : Same H H1) : Mat H1 q n a rs L l ns := ⟨h.qu.same s, s _ _ h.ha, prs_same s h.hP, s _ _ h.hl, h.na, h.nl⟩
theorem Mat.mono (h : Mat H q n a rs L l ns) (e : n ≤ m) : Mat H q m a rs L l ns := ⟨h.qu.mono e, h.ha, h.hP, h.hl, h.na, h.nl⟩
theorem Mat.grind (h : Mat H q n a rs L l ns) (s : SameBut q H H1) (k : QuernAt H1 q m) : Mat H1 q m a rs L l ns := by
  obtain ⟨_, _, _, _, h1, _⟩ := h.qu
  exact ⟨k, s _ _ h.ha h.na, prs_keep h1 (fun _ z => nomatch z) s h.hP, s _ _ h.hl h.nl, h.na, h.nl⟩
theorem Mat.put {kvs : List (Key × V)} {o : HO} (h : Mat H q n a rs L l ns) (hp : H p = some (.dK kvs)) : Mat (upd H p o) q n a rs L l ns :=
  ⟨h.qu.upd (fun xs z => by rw [hp] at z; cases z), by rw [upd_ne (ne_of h.ha hp (fun z => nomatch z))]; exact h.ha, prs_keepT (tups_upd hp fun _ z => nomatch z) h.hP, by rw [upd_ne (ne_of h.hl hp (fun z => nomatch z))]; exact h.hl, h.na, h.nl⟩
end
/-- what is laid on: small, of one colour, each a multiple -/
structure Extra (D : PL) (c : Int) (T : Nat) : Prop where
  nd : (keys D).Nodup
  ok : ∀ p ∈ D, -20 ≤ p.1 ∧ p.1 ≤ 20 ∧ 1 ≤ p.2 ∧ p.2 ≤ 192
  one : OneC D c
  mul : Mult (2 ^ T) D
theorem Extra.nil {c : Int} {T : Nat} : Extra [] c T := ⟨by simp [keys], (fun p m => by cases m), (fun p m => by cases m), (fun p m => by cases m)⟩
theorem Extra.put {D : PL} {c y x : Int} {T : Nat} (h : Extra D c T) (hT : T ≤ 6) (c0 : 0 ≤ c) (c1 : c ≤ 1) (y0 : 0 ≤ y) (y1 : y < 9) (x0 : 0 ≤ x) (x1 : x < 3) : Extra (putA D (2 * (y - 4) + c) ((1 + x) * 2 ^ T)) c T := by
  have e1 : (1 : Int) ≤ 2 ^ T ∧ (2 : Int) ^ T ≤ 64 := by
    have : T = 0 ∨ T = 1 ∨ T = 2 ∨ T = 3 ∨ T = 4 ∨ T = 5 ∨ T = 6 := by omega
    rcases this with h | h | h | h | h | h | h <;> subst h <;> decide
  have e2 : (1 : Int) ≤ (1 + x) * 2 ^ T ∧ (1 + x) * 2 ^ T ≤ 192 := by
    have : x = 0 ∨ x = 1 ∨ x = 2 := by omega
    rcases this with h | h | h <;> subst h <;> omega
  refine ⟨nodup_put _ _ h.nd, fun p m => ?_, fun p m => ?_, fun p m => ?_⟩
  · rcases mem_put m with e | m
    · rw [e]
      exact ⟨by show -20 ≤ 2 * (y - 4) + c; omega, by show 2 * (y - 4) + c ≤ 20; omega, e2.1, e2.2⟩
    · exact h.ok p m
  · rcases mem_put m with e | m
    · rw [e]
      show (2 * (y - 4) + c) % 2 = c
      omega
    · exact h.one p m
  · rcases mem_put m with e | m
    · rw [e]
      exact ⟨by show 0 < (1 + x) * 2 ^ T; omega, 1 + x, Int.mul_comm _ _⟩
    · exact h.mul p m
theorem Extra.heaps {D : PL} {c : Int} {T : Nat} (h : Extra D c T) (hl : D.length ≤ 60) : OkL D := ⟨hl, fun p m => by
    have := h.ok p m
    have big : (192 : Int) ≤ 10 ^ 60 := by decide +kernel
    exact ⟨by omega, by omega, by omega, by omega⟩, h.nd⟩
theorem put_ne {β : Type} {D : List (Int × β)} {k : Int} {v : β} : putA D k v ≠ [] := fun z => by
  have m : k ∈ keys (putA D k v) := mem_keys_put.mpr (.inl rfl)
  rw [z] at m
  simp [keys] at m
/-- the heaps below 10^50 -/
def lowP (L : PL) : PL := L.filter fun p => decide (p.2 < 10 ^ 50)
theorem low_look {L : PL} (hn : (keys L).Nodup) (x : Int) : look (lowP L) x < 10 ^ 50 := by
  by_cases m : x ∈ keys (lowP L)
  · have h := look_mem m
    exact of_decide_eq_true (List.mem_filter.mp h).2
  · rw [look_none m]
    decide
theorem low_okL {L : PL} {ns : List Int} {c : Int} (h : Drawn L ns c) : OkL (lowP L) :=
  ⟨Nat.le_trans (List.length_filter_le _ _) (Nat.le_trans h.len (by decide)), fun p m => h.ok p (List.mem_filter.mp m).1, List.Sublist.nodup (List.Sublist.map _ List.filter_sublist) h.nd⟩
theorem extra_look {D : PL} {c : Int} {T : Nat} (h : Extra D c T) (x : Int) : look D x ≤ 192 := by
  by_cases m : x ∈ keys D
  · exact (h.ok _ (look_mem m)).2.2.2
  · rw [look_none m]
    decide
end NK
namespace NK
open PySem PySem.Spec PyProof.Rows L2 L2.DX
section
variable {P : Program} {w : World} {K : PySem.W.Frag} {mg : Str → Option Value} {base : Heap}
theorem dget_dk {H : Hp} {a : Addr} {D : PL} {k : Int} (h : H a = some (.dK (dkI D))) (m : k ∈ keys D) : DGet H a (.int k) (some (.int (look D k))) := by
  have g := DGet.k (k := Sum.inl k) h
  rw [val_dk] at g
  obtain ⟨v, e⟩ := getA_some_of_key m
  rw [e] at g
  have e2 : look D k = v := by unfold look; rw [e]; rfl
  rw [e2]
  exact g
def spMore : Sp := fun vs H Q _ => ∃ (q a l : Addr) (rs : List Addr) (L : PL) (ns : List Int) (c n : Int), vs = [.ref q, .ref a, .ref l] ∧ n ≤ 900 ∧ Mat H q n a rs L l ns ∧ Drawn L ns c ∧ ∀ H' : Hp, QuernAt H' q (n + 9) → Q (.bl true) H'
abbrev nMR : List Str := ["_law_quern_here", "_law_heaps", "_law_lefts", "_law_ticks", "_law_colour", "_law_more", "_law_turn", "_law_some", "_law_line", "_law_other", "_law_tick", "_law_put", "_law_far", "_law_spot", "_law_many"]
theorem scMore : FnScope nMR ["_law_quern_here", "_law_heaps", "_law_lefts"] (defScope sMore) := ⟨rfl, rfl, rfl, by decide +kernel, rfl, by decide +kernel, by decide +kernel⟩
theorem ok_more {f C fi fa : Addr} {fd fdi fda : FuncData} (F : Fun K "_law_more_right" "_law_more_right" sMore f fd) (X : Txt mg) (T : LTxt K mg C)
    (G : Has P w K mg base 1 "_law_grind" ["_law_quern_here", "_law_many"] [] spGrind) (Gj : Has P w K mg base 6 "joined_heaps" ["one", "other"] [] spJoined)
    (Gh : Has P w K mg base 1 "_law_halved" ["_law_heaps", "_law_ticks"] [] spHalved) (Go : Has P w K mg base 1 "_law_odd" ["_law_line"] [] (spOdd C)) (Gs : Has P w K mg base 1 "_law_sum" ["_law_one", "_law_other"] [] spSum)
    (M : Mk K C fi) (Fi : FnOk P w K mg base CX0 7 fi fdi ["self", "heaps", "lefts"] (spInit C)) (bi : Binds K fdi ["self", "heaps", "lefts"] [])
    (Ma : Meth K C "advance" fa) (Fa : FnOk P w K mg base CX0 2 fa fda ["self"] (spAdvance C)) (ba : Binds K fda ["self"] []) : FnOk P w K mg base CX0 9 f fd ["_law_quern_here", "_law_heaps", "_law_lefts"] spMore := by
  refine F.ok scMore (fun vs H Q E h => ?_) (fun cdv A outer s H vs Q E hr h => ?_)
  · obtain ⟨q, a, l, rs, L, ns, c, n, rfl, _⟩ := h
    rfl
  · obtain ⟨q, a, l, rs, L, ns, c, n, rfl, hn, M0, dr, k⟩ := h
    have hu := hu_of hr
    have r1 : Room 1 _ := hr.mono (by decide)
    have r2 : Room 2 _ := hr.mono (by decide)
    have r6 : Room 6 _ := hr.mono (by decide)
    refine ⟨_, pss_cons (ps_par (by rfl) scMore.nd (i := 3) (j := 4) rfl rfl (by decide) rfl rfl (pa_cons (pe_op op_add pe_int (pe_has G r1 (by rfl) (pa_cons (pv 0) (pa_cons pe_int pa_nil))))
        (pa_cons (pe_ifExp (pt_cmpR (op_neD hr.units) (pv 1) (pe_lst pa_nil) (nomark _)) (pe_op op_mod (pe_callTy call_int1 (by rfl) X.int b_int (pa_cons (pe_ix ix_tup (pe_ix ix_list (pv 1) pe_int (fun _ _ => rfl)) pe_int (fun _ _ => rfl)) pa_nil)) pe_int) pe_int) pa_nil)) (by rfl))
      (pss_cons (ps_set (i := 5) scMore.nd rfl (Or.inl rfl) pe_dnewK)
      (pss_cons (ps_for PassesOwn.never rfl (pi_range1 (by rfl) X.range (pa_cons (pe_op op_add pe_int (pe_has G r1 (by rfl) (pa_cons (pv 0) (pa_cons pe_int pa_nil)))) pa_nil)) (pg_name (i := 6) scMore.nd rfl (Or.inl rfl))
        (pss_one (ps_dput hu (pv 5) (pe_op op_add (pe_op op_mul pe_int (pe_op op_sub (pe_has G r1 (by rfl) (pa_cons (pv 0) (pa_cons pe_int pa_nil))) pe_int)) (pv 4)) (pe_op op_mul (pe_op op_add pe_int (pe_has G r1 (by rfl) (pa_cons (pv 0) (pa_cons pe_int pa_nil)))) (pe_op op_shl pe_int (pv 3))) rfl)))
      (pss_cons (ps_setLc (i := 7) (own := [("_law_spot", 13), ("_law_many", 14)]) (g := gTup K 2 (gCons (gName 13) (gCons (gName 14) gNil))) rfl scMore.nd rfl rfl (sw_true rfl rfl rfl (by decide +kernel)) (pi_seq (pv 1)) (blkOk_by (own := [("_law_spot", 13), ("_law_many", 14)]) (N := nMR) (sc := defScope sMore) (by decide +kernel))
          (fun _ _ _ _ _ => pg_tup rfl (pgs_cons (pg_name (i := 13) scMore.nd rfl (Or.inl rfl)) (pgs_cons (pg_name (i := 14) scMore.nd rfl (Or.inl rfl)) pgs_nil)))
          (fun _ _ _ _ _ => pts_one (pt_cmpR op_lt (pv 14) (pe_op op_pow pe_int pe_int) (nomark _)))
          (fun _ _ _ _ _ => pe_tup (pa_cons (pv 13) (pa_cons (pv 14) pa_nil))))
      (pss_cons (ps_par (by rfl) scMore.nd (i := 8) (j := 9) rfl rfl (by decide) rfl rfl (pa_cons (pe_make M Fi hr (by rfl) T.mgC bi .nil pass0 (pa_cons (pv 7) (pa_cons (pv 2) pa_nil)))
        (pa_cons (pe_make M Fi hr (by rfl) T.mgC bi .nil pass0 (pa_cons (pe_has Gj r6 (by rfl) (pa_cons (pv 7) (pa_cons (LiI.pe_listItems rfl (pv 5) (by rfl) X.list b_list) pa_nil))) (pa_cons (pv 2) pa_nil))) pa_nil)) (by rfl))
      (pss_cons (ps_for PassesOwn.never rfl (pi_range1 (by rfl) X.range (pa_cons (pv 3) pa_nil)) (pg_name (i := 10) scMore.nd rfl (Or.inl rfl))
        (pss_cons (ps_if (PW.pt (pw_or (pt_cmpR (op_neD hr.units) (pe_has Go r1 (by rfl) (pa_cons (pv 8) pa_nil)) (pe_has Go r1 (by rfl) (pa_cons (pv 9) pa_nil)) (nomark _)) (pw_or1 (pt_cmpR (op_neD hr.units) (pe_fld (pv 8) rfl) (pe_fld (pv 9) rfl) (nomark _))))) pss_never pss_nil)
        (pss_cons (ps_if (pt_cmpR (op_neD hr.units) (pe_fld (pv 9) rfl) (pe_has Gs r1 (by rfl) (pa_cons (pe_callTy (call_dictT rfl) (by rfl) X.dict b_dict (pa_cons (pe_fld (pv 8) rfl) pa_nil)) (pa_cons (pe_has Gh r1 (by rfl) (pa_cons (LiI.pe_listItems rfl (pv 5) (by rfl) X.list b_list) (pa_cons (pv 10) pa_nil))) pa_nil))) (nomark _)) pss_never pss_nil)
        (pss_cons (ps_expr (pe_meth0 (pv 8) T.cl Ma Fa r2 ba .nil pass0))
        (pss_one (ps_expr (pe_meth0 (pv 9) T.cl Ma Fa r2 ba .nil pass0)))))))
      (pss_cons (ps_set (i := 11) scMore.nd rfl (Or.inl rfl) (pe_has Gh r1 (by rfl) (pa_cons (LiI.pe_listItems rfl (pv 5) (by rfl) X.list b_list) (pa_cons (pv 3) pa_nil))))
      (pss_cons (ps_set (i := 12) scMore.nd rfl (Or.inl rfl) (pe_callB (cr_maxKeys rfl) (by rfl) X.max b_max (pa_cons (pv 5) pa_nil)))
      (pss_one (ps_ret (pe_and (pe_cmpR (op_eqD hr.units) (pe_fld (pv 9) rfl) (pe_has Gs r1 (by rfl) (pa_cons (pe_callTy (call_dictT rfl) (by rfl) X.dict b_dict (pa_cons (pe_fld (pv 8) rfl) pa_nil)) (pa_cons (pv 11) pa_nil))) (nomark _))
        (pe_and (pe_cmpR (op_eqD hr.units) (pe_fld (pv 8) rfl) (pe_fld (pv 9) rfl) (nomark _))
        (pe_one (pe_cmpR op_eq (pe_dget hu (pv 11) (pe_op op_add (pv 12) (pv 3)) (fun _ _ => rfl)) (pe_op op_fdiv (pe_dget hu (pv 5) (pv 12) (fun _ _ => rfl)) (pe_op op_shl pe_int (pv 3))) (nomark _)))))))))))))), ?_⟩
    refine ⟨_, rfl, q, 6, n, rfl, by decide, by decide, by omega, M0.qu, fun H1 r r0 r1' q1 b1 => ⟨1, r, rfl, rfl, ?_⟩⟩
    have M1 := M0.grind b1 q1
    obtain ⟨t, et⟩ : ∃ t : Nat, 1 + r = (t : Int) := ⟨(1 + r).toNat, by omega⟩
    have t1 : 1 ≤ t := by omega
    have t6 : t ≤ 6 := by omega
    refine (fun (join : ∀ R : VK, (∀ (H3 : Hp) (col : Int), Mat H3 q (n + 1) a rs L l ns → OneC L col → 0 ≤ col → col ≤ 1 → R (.int col) H3) → tIf _ _ _ _ _ R) => join _ ?_) ?_
    rotate_left
    · intro R hR
      refine ⟨_, rfl, Nat.zero_le _, fun e he => ?_⟩
      have M2 := M1.on (same_new (o := HO.lst []) (Same.refl H1) he)
      refine ⟨.list (dP L), .list [], .lst (SqL.of M2.ha) (dp_P M2.hP), .lst (SqL.of upd_same) .nil, shaped_lP L, by decide +kernel, _, rfl, ?_⟩
      cases L with
      | nil =>
        refine ite2 (fun z => ?_) (fun z => ?_)
        · exact absurd z (by show ¬ (!PyData.eqv (.list []) (.list [])) = true; simp [PyData.eqv, PyData.eqvAll])
        · exact hR _ 0 M2 (fun p m => by cases m) (by decide) (by decide)
      | cons p L' =>
        refine ite2 (fun z => ?_) (fun z => ?_)
        · obtain ⟨r0', rs', e1⟩ : ∃ r rs', rs = r :: rs' := by
            have := prs_len M2.hP
            cases rs with
            | nil => simp at this
            | cons r rs' => exact ⟨r, rs', rfl⟩
          subst e1
          have hp0 : PrAt _ r0' p := (show Prs _ (r0' :: rs') (p :: L') from M2.hP) |> fun h => by cases h; assumption
          refine ⟨_, rfl, a, _, _, _, rfl, rfl, SqL.of M2.ha, atI_nat (j := 0) rfl, r0', _, _, _, rfl, rfl, SqT.of hp0, atI_nat (j := 0) rfl, .inl ⟨p.1, rfl, p.1, 2, rfl, rfl, (show (0 : Int) < 2 by decide), ?_⟩⟩
          have e2 : c = p.1 % 2 := (dr.one p (List.mem_cons_self ..)).symm
          exact hR _ _ M2 (e2 ▸ dr.one) (by omega) (by omega)
        · exact absurd (show (!PyData.eqv (.list (dP (p :: L'))) (.list [])) = true by simp [dP, PyData.eqv, PyData.eqvAll]) z
    intro H3 col M3 oc c0 c1
    refine ⟨_, _, rfl, ?_⟩
    clear M0 M1 q1 b1
    intro m hm
    have M4 := M3.on (same_new (o := HO.dK []) (Same.refl H3) hm)
    have m4 : upd H3 m (.dK []) m = some (.dK (dkI [])) := upd_same
    generalize upd H3 m (.dK []) = H4 at M4 m4
    clear hm M3
    refine ⟨_, rfl, q, 3, n + 1, rfl, by decide, by decide, by omega, M4.qu, fun H5 r' r0' r1'' q5 b5 => ⟨1, r', rfl, rfl, _, rfl, by omega, by omega, ?_⟩⟩
    have M5 := M4.grind b5 q5
    have m5 : H5 m = some (.dK (dkI [])) := by
      refine b5 _ _ m4 fun z => ?_
      obtain ⟨_, _, _, _, h1, _⟩ := M4.qu
      rw [z, h1] at m4
      cases m4
    refine for_range (lo := 0) (n := (1 + r').toNat) (fun i σ H' => ∃ (v6 : Option V) (D : PL), σ = [some (.ref q), some (.ref a), some (.ref l), some (.int (t : Int)), some (.int col), some (.ref m), v6, none, none, none, none, none, none, none, none] ∧ Mat H' q (n + 2 + 2 * (i : Int)) a rs L l ns ∧ H' m = some (.dK (dkI D)) ∧ D.length ≤ i ∧ (1 ≤ i → D ≠ []) ∧ Extra D col t)
      ⟨none, [], by rw [← et]; rfl, M5.mono (by omega), m5, Nat.zero_le _, (fun h => absurd h (by decide)), .nil⟩ ?_ ?_
    · rintro i σ H6 hi ⟨v6, D, rfl, M6, m6, lD, _, ex⟩
      have hqm : ∀ {H : Hp} {N : Int} {kvs}, QuernAt H q N → H m = some (.dK kvs) → m ≠ q := fun h e z => by
        obtain ⟨_, _, _, _, h1, _⟩ := h
        rw [z, h1] at e
        cases e
      refine ⟨_, rfl, q, 3, _, rfl, by decide, by decide, by omega, M6.qu, fun H7 x x0 x1 q7 b7 => ⟨1, x, rfl, rfl, _, rfl, 1, (t : Int), rfl, rfl, ⟨by omega, by omega, by decide⟩, 1 + x, 1 * 2 ^ (t : Int).toNat, rfl, rfl, .inl ⟨by omega, by omega⟩, ?_⟩⟩
      have M7 := M6.grind b7 q7
      have m7 := b7 _ _ m6 (hqm M6.qu m6)
      refine ⟨_, rfl, _, rfl, q, 9, _, rfl, by decide, by decide, by omega, M7.qu, fun H8 y y0 y1 q8 b8 => ⟨y, 4, rfl, rfl, 2, y - 4, rfl, rfl, .inl ⟨by decide, by decide⟩, _, rfl, 2 * (y - 4), col, rfl, rfl, m, _, rfl, DPut.k (k := Sum.inl (2 * (y - 4) + col)) (b8 _ _ m7 (hqm M7.qu m7)) (by rw [dk_len]; exact small1000 (by omega)), ?_⟩⟩
      have M8 := M7.grind b8 q8
      have m8 := b8 _ _ m7 (hqm M7.qu m7)
      have ev : V.int ((1 + x) * (1 * 2 ^ (t : Int).toNat)) = V.int ((1 + x) * 2 ^ t) := by rw [Int.toNat_natCast, Int.one_mul]
      refine ⟨_, putA D (2 * (y - 4) + col) ((1 + x) * 2 ^ t), rfl, (M8.put m8).mono (by omega), ?_, Nat.le_trans (length_put _ _ _) (by omega), fun _ => put_ne, ex.put t6 c0 c1 y0 y1 x0 x1⟩
      exact Eq.trans upd_same (congrArg (fun z => some (HO.dK z)) (Eq.trans (congrArg (putK (dkI D) (Sum.inl (2 * (y - 4) + col))) ev) (put_dk D (2 * (y - 4) + col) ((1 + x) * 2 ^ t))))
    · rintro σ H6 ⟨v6, D, rfl, M6, m6, lD, neD, ex⟩
      have M6 := M6.mono (m := n + 9) (by omega)
      have lD3 : D.length ≤ 3 := by omega
      have neD := neD (by omega)
      clear M4 M5 m5 q5 b5 m4
      refine ⟨_, rfl, lc_seq (K := K) (.inl (SqL.of M6.ha)) (fun i acc H' => ∃ qs : List Addr, acc = qs.map V.ref ∧ Prs H' qs (lowP (L.take i))) (fun D hD => ⟨[], rfl, .nil⟩) (fun J i x acc H' hJ hx hacc hs hl ⟨qs, eqs, pq⟩ => ?_) fun J acc H' hJ hacc hs hl ⟨qs, eqs, pq⟩ => ?_⟩
      · subst eqs
        obtain ⟨r9, p, rfl, e1, e2, e3⟩ := prs_get (prs_same hs M6.hP) hx
        have lt := ix_lt e2
        have lL := dr.len
        refine ⟨r9, _, rfl, SqT.of e3, rfl, _, _, rfl, _, _, rfl, rfl, rfl, _, rfl, 10, 50, rfl, rfl, ⟨by decide, by decide, by decide⟩, p.2, _, rfl, rfl, _, rfl, ?_⟩
        refine ite2 (fun z => ?_) (fun z => ?_)
        · have z' : p.2 < 10 ^ 50 := of_decide_eq_true z
          refine ⟨_, rfl, _, rfl, by show 2 ≤ sizeLine; decide, fun u hu2 => ?_⟩
          have w2 := same_new (o := HO.tup [.int p.1, .int p.2]) (Same.refl H') hu2
          refine LcI.push hJ (w2 _ _ hacc) (hs.trans w2) hl (by omega) ⟨qs ++ [u], by rw [List.map_append]; rfl, ?_⟩
          have e4 : lowP (L.take (i + 1)) = lowP (L.take i) ++ [p] := by
            unfold lowP
            rw [take_snoc e2, List.filter_append, List.filter_cons_of_pos (by rw [decide_eq_true z']), List.filter_nil]
          rw [e4]
          exact prs_keepT (tups_upd (w2 _ _ hacc) fun _ z => nomatch z) (prs_snoc upd_same (prs_same w2 pq))
        · have z' : ¬ p.2 < 10 ^ 50 := fun h => z (decide_eq_true h)
          refine LcI.skip hacc hs hl ⟨qs, rfl, ?_⟩
          have e4 : lowP (L.take (i + 1)) = lowP (L.take i) := by
            unfold lowP
            rw [take_snoc e2, List.filter_append, List.filter_cons_of_neg (by rw [decide_eq_false z']; decide), List.filter_nil, List.append_nil]
          rw [e4]
          exact pq
      subst eqs
      have full : L.take (rs.map V.ref).length = L := List.take_of_length_le (by rw [List.length_map, prs_len M6.hP]; omega)
      rw [full] at pq
      have oL := low_okL dr
      have lL : (lowP L).length ≤ 4 := Nat.le_trans (List.length_filter_le _ _) dr.len
      have ocL : OneC (lowP L) col := fun p m => oc p (List.mem_filter.mp m).1
      have lookL := low_look dr.nd
      generalize lowP L = L1 at pq oL lL ocL lookL
      have qu7 := M6.qu.same hs
      have m7 := hs _ _ m6
      have hl7 := hs _ _ M6.hl
      have oS : OkS ns := ⟨Nat.le_trans dr.ls (by decide), dr.lok, dr.lnd⟩
      have ls5 := dr.ls
      clear hs hl full hJ M6 m6 oc dr
      refine ⟨_, rfl, _, rfl, fun p1 dx1 hp1 hdx1 nd1 => ⟨p1, dx1, J, l, qs, L1, ns, col, rfl, upd_same, ?_⟩⟩
      have sA : Same H' (upd (upd H' dx1 (.own p1)) p1 (.ins C dx1 [])) := made_same hp1 hdx1 nd1 (same_but (Same.refl _))
      refine ⟨.inl (sA _ _ hacc), prs_same sA pq, oL, ocL, sA _ _ hl7, oS, fun H8 A S LA pA ascA pS srtS sb => ⟨rfl, ?_⟩⟩
      have s8 : Same H' H8 := made_same hp1 hdx1 nd1 sb
      clear sA sb hp1 hdx1 nd1
      refine ⟨_, rfl, _, rfl, m, _, rfl, s8 _ _ m7, fun H9 b ts s9 hb0 hb nb h9 p9 => ⟨J, b, qs, ts, L1, D, col, rfl, .inl (s9 _ _ (s8 _ _ hacc)), prs_same (s8.trans s9) pq, oL, .inl h9, prs_items p9, ex.heaps (by omega), ocL, ex.one, by omega, neD, fun x => ?_, fun H10 tj rs' Jn s10 tf pj ascJ lookJ okJ oneJ lenJ => ?_⟩⟩
      · have h1 := lookL x
        have h2 := extra_look ex x
        have h3 : (10 : Int) ^ 50 + 192 ≤ 10 ^ 60 := by decide +kernel
        omega
      refine ⟨_, rfl, fun p2 dx2 hp2 hdx2 nd2 => ⟨p2, dx2, tj, l, rs', Jn, ns, col, rfl, upd_same, ?_⟩⟩
      have s9 : Same H8 H9 := s9
      have s10' : Same H' H10 := s8.trans (s9.trans s10)
      have sB : Same H10 (upd (upd H10 dx2 (.own p2)) p2 (.ins C dx2 [])) := made_same hp2 hdx2 nd2 (same_but (Same.refl _))
      refine ⟨.inr (tf.same sB), prs_same sB pj, okJ, oneJ, sB _ _ (s10' _ _ hl7), oS, fun H11 B SB LB pB ascB pSB srtSB sb => ⟨rfl, ?_⟩⟩
      have s11 : Same H10 H11 := made_same hp2 hdx2 nd2 sb
      have LA10 := LA.same (s9.trans s10)
      have n12 : p2 ≠ p1 := by
        obtain ⟨dx, fs, e⟩ := LA10.ins
        exact (ne_of_none e hp2).symm
      have eS : S = SB := asc_ext (f := fun x => x) srtS srtSB fun x => by rw [pS.mem_iff, pSB.mem_iff]
      have BB : Both C H11 q (n + 9) m p1 p2 D 0 A B S := by
        refine ⟨qu7.same (s10'.trans s11), s11 _ _ (s10' _ _ m7), LA10.same s11, by rw [eS]; exact LB, ⟨ascA, fun p h => ?_⟩, ⟨ascB, fun p h => ?_⟩, fun x => ?_, ?_, ?_, ?_⟩
        · have := (oL.ok p (pA.mem_iff.mp h)).2.2.1
          omega
        · have := (okJ.ok p (pB.mem_iff.mp h)).2.2.1
          omega
        · show look B x = look A x + look D x
          rw [look_perm pB okJ.nd, lookJ, look_perm pA oL.nd]
        · rw [pA.length_eq]; omega
        · rw [pB.length_eq]; omega
        · rw [pS.length_eq]; omega
      clear LA LB pA pB ascA ascB pS pSB srtS srtSB sb s11 s10' LA10 s10 s9 s8 tf pj okJ oneJ lookJ lenJ ascJ hb h9 p9 hp2 hdx2 nd2 sB qu7 m7 hl7 hacc eS
      refine ⟨_, _, rfl, ?_⟩
      refine ⟨_, rfl, (t : Int), rfl, by omega, by omega, ?_⟩
      refine for_range (lo := 0) (n := (t : Int).toNat) (fun i σ H' => ∃ (v10 : Option V) (A B : PL) (S : List Int), σ = [some (.ref q), some (.ref a), some (.ref l), some (.int (t : Int)), some (.int col), some (.ref m), v6, some (.ref J), some (.ref p1), some (.ref p2), v10, none, none, none, none] ∧ Both C H' q (n + 9) m p1 p2 D i A B S)
        ⟨none, A, B, S, rfl, BB⟩ ?_ ?_
      · clear BB
        rintro i σ H1 hi ⟨v10, A, B, S, rfl, b⟩
        have hi5 : i ≤ 5 := by omega
        have hit : i < t := by omega
        have p5 : 2 ^ i ≤ 2 ^ 5 := Nat.pow_le_pow_right (by decide) hi5
        have l1 := b.lA
        have l2 := b.lB
        have l3 := b.lS
        obtain ⟨u, hu9⟩ : ∃ u, t - i = u + 1 := ⟨t - i - 1, by omega⟩
        have hM := halved_mult ex.mul i (by omega)
        rw [hu9, Int.pow_succ, Int.mul_comm] at hM
        have eo := laid_odds b.cA b.cB hM b.laid
        -- the odd heaps, the hands
        refine ⟨_, rfl, p1, A, S, _, rfl, b.la, by omega, fun H2 o1 s2 _ h2 => ⟨_, rfl, p2, B, S, _, rfl, b.lb.same s2, by omega, fun H3 o2 s3 _ h3 => ⟨.list (dI (odds A)), .list (dI (odds B)), .lst (SqL.of (s3 _ _ h2)) (dp_I _), .lst (SqL.of h3) (dp_I _), shaped_lI _, shaped_lI _, false, ?_, iteF ?_⟩⟩⟩
        · rw [eo, eqv_lI]
          rfl
        have b3 := b.same (Same.trans s2 s3)
        clear b s2 s3 h2 h3
        obtain ⟨dx1, th1, tl1, rs1, a1, a2, a3, a4⟩ := b3.la
        obtain ⟨dx2, th2, tl2, rs2, c1', c2, c3, c4⟩ := b3.lb
        refine ⟨_, rfl, p1, C, dx1, _, _, rfl, a1, T.cl, T.nL, lf_lefts _ _ _, _, rfl, p2, C, dx2, _, _, rfl, c1', T.cl, T.nL, lf_lefts _ _ _, .tuple (dI S), .tuple (dI S), .tup a4.sq (dp_I _), .tup c4.sq (dp_I _), shaped_tI _, shaped_tI _, false, ?_, iteF ?_⟩
        · rw [eqv_tI]
          rfl
        -- the heaps
        refine ⟨_, rfl, p2, C, dx2, _, _, rfl, c1', T.cl, T.nH, lf_heaps _ _ _, _, rfl, p1, C, dx1, _, _, rfl, a1, T.cl, T.nH, lf_heaps _ _ _, th1, rs1, A, rfl, a2, a3, fun d hd => ?_⟩
        have s4 := same_new (o := HO.dK (dkI (fromPairs A))) (Same.refl H3) hd
        have nA : fromPairs A = A := fromPairs_eq b3.cA.asc.nodup
        have hd4 : upd H3 d (.dK (dkI (fromPairs A))) d = some (.dK (dkI A)) := by rw [upd_same, nA]
        have b4 := b3.same s4
        have c24 := c2.same s4
        have c34 := prs_same s4 c3
        generalize upd H3 d (.dK (dkI (fromPairs A))) = H4 at hd4 b4 c24 c34
        clear s4 b3 a1 a2 a3 a4 c1' c2 c3 c4 hd
        refine ⟨_, rfl, m, _, rfl, b4.hm, fun H5 e ts s5 _ _ _ h5 p5' => ⟨_, rfl, e, ts, D, i, ?_, h5, prs_items p5', by omega, ex.nd, by omega, fun H6 g s6 _ h6 => ⟨d, g, A, halved D i, rfl, ?_, h6, by omega, ?_, fun H7 tt rs7 ns7 s7 t7 q7 asc7 mem7 => ⟨.tuple (dP B), .tuple (dP (ns7.map fun x => (x, look A x + look (halved D i) x))), .tup (xs := rs2.map V.ref) ?_ (dp_P (rs := rs2) (L := B) ?_), .tup t7.sq (dp_P q7), shaped_tP _, shaped_tP _, false, ?_, iteF ?_⟩⟩⟩⟩
        · show [V.ref e, V.int (0 + (i : Int))] = [V.ref e, V.int (i : Int)]
          rw [Int.zero_add]
        · exact s6 _ _ (s5 _ _ hd4)
        · have := halved_le (D := D) (n := i) (by omega) (by omega)
          omega
        · exact (((c24.same s5).same s6).same s7).sq
        · exact prs_same s7 (prs_same s6 (prs_same s5 c34))
        · rw [laid_sum b4.cA b4.cB (fun p h => hM.pos p h) b4.laid asc7 mem7, eqv_tP]
          rfl
        have b7 := ((b4.same s5).same s6).same s7
        clear b4 s5 s6 s7 t7 q7 asc7 mem7 c24 c34 hd4 h5 p5' h6
        -- both on by a tick
        obtain ⟨dx1, th1, tl1, rs1, a1, _⟩ := b7.la
        refine ⟨_, rfl, p1, dx1, _, rfl, a1, lf_no _ _ _ (by decide +kernel) (by decide +kernel) (by decide +kernel), p1, A, S, _, rfl, b7.la, by omega, by omega, fun H8 A' SA y1 y2 y3 y4 y5 y6 => ?_⟩
        have lb8 := b7.lb.keep a1 (fun _ _ z => nomatch z) (fun _ z => nomatch z) n12 y6
        obtain ⟨dx2, th2, tl2, rs2, c1', _⟩ := id lb8
        refine ⟨_, rfl, p2, dx2, _, rfl, c1', lf_no _ _ _ (by decide +kernel) (by decide +kernel) (by decide +kernel), p2, B, S, _, rfl, lb8, by omega, by omega, fun H9 B' SB z1 z2 z3 z4 z5 z6 => ?_⟩
        exact ⟨_, A', B', SA, rfl, b7.step n12 hit ex.mul ex.nd y1 y2 y3 y4 y5 y6 z1 z2 z3 z4 z5 z6⟩
      · clear BB
        rintro σ H1 ⟨v10, A, B, S, rfl, b⟩
        rw [Int.toNat_natCast] at b
        have p6 : 2 ^ t ≤ 2 ^ 6 := Nat.pow_le_pow_right (by decide) t6
        have l1 := b.lA
        have hM := halved_mult ex.mul t (Nat.le_refl _)
        refine ⟨_, rfl, m, _, rfl, b.hm, fun H5 e ts s5 _ _ _ h5 p5' => ⟨_, rfl, e, ts, D, t, rfl, h5, prs_items p5', by omega, ex.nd, t6, fun H6 g s6 _ h6 => ?_⟩⟩
        have b6 := (b.same s5).same s6
        clear b s5 s6 h5 p5'
        refine ⟨_, rfl, m, D, rfl, b6.hm, neD, fun far hf hmax => ?_⟩
        obtain ⟨dx1, th1, tl1, rs1, a1, a2, a3, a4⟩ := b6.la
        obtain ⟨dx2, th2, tl2, rs2, c1', c2, c3, c4⟩ := b6.lb
        refine ⟨_, rfl, p2, C, dx2, _, _, rfl, c1', T.cl, T.nH, lf_heaps _ _ _, _, rfl, p1, C, dx1, _, _, rfl, a1, T.cl, T.nH, lf_heaps _ _ _, th1, rs1, A, rfl, a2, a3, fun d hd => ?_⟩
        have s7 := same_new (o := HO.dK (dkI (fromPairs A))) (Same.refl H6) hd
        have nA : fromPairs A = A := fromPairs_eq b6.cA.asc.nodup
        refine ⟨_, rfl, d, g, A, halved D t, rfl, by rw [upd_same, nA], s7 _ _ h6, by omega, ?_, fun H8 tt rs7 ns7 s8 t7 q7 asc7 mem7 => ⟨.tuple (dP B), .tuple (dP (ns7.map fun x => (x, look A x + look (halved D t) x))), .tup ((c2.same s7).same s8).sq (dp_P (prs_same s8 (prs_same s7 c3))), .tup t7.sq (dp_P q7), shaped_tP _, shaped_tP _, true, ?_, iteT ?_⟩⟩
        · have := halved_le (D := D) (n := t) (by omega) t6
          omega
        · rw [laid_sum b6.cA b6.cB (fun p h => hM.pos p h) b6.laid asc7 mem7, eqv_tP]
        have S8 := Same.trans s7 s8
        refine ⟨_, rfl, p1, C, dx1, _, _, rfl, S8 _ _ a1, T.cl, T.nL, lf_lefts _ _ _, _, rfl, p2, C, dx2, _, _, rfl, S8 _ _ c1', T.cl, T.nL, lf_lefts _ _ _, .tuple (dI S), .tuple (dI S), .tup (a4.same S8).sq (dp_I _), .tup (c4.same S8).sq (dp_I _), shaped_tI _, shaped_tI _, true, ?_, iteT ?_⟩
        · rw [eqv_tI]
        obtain ⟨f1, _, f3⟩ := far_top ex.nd hf hmax t
        refine ⟨_, rfl, _, rfl, _, rfl, far, (t : Int), rfl, rfl, g, .int (look (halved D t) (far + t)), rfl, dget_dk (S8 _ _ h6) f1, _, rfl, _, rfl, m, .int (look D far), rfl, dget_dk (S8 _ _ b6.hm) hf, _, rfl, 1, (t : Int), rfl, rfl, ⟨by omega, by omega, by decide⟩, look D far, 1 * 2 ^ (t : Int).toNat, rfl, rfl, ?_, rfl, ?_⟩
        · have e : (1 : Int) * 2 ^ (t : Int).toNat = 2 ^ t := by rw [Int.toNat_natCast, Int.one_mul]
          rw [e]
          have : t = 0 ∨ t = 1 ∨ t = 2 ∨ t = 3 ∨ t = 4 ∨ t = 5 ∨ t = 6 := by omega
          rcases this with h | h | h | h | h | h | h <;> subst h <;> exact ⟨by decide, by decide⟩
        · have e : decide (V.int (look (halved D t) (far + t)) = V.int (look D far / (1 * 2 ^ (t : Int).toNat))) = true := by
            rw [Int.toNat_natCast, Int.one_mul, f3]
            exact decide_eq_true rfl
          have kk := k _ (b6.qu.same S8)
          rw [← e] at kk
          exact kk
end
end NK
namespace NK
open PySem PySem.Spec PyProof.Rows L2 L2.DX
section
variable {P : Program} {w : World} {K : PySem.W.Frag} {mg : Str → Option Value} {base : Heap}
/-! ### law -/
def spLaw (K : PySem.W.Frag) : Sp := fun vs H Q _ => ∃ (a : Addr) (ns : List Int), vs = [.ref a] ∧ SqL K H a (ns.map V.int) ∧ ns.length ≤ 63 ∧ ∀ H' : Hp, Q (.bl true) H'
abbrev nLW : List Str := ["_law_script", "_law_quern_here", "_law_turn", "_law_heaps", "_law_lefts"]
theorem scLaw : FnScope nLW ["_law_script"] (defScope sLaw) := ⟨rfl, rfl, rfl, by decide +kernel, rfl, by decide +kernel, by decide +kernel⟩
theorem ok_law {f : Addr} {fd : FuncData} (F : Fun K "law" "law" sLaw f fd) (X : Txt mg) (Gq : Has P w K mg base 1 "_law_quern" ["_law_script"] [] (spQuern K))
    (Gs : Has P w K mg base 3 "_law_start" ["_law_quern_here", "_law_most"] [] spStart) (Gm : Has P w K mg base 9 "_law_more_right" ["_law_quern_here", "_law_heaps", "_law_lefts"] [] spMore) : FnOk P w K mg base CX0 10 f fd ["_law_script"] (spLaw K) := by
  refine F.ok scLaw (fun vs H Q E h => ?_) (fun cdv A outer s H vs Q E hr h => ?_)
  · obtain ⟨a, ns, rfl, _⟩ := h
    rfl
  · obtain ⟨a, ns, rfl, hS, hz, k⟩ := h
    refine ⟨_, pss_cons (ps_set (i := 1) scLaw.nd rfl (Or.inl rfl) (pe_has Gq (hr.mono (by decide)) (by rfl) (pa_cons (pv 0) pa_nil)))
      (pss_cons (ps_for PassesOwn.never rfl (pi_range1 (by rfl) X.range (pa_cons pe_int pa_nil)) (pg_name (i := 2) scLaw.nd rfl (Or.inl rfl))
        (pss_cons (ps_asg (pe_has Gs (hr.mono (by decide)) (by rfl) (pa_cons (pv 1) (pa_cons pe_int pa_nil))) (pg_tup rfl (pgs_cons (pg_name (i := 3) scLaw.nd rfl (Or.inl rfl)) (pgs_cons (pg_name (i := 4) scLaw.nd rfl (Or.inl rfl)) pgs_nil))))
        (pss_one (ps_if (pt_not (pt_val (pe_has Gm hr (by rfl) (pa_cons (pv 1) (pa_cons (pv 3) (pa_cons (pv 4) pa_nil)))))) pss_never pss_nil))))
      (pss_one (ps_ret pe_bl))), ?_⟩
    refine ⟨_, rfl, a, ns, rfl, hS, hz, fun H1 q s1 _ q1 => ⟨3, rfl, by decide, by decide, ?_⟩⟩
    refine for_range (lo := 0) (n := (3 : Int).toNat) (fun i σ H' => ∃ v2 v3 v4 : Option V, σ = [some (.ref a), some (.ref q), v2, v3, v4] ∧ QuernAt H' q (70 * (i : Int)))
      ⟨none, none, none, rfl, q1.mono (by omega)⟩ ?_ ?_
    · rintro i σ H2 hi ⟨v2, v3, v4, rfl, q2⟩
      have i3 : i < 3 := hi
      refine ⟨_, rfl, q, _, rfl, by omega, q2, fun H3 t b l rs L ms c b3 q3 ht hb hP hl dr nb nl => ?_⟩
      refine ⟨t, _, rfl, SqT.of ht, rfl, _, _, rfl, _, _, rfl, rfl, ?_⟩
      refine ⟨_, rfl, _, rfl, _, rfl, q, b, l, rs, L, ms, c, _, rfl, by omega, ⟨q3, hb, hP, hl, quern_new q2 nb, quern_new q2 nl⟩, dr, fun H4 q4 => ⟨true, rfl, iteF ?_⟩⟩
      exact ⟨_, _, _, rfl, q4.mono (by omega)⟩
    · rintro σ H2 ⟨v2, v3, v4, rfl, q2⟩
      exact k H2
end
end NK
namespace NK
open PySem PySem.Spec PyProof.Rows L2 L2.DX
/-- all that the top wrote, gathered; each def's promise in its turn -/
theorem all_mk {l : PySem.W.OpenLaw} {w : World} {K : PySem.W.Frag} {h : Heap} {mg : Str → Option Value} {fa C tL : Addr} {oL : Obj} {zL : List Value} {nL : Nat} (KX : K.In h) (GN : h.Ns mainGlobals mg) (hfa : mg "law" = some (.ref fa))
    {f_isInt : Addr} {oc_isInt kV_isInt dc_isInt pm_isInt cd_isInt ct_isInt : Value} {od_isInt an_isInt : Option Addr} {sl_isInt : Array (Option Value)}
    {f_within : Addr} {oc_within kV_within dc_within pm_within cd_within ct_within : Value} {od_within an_within : Option Addr} {sl_within : Array (Option Value)}
    {f_areInts : Addr} {oc_areInts kV_areInts dc_areInts pm_areInts cd_areInts ct_areInts : Value} {od_areInts an_areInts : Option Addr} {sl_areInts : Array (Option Value)}
    {f_isHeap : Addr} {oc_isHeap kV_isHeap dc_isHeap pm_isHeap cd_isHeap ct_isHeap : Value} {od_isHeap an_isHeap : Option Addr} {sl_isHeap : Array (Option Value)}
    {f_areHeaps : Addr} {oc_areHeaps kV_areHeaps dc_areHeaps pm_areHeaps cd_areHeaps ct_areHeaps : Value} {od_areHeaps an_areHeaps : Option Addr} {sl_areHeaps : Array (Option Value)}
    {f_kept : Addr} {oc_kept kV_kept dc_kept pm_kept cd_kept ct_kept : Value} {od_kept an_kept : Option Addr} {sl_kept : Array (Option Value)}
    {f_colourIn : Addr} {oc_colourIn kV_colourIn dc_colourIn pm_colourIn cd_colourIn ct_colourIn : Value} {od_colourIn an_colourIn : Option Addr} {sl_colourIn : Array (Option Value)}
    {f_spots : Addr} {oc_spots kV_spots dc_spots pm_spots cd_spots ct_spots : Value} {od_spots an_spots : Option Addr} {sl_spots : Array (Option Value)}
    {f_needHeaps : Addr} {oc_needHeaps kV_needHeaps dc_needHeaps pm_needHeaps cd_needHeaps ct_needHeaps : Value} {od_needHeaps an_needHeaps : Option Addr} {sl_needHeaps : Array (Option Value)}
    {f_needColour : Addr} {oc_needColour kV_needColour dc_needColour pm_needColour cd_needColour ct_needColour : Value} {od_needColour an_needColour : Option Addr} {sl_needColour : Array (Option Value)}
    {f_needLefts : Addr} {oc_needLefts kV_needLefts dc_needLefts pm_needLefts cd_needLefts ct_needLefts : Value} {od_needLefts an_needLefts : Option Addr} {sl_needLefts : Array (Option Value)}
    {f_needStart : Addr} {oc_needStart kV_needStart dc_needStart pm_needStart cd_needStart ct_needStart : Value} {od_needStart an_needStart : Option Addr} {sl_needStart : Array (Option Value)}
    {f_joined : Addr} {oc_joined kV_joined dc_joined pm_joined cd_joined ct_joined : Value} {od_joined an_joined : Option Addr} {sl_joined : Array (Option Value)}
    {f_sent : Addr} {oc_sent kV_sent dc_sent pm_sent cd_sent ct_sent : Value} {od_sent an_sent : Option Addr} {sl_sent : Array (Option Value)}
    {f_quern : Addr} {oc_quern kV_quern dc_quern pm_quern cd_quern ct_quern : Value} {od_quern an_quern : Option Addr} {sl_quern : Array (Option Value)}
    {f_grind : Addr} {oc_grind kV_grind dc_grind pm_grind cd_grind ct_grind : Value} {od_grind an_grind : Option Addr} {sl_grind : Array (Option Value)}
    {f_grain : Addr} {oc_grain kV_grain dc_grain pm_grain cd_grain ct_grain : Value} {od_grain an_grain : Option Addr} {sl_grain : Array (Option Value)}
    {f_start : Addr} {oc_start kV_start dc_start pm_start cd_start ct_start : Value} {od_start an_start : Option Addr} {sl_start : Array (Option Value)}
    {f_halved : Addr} {oc_halved kV_halved dc_halved pm_halved cd_halved ct_halved : Value} {od_halved an_halved : Option Addr} {sl_halved : Array (Option Value)}
    {f_odd : Addr} {oc_odd kV_odd dc_odd pm_odd cd_odd ct_odd : Value} {od_odd an_odd : Option Addr} {sl_odd : Array (Option Value)}
    {f_sum : Addr} {oc_sum kV_sum dc_sum pm_sum cd_sum ct_sum : Value} {od_sum an_sum : Option Addr} {sl_sum : Array (Option Value)}
    {f_more : Addr} {oc_more kV_more dc_more pm_more cd_more ct_more : Value} {od_more an_more : Option Addr} {sl_more : Array (Option Value)}
    {f_law : Addr} {oc_law kV_law dc_law pm_law cd_law ct_law : Value} {od_law an_law : Option Addr} {sl_law : Array (Option Value)}
    {f_init : Addr} {oc_init kV_init dc_init pm_init cd_init ct_init : Value} {od_init an_init : Option Addr} {sl_init : Array (Option Value)}
    {f_adv : Addr} {oc_adv kV_adv dc_adv pm_adv cd_adv ct_adv : Value} {od_adv an_adv : Option Addr} {sl_adv : Array (Option Value)}
    {t1 t2 t3 t4 : Tok}
    (aC : PySem.W.nsIn K mainGlobals "Line" = some (some (.ref C)))
    (m1 : PySem.W.nsIn K mainGlobals "MOST_HEAPS" = some (some (.int 60 t1)))
    (m2 : PySem.W.nsIn K mainGlobals "MOST_LEFTS" = some (some (.int 400 t2)))
    (m3 : PySem.W.nsIn K mainGlobals "FARTHEST" = some (some (.int 1000000 t3)))
    (m4 : PySem.W.nsIn K mainGlobals "MOST_CHIPS" = some (some (.int (10 ^ 60) t4)))
    (a_isInt : PySem.W.nsIn K mainGlobals "is_integer" = some (some (.ref f_isInt))) (l_isInt : K.lookup f_isInt = some ⟨oc_isInt, od_isInt, .func (PySem.W.fnOf "is_integer" "is_integer" (defArgs sIsInt) (defBody sIsInt) (defScope sIsInt) .none kV_isInt dc_isInt pm_isInt an_isInt cd_isInt ct_isInt), sl_isInt⟩) (c_isInt : PySem.W.codeIn K cd_isInt "is_integer" = true) (k_isInt : PySem.W.keepIn K (.ref f_isInt) = true)
    (a_within : PySem.W.nsIn K mainGlobals "is_within" = some (some (.ref f_within))) (l_within : K.lookup f_within = some ⟨oc_within, od_within, .func (PySem.W.fnOf "is_within" "is_within" (defArgs sWithin) (defBody sWithin) (defScope sWithin) .none kV_within dc_within pm_within an_within cd_within ct_within), sl_within⟩) (c_within : PySem.W.codeIn K cd_within "is_within" = true) (k_within : PySem.W.keepIn K (.ref f_within) = true)
    (a_areInts : PySem.W.nsIn K mainGlobals "are_integers" = some (some (.ref f_areInts))) (l_areInts : K.lookup f_areInts = some ⟨oc_areInts, od_areInts, .func (PySem.W.fnOf "are_integers" "are_integers" (defArgs sAreInts) (defBody sAreInts) (defScope sAreInts) .none kV_areInts dc_areInts pm_areInts an_areInts cd_areInts ct_areInts), sl_areInts⟩) (c_areInts : PySem.W.codeIn K cd_areInts "are_integers" = true) (k_areInts : PySem.W.keepIn K (.ref f_areInts) = true)
    (a_isHeap : PySem.W.nsIn K mainGlobals "is_heap" = some (some (.ref f_isHeap))) (l_isHeap : K.lookup f_isHeap = some ⟨oc_isHeap, od_isHeap, .func (PySem.W.fnOf "is_heap" "is_heap" (defArgs sIsHeap) (defBody sIsHeap) (defScope sIsHeap) .none kV_isHeap dc_isHeap pm_isHeap an_isHeap cd_isHeap ct_isHeap), sl_isHeap⟩) (c_isHeap : PySem.W.codeIn K cd_isHeap "is_heap" = true) (k_isHeap : PySem.W.keepIn K (.ref f_isHeap) = true)
    (a_areHeaps : PySem.W.nsIn K mainGlobals "are_heaps" = some (some (.ref f_areHeaps))) (l_areHeaps : K.lookup f_areHeaps = some ⟨oc_areHeaps, od_areHeaps, .func (PySem.W.fnOf "are_heaps" "are_heaps" (defArgs sAreHeaps) (defBody sAreHeaps) (defScope sAreHeaps) .none kV_areHeaps dc_areHeaps pm_areHeaps an_areHeaps cd_areHeaps ct_areHeaps), sl_areHeaps⟩) (c_areHeaps : PySem.W.codeIn K cd_areHeaps "are_heaps" = true) (k_areHeaps : PySem.W.keepIn K (.ref f_areHeaps) = true)
    (a_kept : PySem.W.nsIn K mainGlobals "kept_heaps" = some (some (.ref f_kept))) (l_kept : K.lookup f_kept = some ⟨oc_kept, od_kept, .func (PySem.W.fnOf "kept_heaps" "kept_heaps" (defArgs sKept) (defBody sKept) (defScope sKept) .none kV_kept dc_kept pm_kept an_kept cd_kept ct_kept), sl_kept⟩) (c_kept : PySem.W.codeIn K cd_kept "kept_heaps" = true) (k_kept : PySem.W.keepIn K (.ref f_kept) = true)
    (a_colourIn : PySem.W.nsIn K mainGlobals "colour_in" = some (some (.ref f_colourIn))) (l_colourIn : K.lookup f_colourIn = some ⟨oc_colourIn, od_colourIn, .func (PySem.W.fnOf "colour_in" "colour_in" (defArgs sColourIn) (defBody sColourIn) (defScope sColourIn) .none kV_colourIn dc_colourIn pm_colourIn an_colourIn cd_colourIn ct_colourIn), sl_colourIn⟩) (c_colourIn : PySem.W.codeIn K cd_colourIn "colour_in" = true) (k_colourIn : PySem.W.keepIn K (.ref f_colourIn) = true)
    (a_spots : PySem.W.nsIn K mainGlobals "spots_of" = some (some (.ref f_spots))) (l_spots : K.lookup f_spots = some ⟨oc_spots, od_spots, .func (PySem.W.fnOf "spots_of" "spots_of" (defArgs sSpots) (defBody sSpots) (defScope sSpots) .none kV_spots dc_spots pm_spots an_spots cd_spots ct_spots), sl_spots⟩) (c_spots : PySem.W.codeIn K cd_spots "spots_of" = true) (k_spots : PySem.W.keepIn K (.ref f_spots) = true)
    (a_needHeaps : PySem.W.nsIn K mainGlobals "need_heaps" = some (some (.ref f_needHeaps))) (l_needHeaps : K.lookup f_needHeaps = some ⟨oc_needHeaps, od_needHeaps, .func (PySem.W.fnOf "need_heaps" "need_heaps" (defArgs sNeedHeaps) (defBody sNeedHeaps) (defScope sNeedHeaps) .none kV_needHeaps dc_needHeaps pm_needHeaps an_needHeaps cd_needHeaps ct_needHeaps), sl_needHeaps⟩) (c_needHeaps : PySem.W.codeIn K cd_needHeaps "need_heaps" = true) (k_needHeaps : PySem.W.keepIn K (.ref f_needHeaps) = true)
    (a_needColour : PySem.W.nsIn K mainGlobals "need_colour" = some (some (.ref f_needColour))) (l_needColour : K.lookup f_needColour = some ⟨oc_needColour, od_needColour, .func (PySem.W.fnOf "need_colour" "need_colour" (defArgs sNeedColour) (defBody sNeedColour) (defScope sNeedColour) .none kV_needColour dc_needColour pm_needColour an_needColour cd_needColour ct_needColour), sl_needColour⟩) (c_needColour : PySem.W.codeIn K cd_needColour "need_colour" = true) (k_needColour : PySem.W.keepIn K (.ref f_needColour) = true)
    (a_needLefts : PySem.W.nsIn K mainGlobals "need_lefts" = some (some (.ref f_needLefts))) (l_needLefts : K.lookup f_needLefts = some ⟨oc_needLefts, od_needLefts, .func (PySem.W.fnOf "need_lefts" "need_lefts" (defArgs sNeedLefts) (defBody sNeedLefts) (defScope sNeedLefts) (.ref tL) kV_needLefts dc_needLefts pm_needLefts an_needLefts cd_needLefts ct_needLefts), sl_needLefts⟩) (c_needLefts : PySem.W.codeIn K cd_needLefts "need_lefts" = true) (k_needLefts : PySem.W.keepIn K (.ref f_needLefts) = true)
    (a_needStart : PySem.W.nsIn K mainGlobals "need_start" = some (some (.ref f_needStart))) (l_needStart : K.lookup f_needStart = some ⟨oc_needStart, od_needStart, .func (PySem.W.fnOf "need_start" "need_start" (defArgs sNeedStart) (defBody sNeedStart) (defScope sNeedStart) .none kV_needStart dc_needStart pm_needStart an_needStart cd_needStart ct_needStart), sl_needStart⟩) (c_needStart : PySem.W.codeIn K cd_needStart "need_start" = true) (k_needStart : PySem.W.keepIn K (.ref f_needStart) = true)
    (a_joined : PySem.W.nsIn K mainGlobals "joined_heaps" = some (some (.ref f_joined))) (l_joined : K.lookup f_joined = some ⟨oc_joined, od_joined, .func (PySem.W.fnOf "joined_heaps" "joined_heaps" (defArgs sJoined) (defBody sJoined) (defScope sJoined) .none kV_joined dc_joined pm_joined an_joined cd_joined ct_joined), sl_joined⟩) (c_joined : PySem.W.codeIn K cd_joined "joined_heaps" = true) (k_joined : PySem.W.keepIn K (.ref f_joined) = true)
    (a_sent : PySem.W.nsIn K mainGlobals "sent_on" = some (some (.ref f_sent))) (l_sent : K.lookup f_sent = some ⟨oc_sent, od_sent, .func (PySem.W.fnOf "sent_on" "sent_on" (defArgs sSent) (defBody sSent) (defScope sSent) .none kV_sent dc_sent pm_sent an_sent cd_sent ct_sent), sl_sent⟩) (c_sent : PySem.W.codeIn K cd_sent "sent_on" = true) (k_sent : PySem.W.keepIn K (.ref f_sent) = true)
    (a_quern : PySem.W.nsIn K mainGlobals "_law_quern" = some (some (.ref f_quern))) (l_quern : K.lookup f_quern = some ⟨oc_quern, od_quern, .func (PySem.W.fnOf "_law_quern" "_law_quern" (defArgs sQuern) (defBody sQuern) (defScope sQuern) .none kV_quern dc_quern pm_quern an_quern cd_quern ct_quern), sl_quern⟩) (c_quern : PySem.W.codeIn K cd_quern "_law_quern" = true) (k_quern : PySem.W.keepIn K (.ref f_quern) = true)
    (a_grind : PySem.W.nsIn K mainGlobals "_law_grind" = some (some (.ref f_grind))) (l_grind : K.lookup f_grind = some ⟨oc_grind, od_grind, .func (PySem.W.fnOf "_law_grind" "_law_grind" (defArgs sGrind) (defBody sGrind) (defScope sGrind) .none kV_grind dc_grind pm_grind an_grind cd_grind ct_grind), sl_grind⟩) (c_grind : PySem.W.codeIn K cd_grind "_law_grind" = true) (k_grind : PySem.W.keepIn K (.ref f_grind) = true)
    (a_grain : PySem.W.nsIn K mainGlobals "_law_grain" = some (some (.ref f_grain))) (l_grain : K.lookup f_grain = some ⟨oc_grain, od_grain, .func (PySem.W.fnOf "_law_grain" "_law_grain" (defArgs sGrain) (defBody sGrain) (defScope sGrain) .none kV_grain dc_grain pm_grain an_grain cd_grain ct_grain), sl_grain⟩) (c_grain : PySem.W.codeIn K cd_grain "_law_grain" = true) (k_grain : PySem.W.keepIn K (.ref f_grain) = true)
    (a_start : PySem.W.nsIn K mainGlobals "_law_start" = some (some (.ref f_start))) (l_start : K.lookup f_start = some ⟨oc_start, od_start, .func (PySem.W.fnOf "_law_start" "_law_start" (defArgs sStart) (defBody sStart) (defScope sStart) .none kV_start dc_start pm_start an_start cd_start ct_start), sl_start⟩) (c_start : PySem.W.codeIn K cd_start "_law_start" = true) (k_start : PySem.W.keepIn K (.ref f_start) = true)
    (a_halved : PySem.W.nsIn K mainGlobals "_law_halved" = some (some (.ref f_halved))) (l_halved : K.lookup f_halved = some ⟨oc_halved, od_halved, .func (PySem.W.fnOf "_law_halved" "_law_halved" (defArgs sHalved) (defBody sHalved) (defScope sHalved) .none kV_halved dc_halved pm_halved an_halved cd_halved ct_halved), sl_halved⟩) (c_halved : PySem.W.codeIn K cd_halved "_law_halved" = true) (k_halved : PySem.W.keepIn K (.ref f_halved) = true)
    (a_odd : PySem.W.nsIn K mainGlobals "_law_odd" = some (some (.ref f_odd))) (l_odd : K.lookup f_odd = some ⟨oc_odd, od_odd, .func (PySem.W.fnOf "_law_odd" "_law_odd" (defArgs sOdd) (defBody sOdd) (defScope sOdd) .none kV_odd dc_odd pm_odd an_odd cd_odd ct_odd), sl_odd⟩) (c_odd : PySem.W.codeIn K cd_odd "_law_odd" = true) (k_odd : PySem.W.keepIn K (.ref f_odd) = true)
    (a_sum : PySem.W.nsIn K mainGlobals "_law_sum" = some (some (.ref f_sum))) (l_sum : K.lookup f_sum = some ⟨oc_sum, od_sum, .func (PySem.W.fnOf "_law_sum" "_law_sum" (defArgs sSum) (defBody sSum) (defScope sSum) .none kV_sum dc_sum pm_sum an_sum cd_sum ct_sum), sl_sum⟩) (c_sum : PySem.W.codeIn K cd_sum "_law_sum" = true) (k_sum : PySem.W.keepIn K (.ref f_sum) = true)
    (a_more : PySem.W.nsIn K mainGlobals "_law_more_right" = some (some (.ref f_more))) (l_more : K.lookup f_more = some ⟨oc_more, od_more, .func (PySem.W.fnOf "_law_more_right" "_law_more_right" (defArgs sMore) (defBody sMore) (defScope sMore) .none kV_more dc_more pm_more an_more cd_more ct_more), sl_more⟩) (c_more : PySem.W.codeIn K cd_more "_law_more_right" = true) (k_more : PySem.W.keepIn K (.ref f_more) = true)
    (lT : K.lookup tL = some oL) (dT : oL.data = .seq zL.toArray nL) (vT : Vals [V.str "lefts"] zL)
    (a_law : PySem.W.nsIn K mainGlobals "law" = some (some (.ref f_law))) (l_law : K.lookup f_law = some ⟨oc_law, od_law, .func (PySem.W.fnOf "law" "law" (defArgs sLaw) (defBody sLaw) (defScope sLaw) .none kV_law dc_law pm_law an_law cd_law ct_law), sl_law⟩) (c_law : PySem.W.codeIn K cd_law "law" = true) (k_law : PySem.W.keepIn K (.ref f_law) = true)
    (aInit : PySem.W.findIn K (.ref C) "__init__" = some (some (.ref f_init))) (iInit : PySem.W.isFn K (.ref f_init) = true) (l_init : K.lookup f_init = some ⟨oc_init, od_init, .func (PySem.W.fnOf "__init__" "Line.__init__" (defArgs sInit) (defBody sInit) (defScope sInit) .none kV_init dc_init pm_init an_init cd_init ct_init), sl_init⟩) (c_init : PySem.W.codeIn K cd_init "Line.__init__" = true) (k_init : PySem.W.keepIn K (.ref f_init) = true)
    (aAdv : PySem.W.findIn K (.ref C) "advance" = some (some (.ref f_adv))) (iAdv : PySem.W.isFn K (.ref f_adv) = true) (l_adv : K.lookup f_adv = some ⟨oc_adv, od_adv, .func (PySem.W.fnOf "advance" "Line.advance" (defArgs sAdvance) (defBody sAdvance) (defScope sAdvance) .none kV_adv dc_adv pm_adv an_adv cd_adv ct_adv), sl_adv⟩) (c_adv : PySem.W.codeIn K cd_adv "Line.advance" = true) (k_adv : PySem.W.keepIn K (.ref f_adv) = true)
    (pg : PySem.W.plainGet K C Str.empty = true) (hd : PySem.W.hasDictIn K C = true) (po : PySem.W.plainOver K C = true) (sa : PySem.W.findIn K (.ref C) "__setattr__" = some (some (.builtin "object.__setattr__"))) (mk : PySem.W.makesIn K C = true) (kC : PySem.W.keepIn K (.ref C) = true)
    (nT : PySem.W.findIn K (.ref C) "tick" = some none) (nH : PySem.W.findIn K (.ref C) "heaps" = some none) (nE : PySem.W.findIn K (.ref C) "lefts" = some none)
    (z_isinstance : PySem.W.nsIn K mainGlobals "isinstance" = some none) (z_int : PySem.W.nsIn K mainGlobals "int" = some none) (z_bool : PySem.W.nsIn K mainGlobals "bool" = some none) (z_list : PySem.W.nsIn K mainGlobals "list" = some none) (z_tuple : PySem.W.nsIn K mainGlobals "tuple" = some none) (z_len : PySem.W.nsIn K mainGlobals "len" = some none) (z_all : PySem.W.nsIn K mainGlobals "all" = some none) (z_set : PySem.W.nsIn K mainGlobals "set" = some none) (z_sorted : PySem.W.nsIn K mainGlobals "sorted" = some none) (z_max : PySem.W.nsIn K mainGlobals "max" = some none) (z_range : PySem.W.nsIn K mainGlobals "range" = some none) (z_dict : PySem.W.nsIn K mainGlobals "dict" = some none) (z_abs : PySem.W.nsIn K mainGlobals "abs" = some none) :
    ∃ fd : FuncData, (∀ (s : Shared) (v : Value), BindsTo s fd ⟨[v], []⟩ [("_law_script", v)]) ∧ ∀ base : Heap, K.In base → base.Ns mainGlobals mg → FnOk l.prog w K mg base CX0 10 fa fd ["_law_script"] (spLaw K) := by
  have e := hfa.symm.trans (PySem.W.mg_of KX GN a_law)
  cases e
  have X : Txt mg := ⟨PySem.W.mg_none_of KX GN z_isinstance, PySem.W.mg_none_of KX GN z_int, PySem.W.mg_none_of KX GN z_bool, PySem.W.mg_none_of KX GN z_list, PySem.W.mg_none_of KX GN z_tuple, PySem.W.mg_none_of KX GN z_len, PySem.W.mg_none_of KX GN z_all, PySem.W.mg_none_of KX GN z_set, PySem.W.mg_none_of KX GN z_sorted, PySem.W.mg_none_of KX GN z_max, PySem.W.mg_none_of KX GN z_range, PySem.W.mg_none_of KX GN z_dict, PySem.W.mg_none_of KX GN z_abs, ⟨_, PySem.W.mg_of KX GN m1⟩, ⟨_, PySem.W.mg_of KX GN m2⟩, ⟨_, PySem.W.mg_of KX GN m3⟩, ⟨_, PySem.W.mg_of KX GN m4⟩⟩
  have T : LTxt K mg C := ⟨⟨pg, hd, po, sa⟩, nT, nH, nE, PySem.W.mg_of KX GN aC⟩
  refine ⟨PySem.W.fnOf "law" "law" (defArgs sLaw) (defBody sLaw) (defScope sLaw) .none kV_law dc_law pm_law an_law cd_law ct_law, fun s v => .of_eq rfl, fun base _ _ => ?_⟩
  have F_isInt := fun_mk (st := sIsInt) l_isInt c_isInt k_isInt
  have G_isInt : Has l.prog w K mg base 1 "is_integer" ["value"] [] spIsInt := has_of F_isInt (PySem.W.mg_of KX GN a_isInt) (F_isInt.binds (ps := ["value"]) fun _ _ _ _ _ _ us hl => match us, hl with | [_], _ => rfl) (ok_isInt F_isInt X)
  have F_within := fun_mk (st := sWithin) l_within c_within k_within
  have G_within : Has l.prog w K mg base 2 "is_within" ["value", "least", "most"] [] spWithin := has_of F_within (PySem.W.mg_of KX GN a_within) (F_within.binds (ps := ["value", "least", "most"]) fun _ _ _ _ _ _ us hl => match us, hl with | [_, _, _], _ => rfl) (ok_within F_within G_isInt)
  have F_areInts := fun_mk (st := sAreInts) l_areInts c_areInts k_areInts
  have G_areInts : Has l.prog w K mg base 2 "are_integers" ["value", "many"] [] spAreInts := has_of F_areInts (PySem.W.mg_of KX GN a_areInts) (F_areInts.binds (ps := ["value", "many"]) fun _ _ _ _ _ _ us hl => match us, hl with | [_, _], _ => rfl) (ok_areInts F_areInts X G_isInt)
  have F_isHeap := fun_mk (st := sIsHeap) l_isHeap c_isHeap k_isHeap
  have G_isHeap : Has l.prog w K mg base 3 "is_heap" ["value"] [] spIsHeap := has_of F_isHeap (PySem.W.mg_of KX GN a_isHeap) (F_isHeap.binds (ps := ["value"]) fun _ _ _ _ _ _ us hl => match us, hl with | [_], _ => rfl) (ok_isHeap F_isHeap X G_areInts G_within)
  have F_areHeaps := fun_mk (st := sAreHeaps) l_areHeaps c_areHeaps k_areHeaps
  have G_areHeaps : Has l.prog w K mg base 4 "are_heaps" ["value"] [] spAreHeaps := has_of F_areHeaps (PySem.W.mg_of KX GN a_areHeaps) (F_areHeaps.binds (ps := ["value"]) fun _ _ _ _ _ _ us hl => match us, hl with | [_], _ => rfl) (ok_areHeaps F_areHeaps X G_isHeap)
  have F_kept := fun_mk (st := sKept) l_kept c_kept k_kept
  have G_kept : Has l.prog w K mg base 1 "kept_heaps" ["value"] [] spKept := has_of F_kept (PySem.W.mg_of KX GN a_kept) (F_kept.binds (ps := ["value"]) fun _ _ _ _ _ _ us hl => match us, hl with | [_], _ => rfl) (ok_kept F_kept X)
  have F_colourIn := fun_mk (st := sColourIn) l_colourIn c_colourIn k_colourIn
  have G_colourIn : Has l.prog w K mg base 1 "colour_in" ["spots"] [] (spColourIn K) := has_of F_colourIn (PySem.W.mg_of KX GN a_colourIn) (F_colourIn.binds (ps := ["spots"]) fun _ _ _ _ _ _ us hl => match us, hl with | [_], _ => rfl) (ok_colourIn F_colourIn X)
  have F_spots := fun_mk (st := sSpots) l_spots c_spots k_spots
  have G_spots : Has l.prog w K mg base 1 "spots_of" ["heaps"] [] (spSpots (K := K)) := has_of F_spots (PySem.W.mg_of KX GN a_spots) (F_spots.binds (ps := ["heaps"]) fun _ _ _ _ _ _ us hl => match us, hl with | [_], _ => rfl) (ok_spots F_spots)
  have F_needHeaps := fun_mk (st := sNeedHeaps) l_needHeaps c_needHeaps k_needHeaps
  have G_needHeaps : Has l.prog w K mg base 5 "need_heaps" ["value", "part"] [] spNeedHeaps := has_of F_needHeaps (PySem.W.mg_of KX GN a_needHeaps) (F_needHeaps.binds (ps := ["value", "part"]) fun _ _ _ _ _ _ us hl => match us, hl with | [_, _], _ => rfl) (ok_needHeaps F_needHeaps G_areHeaps G_kept)
  have F_needColour := fun_mk (st := sNeedColour) l_needColour c_needColour k_needColour
  have G_needColour : Has l.prog w K mg base 2 "need_colour" ["spots"] [] (spNeedColour K) := has_of F_needColour (PySem.W.mg_of KX GN a_needColour) (F_needColour.binds (ps := ["spots"]) fun _ _ _ _ _ _ us hl => match us, hl with | [_], _ => rfl) (ok_needColour F_needColour X G_colourIn)
  have F_needLefts : FunD K "need_lefts" "need_lefts" (defArgs sNeedLefts) (defBody sNeedLefts) (defScope sNeedLefts) [.str "lefts"] [] f_needLefts _ := ⟨⟨_, _, _, _, _, _, _, _, _, _, rfl, l_needLefts, c_needLefts, .inr ⟨by simp, tL, oL, zL, nL, rfl, lT, dT, vT⟩, .inl rfl⟩, k_needLefts⟩
  have O_needLefts : FnOk l.prog w K mg base CX0 3 f_needLefts _ ["value", "part"] spNeedLefts := ok_needLefts F_needLefts X G_within
  have G_needLefts : Has l.prog w K mg base 3 "need_lefts" ["value", "part"] [.str "lefts"] spNeedLefts := by
    obtain ⟨ds, v, b⟩ := F_needLefts.binds1 (ps := ["value", "part"]) 1 0 (by simp) rfl fun T kV doc pm an cdv ct us its h1 h2 => by
      match us, its, h1, h2 with
      | [_], [_], _, _ => exact ⟨_, rfl, rfl⟩
    exact ⟨f_needLefts, _, ds, O_needLefts, PySem.W.mg_of KX GN a_needLefts, k_needLefts, b, v⟩
  have F_needStart := fun_mk (st := sNeedStart) l_needStart c_needStart k_needStart
  have G_needStart : Has l.prog w K mg base 6 "need_start" ["heaps", "lefts"] [] spNeedStart := has_of F_needStart (PySem.W.mg_of KX GN a_needStart) (F_needStart.binds (ps := ["heaps", "lefts"]) fun _ _ _ _ _ _ us hl => match us, hl with | [_, _], _ => rfl) (ok_needStart F_needStart G_needHeaps G_needLefts G_needColour G_spots)
  have F_joined := fun_mk (st := sJoined) l_joined c_joined k_joined
  have G_joined : Has l.prog w K mg base 6 "joined_heaps" ["one", "other"] [] spJoined := has_of F_joined (PySem.W.mg_of KX GN a_joined) (F_joined.binds (ps := ["one", "other"]) fun _ _ _ _ _ _ us hl => match us, hl with | [_, _], _ => rfl) (ok_joined F_joined X G_needHeaps G_needColour G_spots)
  have F_sent := fun_mk (st := sSent) l_sent c_sent k_sent
  have G_sent : Has l.prog w K mg base 1 "sent_on" ["heaps", "lefts"] [] spSent := has_of F_sent (PySem.W.mg_of KX GN a_sent) (F_sent.binds (ps := ["heaps", "lefts"]) fun _ _ _ _ _ _ us hl => match us, hl with | [_, _], _ => rfl) (ok_sent F_sent)
  have F_quern := fun_mk (st := sQuern) l_quern c_quern k_quern
  have G_quern : Has l.prog w K mg base 1 "_law_quern" ["_law_script"] [] (spQuern K) := has_of F_quern (PySem.W.mg_of KX GN a_quern) (F_quern.binds (ps := ["_law_script"]) fun _ _ _ _ _ _ us hl => match us, hl with | [_], _ => rfl) (ok_quern F_quern X)
  have F_grind := fun_mk (st := sGrind) l_grind c_grind k_grind
  have G_grind : Has l.prog w K mg base 1 "_law_grind" ["_law_quern_here", "_law_many"] [] spGrind := has_of F_grind (PySem.W.mg_of KX GN a_grind) (F_grind.binds (ps := ["_law_quern_here", "_law_many"]) fun _ _ _ _ _ _ us hl => match us, hl with | [_, _], _ => rfl) (ok_grind F_grind X)
  have F_grain := fun_mk (st := sGrain) l_grain c_grain k_grain
  have G_grain : Has l.prog w K mg base 2 "_law_grain" ["_law_quern_here", "_law_some"] [] spGrain := has_of F_grain (PySem.W.mg_of KX GN a_grain) (F_grain.binds (ps := ["_law_quern_here", "_law_some"]) fun _ _ _ _ _ _ us hl => match us, hl with | [_, _], _ => rfl) (ok_grain F_grain X G_grind)
  have F_start := fun_mk (st := sStart) l_start c_start k_start
  have G_start : Has l.prog w K mg base 3 "_law_start" ["_law_quern_here", "_law_most"] [] spStart := has_of F_start (PySem.W.mg_of KX GN a_start) (F_start.binds (ps := ["_law_quern_here", "_law_most"]) fun _ _ _ _ _ _ us hl => match us, hl with | [_, _], _ => rfl) (ok_start F_start X G_grind G_grain)
  have F_halved := fun_mk (st := sHalved) l_halved c_halved k_halved
  have G_halved : Has l.prog w K mg base 1 "_law_halved" ["_law_heaps", "_law_ticks"] [] spHalved := has_of F_halved (PySem.W.mg_of KX GN a_halved) (F_halved.binds (ps := ["_law_heaps", "_law_ticks"]) fun _ _ _ _ _ _ us hl => match us, hl with | [_, _], _ => rfl) (ok_halved F_halved X)
  have F_odd := fun_mk (st := sOdd) l_odd c_odd k_odd
  have G_odd : Has l.prog w K mg base 1 "_law_odd" ["_law_line"] [] (spOdd C) := has_of F_odd (PySem.W.mg_of KX GN a_odd) (F_odd.binds (ps := ["_law_line"]) fun _ _ _ _ _ _ us hl => match us, hl with | [_], _ => rfl) (ok_odd F_odd X T)
  have F_sum := fun_mk (st := sSum) l_sum c_sum k_sum
  have G_sum : Has l.prog w K mg base 1 "_law_sum" ["_law_one", "_law_other"] [] spSum := has_of F_sum (PySem.W.mg_of KX GN a_sum) (F_sum.binds (ps := ["_law_one", "_law_other"]) fun _ _ _ _ _ _ us hl => match us, hl with | [_, _], _ => rfl) (ok_sum F_sum X)
  have F_init := fun_mk (st := sInit) l_init c_init k_init
  have bInit := F_init.binds (ps := ["self", "heaps", "lefts"]) fun _ _ _ _ _ _ us hl => match us, hl with | [_, _, _], _ => rfl
  have O_init : FnOk l.prog w K mg base CX0 7 f_init _ ["self", "heaps", "lefts"] (spInit C) := ok_init F_init T G_needStart
  have F_adv := fun_mk (st := sAdvance) l_adv c_adv k_adv
  have bAdv := F_adv.binds (ps := ["self"]) fun _ _ _ _ _ _ us hl => match us, hl with | [_], _ => rfl
  have O_adv : FnOk l.prog w K mg base CX0 2 f_adv _ ["self"] (spAdvance C) := ok_advance F_adv T X G_sent
  have F_more := fun_mk (st := sMore) l_more c_more k_more
  have G_more : Has l.prog w K mg base 9 "_law_more_right" ["_law_quern_here", "_law_heaps", "_law_lefts"] [] spMore := has_of F_more (PySem.W.mg_of KX GN a_more) (F_more.binds (ps := ["_law_quern_here", "_law_heaps", "_law_lefts"]) fun _ _ _ _ _ _ us hl => match us, hl with | [_, _, _], _ => rfl) (ok_more F_more X T G_grind G_joined G_halved G_odd G_sum ⟨mk, aInit, iInit, kC⟩ O_init bInit ⟨aAdv, iAdv, k_adv⟩ O_adv bAdv)
  have F_law := fun_mk (st := sLaw) l_law c_law k_law
  exact ok_law F_law X G_quern G_start G_more
theorem walk {l : PySem.W.OpenLaw} {q : Program} {loose : List Str} {XP : (Str → Option Value) → Heap → Prop} {YP : World → Heap → Prop} {d : DefRec} {K : Params → PySem.W.Frag} (hn : l.most = some 63) (hdf : d.params.defaults = [])
    (hY : ∀ (w : World) (h : Heap), YP w h → (K w.params).In h)
    (F : ∀ (w : World) (mg : Str → Option Value) (fa : Addr) (h : Heap), (K w.params).In h → h.Ns mainGlobals mg → mg d.name = some (.ref fa) →
      ∃ fd : FuncData, (∀ (s : Shared) (u : Value), BindsTo s fd ⟨[u], []⟩ [("_law_script", u)]) ∧ ∀ base : Heap, (K w.params).In base → base.Ns mainGlobals mg → FnOk l.prog w (K w.params) mg base CX0 10 fa fd ["_law_script"] (spLaw (K w.params))) :
    PySem.W.WalkO q loose XP YP l.row.toRowW d [] (fun f vs => PySem.call f vs) :=
  L2.walk_of (n := 63) (k := 10) (x := "_law_script") (CX := fun _ => CX0) (sp := fun w => spLaw (K w.params)) hn (by decide) hdf ⟨rfl, by decide, by decide⟩ hY F (fun _ _ a ns hl _ hS => ⟨a, ns, rfl, hS, hl, fun _ => rfl⟩) fun _ _ _ _ _ z => z
end NK
/-! the law's own head, and the end -/
open PySem PySem.W PyProof.Rows
set_option maxRecDepth 100000 in
set_option maxHeartbeats 0 in
theorem PySem.Challenge.cw_nodice_k12_whole_more_chips_by_a_power_o_holds : PySem.Challenge.rw_nodice_k12_whole_more_chips_by_a_power_o.Holds := by
  w_on; o_law; k_head; (case hw => w_witness2)
  k_fill
  refine NK.walk (l := PySem.Challenge.rw_nodice_k12_whole_more_chips_by_a_power_o) rfl rfl (fun w h Y => PySem.W.kIn_of Y) ?F
  case F =>
    intro w mg fa h KX G hmg
    refine' NK.all_mk KX G hmg ?aC ?m1 ?m2 ?m3 ?m4 ?a_isInt ?l_isInt ?c_isInt ?k_isInt ?a_within ?l_within ?c_within ?k_within ?a_areInts ?l_areInts ?c_areInts ?k_areInts ?a_isHeap ?l_isHeap ?c_isHeap ?k_isHeap ?a_areHeaps ?l_areHeaps ?c_areHeaps ?k_areHeaps ?a_kept ?l_kept ?c_kept ?k_kept ?a_colourIn ?l_colourIn ?c_colourIn ?k_colourIn ?a_spots ?l_spots ?c_spots ?k_spots ?a_needHeaps ?l_needHeaps ?c_needHeaps ?k_needHeaps ?a_needColour ?l_needColour ?c_needColour ?k_needColour ?a_needLefts ?l_needLefts ?c_needLefts ?k_needLefts ?a_needStart ?l_needStart ?c_needStart ?k_needStart ?a_joined ?l_joined ?c_joined ?k_joined ?a_sent ?l_sent ?c_sent ?k_sent ?a_quern ?l_quern ?c_quern ?k_quern ?a_grind ?l_grind ?c_grind ?k_grind ?a_grain ?l_grain ?c_grain ?k_grain ?a_start ?l_start ?c_start ?k_start ?a_halved ?l_halved ?c_halved ?k_halved ?a_odd ?l_odd ?c_odd ?k_odd ?a_sum ?l_sum ?c_sum ?k_sum ?a_more ?l_more ?c_more ?k_more ?lT ?dT ?vT ?a_law ?l_law ?c_law ?k_law ?aInit ?iInit ?l_init ?c_init ?k_init ?aAdv ?iAdv ?l_adv ?c_adv ?k_adv ?pg ?hd ?po ?sa ?mk ?kC ?nT ?nH ?nE ?z_isinstance ?z_int ?z_bool ?z_list ?z_tuple ?z_len ?z_all ?z_set ?z_sorted ?z_max ?z_range ?z_dict ?z_abs
    (case aC => k_is)
    (case m1 => k_is)
    (case m2 => k_is)
    (case m3 => k_is)
    (case m4 => k_is)
    (case a_isInt => k_is)
    (case l_isInt => k_is)
    (case c_isInt => k_is)
    (case k_isInt => k_is)
    (case a_within => k_is)
    (case l_within => k_is)
    (case c_within => k_is)
    (case k_within => k_is)
    (case a_areInts => k_is)
    (case l_areInts => k_is)
    (case c_areInts => k_is)
    (case k_areInts => k_is)
    (case a_isHeap => k_is)
    (case l_isHeap => k_is)
    (case c_isHeap => k_is)
    (case k_isHeap => k_is)
    (case a_areHeaps => k_is)
    (case l_areHeaps => k_is)
    (case c_areHeaps => k_is)
    (case k_areHeaps => k_is)
    (case a_kept => k_is)
    (case l_kept => k_is)
    (case c_kept => k_is)
    (case k_kept => k_is)
    (case a_colourIn => k_is)
    (case l_colourIn => k_is)
    (case c_colourIn => k_is)
    (case k_colourIn => k_is)
    (case a_spots => k_is)
    (case l_spots => k_is)
    (case c_spots => k_is)
    (case k_spots => k_is)
    (case a_needHeaps => k_is)
    (case l_needHeaps => k_is)
    (case c_needHeaps => k_is)
    (case k_needHeaps => k_is)
    (case a_needColour => k_is)
    (case l_needColour => k_is)
    (case c_needColour => k_is)
    (case k_needColour => k_is)
    (case a_needLefts => k_is)
    (case l_needLefts => k_is)
    (case c_needLefts => k_is)
    (case k_needLefts => k_is)
    (case a_needStart => k_is)
    (case l_needStart => k_is)
    (case c_needStart => k_is)
    (case k_needStart => k_is)
    (case a_joined => k_is)
    (case l_joined => k_is)
    (case c_joined => k_is)
    (case k_joined => k_is)
    (case a_sent => k_is)
    (case l_sent => k_is)
    (case c_sent => k_is)
    (case k_sent => k_is)
    (case a_quern => k_is)
    (case l_quern => k_is)
    (case c_quern => k_is)
    (case k_quern => k_is)
    (case a_grind => k_is)
    (case l_grind => k_is)
    (case c_grind => k_is)
    (case k_grind => k_is)
    (case a_grain => k_is)
    (case l_grain => k_is)
    (case c_grain => k_is)
    (case k_grain => k_is)
    (case a_start => k_is)
    (case l_start => k_is)
    (case c_start => k_is)
    (case k_start => k_is)
    (case a_halved => k_is)
    (case l_halved => k_is)
    (case c_halved => k_is)
    (case k_halved => k_is)
    (case a_odd => k_is)
    (case l_odd => k_is)
    (case c_odd => k_is)
    (case k_odd => k_is)
    (case a_sum => k_is)
    (case l_sum => k_is)
    (case c_sum => k_is)
    (case k_sum => k_is)
    (case a_more => k_is)
    (case l_more => k_is)
    (case c_more => k_is)
    (case k_more => k_is)
    (case lT => k_is)
    (case dT => exact rfl)
    (case vT => exact .cons ⟨_, rfl⟩ .nil)
    (case a_law => k_is)
    (case l_law => k_is)
    (case c_law => k_is)
    (case k_law => k_is)
    (case aInit => k_is)
    (case iInit => k_is)
    (case l_init => k_is)
    (case c_init => k_is)
    (case k_init => k_is)
    (case aAdv => k_is)
    (case iAdv => k_is)
    (case l_adv => k_is)
    (case c_adv => k_is)
    (case k_adv => k_is)
    (case pg => k_is)
    (case hd => k_is)
    (case po => k_is)
    (case sa => k_is)
    (case mk => k_is)
    (case kC => k_is)
    (case nT => k_is)
    (case nH => k_is)
    (case nE => k_is)
    (case z_isinstance => k_is)
    (case z_int => k_is)
    (case z_bool => k_is)
    (case z_list => k_is)
    (case z_tuple => k_is)
    (case z_len => k_is)
    (case z_all => k_is)
    (case z_set => k_is)
    (case z_sorted => k_is)
    (case z_max => k_is)
    (case z_range => k_is)
    (case z_dict => k_is)
    (case z_abs => k_is)
