import PyProof.Rows.All
import Wide.All
import OpenK.AllK
import Wide.FinOn
import Open.SpecLaws
import KE.OsHead
import KE.OsGo
import HandS.ForSpec
import HandS.ForMost
import HandS.Deep
import HandS.SortRule
import HandS.SortInts
import HandS.Conv
import HandS.Codes
import PyFlatLaws
import PySem.Challenge.RW_mapcolours_s01_answers
set_option Elab.async false
set_option maxRecDepth 100000
set_option maxHeartbeats 2000000
/-! Plain mathematics: what the program computes is what the specification tells. -/
namespace Mc
open Uw47
/-! ### lists -/
theorem flat_filter {α β : Type} (f g : α → List β) (q : α → Bool) : ∀ (l : List α), (∀ x ∈ l, g x = if q x = true then f x else []) → (l.filter q).flatMap f = l.flatMap g
  | [], _ => rfl
  | a :: l, h => by
    have ih := flat_filter f g q l fun x hx => h x (List.mem_cons_of_mem _ hx)
    have ha := h a List.mem_cons_self
    rw [List.flatMap_cons, ha]
    cases e : q a with
    | true => rw [List.filter_cons_of_pos e, List.flatMap_cons, ih, if_pos rfl]
    | false => rw [List.filter_cons_of_neg (by rw [e]; exact Bool.false_ne_true), ih, if_neg Bool.false_ne_true, List.nil_append]
theorem pigeon : ∀ (n : Nat) (l : List Nat), (∀ c, c < n → c ∈ l) → n ≤ l.length
  | 0, _, _ => Nat.zero_le _
  | n + 1, l, h => by
    have hn := h n (Nat.lt_succ_self n)
    have ih := pigeon n (l.erase n) fun c hc => (List.mem_erase_of_ne (by omega)).mpr (h c (by omega))
    rw [List.length_erase_of_mem hn] at ih
    have : 0 < l.length := List.length_pos_of_mem hn
    omega
theorem getD_app_left {l : List Nat} {a i : Nat} (h : i < l.length) : (l ++ [a]).getD i 0 = l.getD i 0 := by
  rw [List.getD_eq_getElem?_getD, List.getD_eq_getElem?_getD, List.getElem?_append_left h]
theorem getD_app_last {l : List Nat} {a : Nat} : (l ++ [a]).getD l.length 0 = a := by
  rw [List.getD_eq_getElem?_getD, List.getElem?_append_right (Nat.le_refl _)]
  simp
/-! ### neighbours -/
def bp (b : Nat × Nat) : Nat × Nat := (min b.1 b.2, max b.1 b.2)
theorem bp_eq (a b : Nat × Nat) : bp a = bp b ↔ (a.1 = b.1 ∧ a.2 = b.2) ∨ (a.1 = b.2 ∧ a.2 = b.1) := by
  unfold bp
  rw [Prod.mk.injEq]
  omega
theorem near_iff (m : Map) (i k : Nat) : m.near i k = true ↔ bp (i, k) ∈ m.borders.map bp := by
  unfold Map.near
  rw [List.any_eq_true, List.mem_map]
  constructor
  · rintro ⟨b, hb, h⟩
    refine ⟨b, hb, (bp_eq _ _).mpr ?_⟩
    simp only [Bool.or_eq_true, Bool.and_eq_true, beq_iff_eq] at h
    exact h
  · rintro ⟨b, hb, h⟩
    refine ⟨b, hb, ?_⟩
    have h := (bp_eq _ _).mp h
    simp only [Bool.or_eq_true, Bool.and_eq_true, beq_iff_eq]
    exact h
theorem near_comm (m : Map) (i k : Nat) : m.near i k = m.near k i := by
  rw [Bool.eq_iff_iff, near_iff, near_iff]
  have e : bp (i, k) = bp (k, i) := (bp_eq _ _).mpr (.inr ⟨rfl, rfl⟩)
  rw [e]
structure WF (m : Map) : Prop where
  one : 1 ≤ m.count
  six : m.count ≤ 6
  plen : m.printed.length = m.count
  bd : ∀ b ∈ m.borders, b.1 < m.count ∧ b.2 < m.count ∧ b.1 ≠ b.2
theorem near_ne {m : Map} (W : WF m) {i k : Nat} (h : m.near i k = true) : i ≠ k ∧ i < m.count ∧ k < m.count := by
  obtain ⟨b, hb, e⟩ := List.mem_map.mp ((near_iff m i k).mp h)
  have q := W.bd b hb
  have e := (bp_eq _ _).mp e
  dsimp only at e
  omega
/-! ### all right colourings -/
theorem rows_mem (c : Nat) : ∀ (n : Nat) (l : List Nat), l ∈ rows c n → l.length = n ∧ ∀ x ∈ l, x < c
  | 0, l, h => by
    have e : l = [] := List.mem_singleton.mp h
    subst e
    exact ⟨rfl, fun x hx => by cases hx⟩
  | n + 1, l, h => by
    obtain ⟨a, ha, h⟩ := List.mem_flatMap.mp h
    obtain ⟨r, hr, rfl⟩ := List.mem_map.mp h
    obtain ⟨e, q⟩ := rows_mem c n r hr
    refine ⟨by rw [List.length_cons, e], fun x hx => ?_⟩
    rcases List.mem_cons.mp hx with rfl | hx
    · exact List.mem_range.mp ha
    · exact q x hx
theorem rows_has (c : Nat) : ∀ (n : Nat) (l : List Nat), l.length = n → (∀ x ∈ l, x < c) → l ∈ rows c n
  | 0, l, h, _ => by
    have e : l = [] := List.length_eq_zero_iff.mp h
    subst e
    exact List.mem_singleton.mpr rfl
  | n + 1, [], h, _ => by cases h
  | n + 1, a :: l, h, q => List.mem_flatMap.mpr ⟨a, List.mem_range.mpr (q a List.mem_cons_self), List.mem_map.mpr ⟨l, rows_has c n l (Nat.succ.inj h) fun x hx => q x (List.mem_cons_of_mem _ hx), rfl⟩⟩
theorem rows_snoc (c : Nat) : ∀ n, rows c (n + 1) = (rows c n).flatMap fun l => (List.range c).map fun a => l ++ [a]
  | 0 => by
    show ((List.range c).flatMap fun a => ([[]] : List (List Nat)).map fun l => a :: l) = ([[]] : List (List Nat)).flatMap fun l => (List.range c).map fun a => l ++ [a]
    rw [List.flatMap_singleton]
    show ((List.range c).flatMap fun a => [[a]]) = (List.range c).map fun a => [a]
    induction List.range c with
    | nil => rfl
    | cons a r ih => rw [List.flatMap_cons, ih]; rfl
  | n + 1 => by
    have ih := rows_snoc c n
    show ((List.range c).flatMap fun a => (rows c (n + 1)).map fun l => a :: l) = ((List.range c).flatMap fun a => (rows c n).map fun l => a :: l).flatMap fun l => (List.range c).map fun a => l ++ [a]
    rw [ih, List.flatMap_assoc]
    congr 1
    funext a
    rw [List.map_flatMap, List.flatMap_map]
    congr 1
    funext l
    rw [List.map_map]
    rfl
/-- no two neighbours of a row have one colour -/
def okPre (m : Map) (l : List Nat) : Bool := (List.range l.length).all fun k => (List.range k).all fun i => !(m.near k i && l.getD i 0 == l.getD k 0)
def nearOf (m : Map) (k : Nat) : List Nat := (List.range m.count).filter fun o => m.near k o
def before (m : Map) (k : Nat) : List Nat := (nearOf m k).filter fun o => decide (o < k)
def used (row near : List Nat) : List Nat := near.map fun o => row.getD o 0
def oneLonger (c : Nat) (near row : List Nat) : List (List Nat) := ((List.range c).filter fun a => !(used row near).contains a).map fun a => row ++ [a]
def longer (c : Nat) (near : List Nat) (rs : List (List Nat)) : List (List Nat) := rs.flatMap (oneLonger c near)
def grow (m : Map) (c : Nat) : Nat → List (List Nat)
  | 0 => [[]]
  | k + 1 => longer c (before m k) (grow m c k)
theorem mem_before {m : Map} {k o : Nat} : o ∈ before m k ↔ o < m.count ∧ m.near k o = true ∧ o < k := by
  unfold before nearOf
  rw [List.mem_filter, List.mem_filter, List.mem_range, decide_eq_true_eq]
  exact ⟨fun h => ⟨h.1.1, h.1.2, h.2⟩, fun h => ⟨⟨h.1, h.2.1⟩, h.2.2⟩⟩
theorem okPre_snoc {m : Map} {l : List Nat} {a : Nat} (h : l.length < m.count) : okPre m (l ++ [a]) = (okPre m l && !(used l (before m l.length)).contains a) := by
  unfold okPre
  have e : (l ++ [a]).length = l.length + 1 := by rw [List.length_append]; rfl
  rw [e, List.range_succ, List.all_append]
  congr 1
  · rw [Bool.eq_iff_iff, List.all_eq_true, List.all_eq_true]
    refine ⟨fun q k hk => ?_, fun q k hk => ?_⟩
    · have q := q k hk
      rw [List.all_eq_true] at q ⊢
      intro i hi
      have q := q i hi
      rw [List.mem_range] at hk hi
      rw [getD_app_left hk, getD_app_left (by omega)] at q
      exact q
    · have q := q k hk
      rw [List.all_eq_true] at q ⊢
      intro i hi
      have q := q i hi
      rw [List.mem_range] at hk hi
      rw [getD_app_left hk, getD_app_left (by omega)]
      exact q
  · rw [List.all_cons, List.all_nil, Bool.and_true, getD_app_last, Bool.eq_iff_iff, List.all_eq_true, Bool.not_eq_true', ← Bool.not_eq_true, List.contains_iff_mem]
    unfold used
    rw [List.mem_map]
    constructor
    · rintro q ⟨o, ho, e⟩
      obtain ⟨h1, h2, h3⟩ := mem_before.mp ho
      have q := q o (List.mem_range.mpr h3)
      rw [getD_app_left h3, h2, e] at q
      simp at q
    · intro q i hi
      rw [List.mem_range] at hi
      rw [getD_app_left hi]
      cases hn : m.near l.length i with
      | false => rfl
      | true =>
        rw [Bool.true_and, Bool.not_eq_true', beq_eq_false_iff_ne]
        intro e
        exact q ⟨i, mem_before.mpr ⟨by omega, hn, hi⟩, e⟩
theorem grow_is (m : Map) (c : Nat) : ∀ k, k ≤ m.count → grow m c k = (rows c k).filter (okPre m)
  | 0, _ => rfl
  | k + 1, h => by
    have ih := grow_is m c k (by omega)
    show longer c (before m k) (grow m c k) = _
    rw [ih, rows_snoc, List.filter_flatMap]
    refine flat_filter _ _ _ _ fun l hl => ?_
    obtain ⟨e, _⟩ := rows_mem c k l hl
    show ((List.range c).map fun a => l ++ [a]).filter (okPre m) = _
    rw [List.filter_map]
    unfold oneLonger
    have q : ∀ a, (okPre m ∘ fun a => l ++ [a]) a = (okPre m l && !(used l (before m k)).contains a) := fun a => by
      rw [← e]
      exact okPre_snoc (by omega)
    rw [show (okPre m ∘ fun a => l ++ [a]) = fun a => (okPre m l && !(used l (before m k)).contains a) from funext q]
    cases okPre m l with
    | true => simp only [Bool.true_and, if_true]
    | false => simp
/-! ### the first clash -/
def pairs (n : Nat) : List (Nat × Nat) := (List.range n).flatMap fun i => ((List.range n).filter fun k => decide (i < k)).map fun k => (i, k)
theorem mem_pairs {n : Nat} {x : Nat × Nat} : x ∈ pairs n ↔ x.1 < x.2 ∧ x.2 < n := by
  unfold pairs
  rw [List.mem_flatMap]
  constructor
  · rintro ⟨i, hi, h⟩
    obtain ⟨k, hk, rfl⟩ := List.mem_map.mp h
    rw [List.mem_filter, List.mem_range, decide_eq_true_eq] at hk
    exact ⟨hk.2, hk.1⟩
  · rintro ⟨h1, h2⟩
    exact ⟨x.1, List.mem_range.mpr (by omega), List.mem_map.mpr ⟨x.2, List.mem_filter.mpr ⟨List.mem_range.mpr h2, decide_eq_true h1⟩, rfl⟩⟩
def lexN (x y : Nat × Nat) : Prop := x.1 < y.1 ∨ (x.1 = y.1 ∧ x.2 < y.2)
theorem pairs_sorted (n : Nat) : (pairs n).Pairwise fun x y => ¬ lexN y x := by
  unfold pairs
  rw [List.pairwise_flatMap]
  refine ⟨fun i hi => ?_, ?_⟩
  · rw [List.pairwise_map]
    refine List.Pairwise.filter _ ?_
    refine List.Pairwise.imp ?_ (List.pairwise_lt_range (n := n))
    intro a b h q
    unfold lexN at q
    dsimp only at q
    omega
  · refine List.Pairwise.imp ?_ (List.pairwise_lt_range (n := n))
    intro a b h x hx y hy q
    obtain ⟨k, _, rfl⟩ := List.mem_map.mp hx
    obtain ⟨j, _, rfl⟩ := List.mem_map.mp hy
    unfold lexN at q
    dsimp only at q
    omega
theorem find_least {p : Nat × Nat → Bool} : ∀ {l : List (Nat × Nat)} {a : Nat × Nat}, (l.Pairwise fun x y => ¬ lexN y x) → l.find? p = some a → a ∈ l ∧ p a = true ∧ ∀ x ∈ l, p x = true → ¬ lexN x a
  | [], _, _, h => by cases h
  | b :: l, a, hs, h => by
    rw [List.pairwise_cons] at hs
    cases e : p b with
    | true =>
      rw [List.find?_cons_of_pos e] at h
      cases h
      refine ⟨List.mem_cons_self, e, fun x hx _ => ?_⟩
      rcases List.mem_cons.mp hx with rfl | hx
      · unfold lexN; omega
      · exact hs.1 x hx
    | false =>
      rw [List.find?_cons_of_neg (by rw [e]; exact Bool.false_ne_true)] at h
      obtain ⟨h1, h2, h3⟩ := find_least hs.2 h
      refine ⟨List.mem_cons_of_mem _ h1, h2, fun x hx hp => ?_⟩
      rcases List.mem_cons.mp hx with rfl | hx
      · rw [e] at hp; cases hp
      · exact h3 x hx hp
theorem find_same {p q : Nat × Nat → Bool} {A B : List (Nat × Nat)} (hA : A.Pairwise fun x y => ¬ lexN y x) (hB : B.Pairwise fun x y => ¬ lexN y x) (h : ∀ x, (x ∈ A ∧ p x = true) ↔ (x ∈ B ∧ q x = true)) : A.find? p = B.find? q := by
  cases ea : A.find? p with
  | none =>
    cases eb : B.find? q with
    | none => rfl
    | some b =>
      obtain ⟨h1, h2, _⟩ := find_least hB eb
      obtain ⟨h3, h4⟩ := (h b).mpr ⟨h1, h2⟩
      exact absurd h4 (List.find?_eq_none.mp ea b h3)
  | some a =>
    obtain ⟨h1, h2, h3⟩ := find_least hA ea
    obtain ⟨g1, g2⟩ := (h a).mp ⟨h1, h2⟩
    cases eb : B.find? q with
    | none => exact absurd g2 (List.find?_eq_none.mp eb a g1)
    | some b =>
      obtain ⟨k1, k2, k3⟩ := find_least hB eb
      obtain ⟨j1, j2⟩ := (h b).mpr ⟨k1, k2⟩
      have u1 := h3 b j1 j2
      have u2 := k3 a g1 g2
      unfold lexN at u1 u2
      refine congrArg some (Prod.ext ?_ ?_) <;> omega
def same (l : List Nat) (x : Nat × Nat) : Bool := l.getD x.1 0 == l.getD x.2 0
theorem clash_eq (m : Map) (l : List Nat) : m.clash l = (pairs m.count).find? fun x => m.near x.1 x.2 && same l x := rfl
theorem bp_near {m : Map} (W : WF m) (x : Nat × Nat) : x ∈ m.borders.map bp ↔ x ∈ pairs m.count ∧ m.near x.1 x.2 = true := by
  rw [mem_pairs]
  constructor
  · intro h
    obtain ⟨b, hb, e⟩ := List.mem_map.mp h
    have q := W.bd b hb
    have e1 : min b.1 b.2 = x.1 := congrArg Prod.fst e
    have e2 : max b.1 b.2 = x.2 := congrArg Prod.snd e
    refine ⟨by omega, (near_iff _ _ _).mpr ?_⟩
    have e3 : bp (x.1, x.2) = x := by
      unfold bp
      refine Prod.ext ?_ ?_ <;> dsimp only <;> omega
    rw [e3]
    exact h
  · rintro ⟨⟨h1, h2⟩, h⟩
    have h := (near_iff _ _ _).mp h
    have e3 : bp (x.1, x.2) = x := by
      unfold bp
      refine Prod.ext ?_ ?_ <;> dsimp only <;> omega
    rw [e3] at h
    exact h
theorem clash_is {m : Map} (W : WF m) (l : List Nat) {ys : List (Nat × Nat)} (hp : ys.Perm (m.borders.map bp)) (hs : ys.Pairwise fun x y => ¬ lexN y x) : ys.find? (same l) = m.clash l := by
  rw [clash_eq]
  refine find_same hs (pairs_sorted _) fun x => ?_
  rw [hp.mem_iff, bp_near W, Bool.and_eq_true]
  exact ⟨fun h => ⟨h.1.1, h.1.2, h.2⟩, fun h => ⟨⟨h.1, h.2.1⟩, h.2.2⟩⟩
theorem clash_none {m : Map} {l : List Nat} (hl : l.length = m.count) : (m.clash l).isNone = okPre m l := by
  rw [Bool.eq_iff_iff, Option.isNone_iff_eq_none, clash_eq, List.find?_eq_none]
  unfold okPre
  rw [List.all_eq_true]
  constructor
  · intro h k hk
    rw [List.all_eq_true]
    intro i hi
    rw [List.mem_range] at hk hi
    have q := h (i, k) (mem_pairs.mpr ⟨hi, by omega⟩)
    rw [Bool.not_eq_true] at q
    unfold same at q
    dsimp only at q
    rw [near_comm m k i, q]
    rfl
  · intro h x hx
    obtain ⟨h1, h2⟩ := mem_pairs.mp hx
    have q := h x.2 (List.mem_range.mpr (by omega))
    rw [List.all_eq_true] at q
    have q := q x.1 (List.mem_range.mpr h1)
    rw [near_comm m x.2 x.1, Bool.not_eq_true'] at q
    unfold same
    rw [q]
    exact Bool.false_ne_true
theorem grow_all (m : Map) (c : Nat) : grow m c m.count = m.all_ c := by
  rw [grow_is m c m.count (Nat.le_refl _)]
  unfold Map.all_
  refine List.filter_congr fun l hl => ?_
  obtain ⟨h1, h2⟩ := rows_mem c m.count l hl
  unfold Map.right Map.told
  rw [clash_none h1]
  have e1 : (l.length == m.count) = true := beq_iff_eq.mpr h1
  have e2 : (l.all fun k => decide (k < c)) = true := List.all_eq_true.mpr fun x hx => decide_eq_true (h2 x hx)
  rw [e1, e2]
  rfl
/-! ### sizes -/
theorem oneLonger_len (c : Nat) (near row : List Nat) : (oneLonger c near row).length ≤ c := by
  unfold oneLonger
  rw [List.length_map]
  exact Nat.le_trans (List.length_filter_le _ _) (Nat.le_of_eq List.length_range)
theorem longer_len (c : Nat) (near : List Nat) : ∀ rs : List (List Nat), (longer c near rs).length ≤ rs.length * c
  | [] => by simp [longer]
  | r :: rs => by
    have ih := longer_len c near rs
    have h1 := oneLonger_len c near r
    unfold longer at ih ⊢
    rw [List.flatMap_cons, List.length_append, List.length_cons, Nat.succ_mul]
    omega
theorem grow_len (m : Map) (c : Nat) : ∀ k, (grow m c k).length ≤ c ^ k
  | 0 => by simp [grow]
  | k + 1 => by
    have ih := grow_len m c k
    have h1 := longer_len c (before m k) (grow m c k)
    show (longer c (before m k) (grow m c k)).length ≤ _
    rw [Nat.pow_succ]
    exact Nat.le_trans h1 (Nat.mul_le_mul_right c ih)
theorem grow_row (m : Map) (c : Nat) (k : Nat) (hk : k ≤ m.count) {l : List Nat} (h : l ∈ grow m c k) : l.length = k ∧ ∀ x ∈ l, x < c := by
  rw [grow_is m c k hk] at h
  exact rows_mem c k l (List.mem_filter.mp h).1
/-! ### the fewest colours -/
theorem all_zero {m : Map} (W : WF m) : m.all_ 0 = [] := by
  rw [← grow_all]
  have h := grow_len m 0 m.count
  have e : 0 ^ m.count = 0 := Nat.zero_pow W.one
  rw [e] at h
  exact List.length_eq_zero_iff.mp (Nat.le_zero.mp h)
theorem all_count {m : Map} (W : WF m) : m.all_ m.count ≠ [] := by
  intro e
  have h : List.range m.count ∈ m.all_ m.count := by
    unfold Map.all_
    have hl : (List.range m.count).length = m.count := List.length_range
    refine List.mem_filter.mpr ⟨rows_has _ _ _ hl fun x hx => List.mem_range.mp hx, ?_⟩
    unfold Map.right Map.told
    rw [clash_none hl]
    have e1 : ((List.range m.count).length == m.count) = true := beq_iff_eq.mpr hl
    have e2 : ((List.range m.count).all fun k => decide (k < m.count)) = true := List.all_eq_true.mpr fun x hx => decide_eq_true (List.mem_range.mp hx)
    rw [e1, e2]
    show okPre m _ = true
    unfold okPre
    rw [hl, List.all_eq_true]
    intro k hk
    rw [List.all_eq_true]
    intro i hi
    rw [List.mem_range] at hk hi
    have ek : (List.range m.count).getD k 0 = k := by
      rw [List.getD_eq_getElem?_getD, List.getElem?_range hk]; rfl
    have ei : (List.range m.count).getD i 0 = i := by
      rw [List.getD_eq_getElem?_getD, List.getElem?_range (by omega)]; rfl
    rw [ek, ei, Bool.not_eq_true', Bool.and_eq_false_iff]
    exact .inr (beq_eq_false_iff_ne.mpr (by omega))
  rw [e] at h
  cases h
theorem fewest_is {m : Map} (W : WF m) {c : Nat} (h0 : ∀ d, d < c → m.all_ d = []) (h1 : m.all_ c ≠ []) : m.fewest = some c := by
  have hc : c ≤ m.count := by
    rcases Nat.lt_or_ge m.count c with h | h
    · exact absurd (h0 _ h) (all_count W)
    · exact h
  unfold Map.fewest
  rw [List.find?_range_eq_some]
  refine ⟨?_, List.mem_range.mpr (by omega), fun d hd => ?_⟩
  · rw [decide_eq_true_eq]
    exact List.length_pos_iff.mpr h1
  · unfold Map.ways
    rw [h0 d hd]
    rfl
/-! ### the best one -/
def bestF (p : List Nat) (b : Option Best) (l : List Nat) : Option Best := let n := changed l p
  match b with
  | none => some ⟨n, 1, l⟩
  | some x => if n < x.changed then some ⟨n, 1, l⟩ else if n = x.changed then some { x with many := x.many + 1 } else some x
theorem best_eq (m : Map) (c : Nat) : m.best c = (m.all_ c).foldl (bestF m.printed) none := rfl
theorem best_inv (p : List Nat) (l : List Nat) (rs : List (List Nat)) : ∃ b, (l :: rs).reverse.foldl (bestF p) none = some b ∧ (∀ x ∈ l :: rs, b.changed ≤ changed x p) ∧ ∃ r, (l :: rs).reverse.filter (fun x => changed x p == b.changed) = b.row :: r ∧ b.many = r.length + 1 := by
  induction rs generalizing l with
  | nil =>
    refine ⟨⟨changed l p, 1, l⟩, rfl, fun x hx => ?_, [], ?_, rfl⟩
    · rw [List.mem_singleton.mp hx]
      exact Nat.le_refl _
    · show ([l] : List (List Nat)).filter _ = _
      rw [List.filter_cons_of_pos (by exact beq_self_eq_true _)]
      rfl
  | cons y rs ih =>
    obtain ⟨b, e, hle, r, hf, hm⟩ := ih y
    have hle' : ∀ x ∈ (y :: rs).reverse, b.changed ≤ changed x p := fun x hx => hle x (List.mem_reverse.mp hx)
    rw [List.reverse_cons, List.foldl_append, e]
    show ∃ b', (if changed l p < b.changed then some ⟨changed l p, 1, l⟩ else if changed l p = b.changed then some { b with many := b.many + 1 } else some b) = some b' ∧ _
    by_cases h1 : changed l p < b.changed
    · rw [if_pos h1]
      refine ⟨_, rfl, fun x hx => ?_, [], ?_, rfl⟩
      · rcases List.mem_cons.mp hx with rfl | hx
        · exact Nat.le_refl _
        · exact Nat.le_trans (Nat.le_of_lt h1) (hle x hx)
      · rw [List.filter_append]
        have e1 : (y :: rs).reverse.filter (fun x => changed x p == changed l p) = [] := by
          rw [List.filter_eq_nil_iff]
          intro x hx q
          have := hle' x hx
          rw [beq_iff_eq] at q
          omega
        dsimp only
        rw [e1, List.filter_cons_of_pos (by exact beq_self_eq_true _)]
        rfl
    · rw [if_neg h1]
      by_cases h2 : changed l p = b.changed
      · rw [if_pos h2]
        refine ⟨_, rfl, fun x hx => ?_, r ++ [l], ?_, ?_⟩
        · rcases List.mem_cons.mp hx with rfl | hx
          · exact Nat.le_of_eq h2.symm
          · exact hle x hx
        · rw [List.filter_append]
          dsimp only
          rw [hf, List.filter_cons_of_pos (by exact beq_iff_eq.mpr h2)]
          rfl
        · dsimp only
          rw [hm, List.length_append]
          rfl
      · rw [if_neg h2]
        refine ⟨_, rfl, fun x hx => ?_, r, ?_, hm⟩
        · rcases List.mem_cons.mp hx with rfl | hx
          · omega
          · exact hle x hx
        · rw [List.filter_append, hf, List.filter_cons_of_neg (by rw [beq_iff_eq]; exact h2)]
          simp
theorem best_is (m : Map) (c : Nat) {least : Nat} (hmem : ∃ x ∈ m.all_ c, changed x m.printed = least) (hle : ∀ x ∈ m.all_ c, least ≤ changed x m.printed) :
    ∃ a r, (m.all_ c).filter (fun x => changed x m.printed == least) = a :: r ∧ m.best c = some ⟨least, r.length + 1, a⟩ := by
  rw [best_eq]
  generalize m.all_ c = rs at hmem hle
  obtain ⟨x, hx, ex⟩ := hmem
  cases e : rs.reverse with
  | nil =>
    rw [List.reverse_eq_nil_iff] at e
    rw [e] at hx
    cases hx
  | cons l t =>
    have e' : rs = (l :: t).reverse := by rw [← e, List.reverse_reverse]
    obtain ⟨b, h1, h2, r, h3, h4⟩ := best_inv m.printed l t
    rw [← e'] at h1 h3
    have h2' : ∀ y ∈ rs, b.changed ≤ changed y m.printed := fun y hy => h2 y (by rw [e', List.mem_reverse] at hy; exact hy)
    have hb : b.row ∈ rs ∧ changed b.row m.printed = b.changed := by
      have q : b.row ∈ rs.filter (fun x => changed x m.printed == b.changed) := by rw [h3]; exact List.mem_cons_self
      rw [List.mem_filter, beq_iff_eq] at q
      exact q
    have eb : b.changed = least := by
      have u1 := h2' x hx
      have u2 := hle b.row hb.1
      omega
    refine ⟨b.row, r, by rw [← eb]; exact h3, ?_⟩
    rw [h1, ← eb, ← h4]
/-! ### how many are changed -/
theorem zip_range {l p : List Nat} {n : Nat} (hl : l.length = n) (hp : p.length = n) : l.zip p = (List.range n).map fun i => (l.getD i 0, p.getD i 0) := by
  refine List.ext_getElem? fun i => ?_
  rw [List.getElem?_map]
  by_cases h : i < n
  · rw [List.getElem?_range h, List.getElem?_zip_eq_some.mpr]
    · rfl
    · dsimp only
      rw [List.getD_eq_getElem?_getD, List.getD_eq_getElem?_getD, List.getElem?_eq_getElem (by omega), List.getElem?_eq_getElem (by omega)]
      exact ⟨rfl, rfl⟩
  · rw [List.getElem?_eq_none (by rw [List.length_zip]; omega), List.getElem?_eq_none (by rw [List.length_range]; omega)]
    rfl
theorem changed_is {l p : List Nat} {n : Nat} (hl : l.length = n) (hp : p.length = n) : ((List.range n).filter fun i => l.getD i 0 != p.getD i 0).length = changed l p := by
  unfold changed
  rw [zip_range hl hp, List.filter_map, List.length_map]
  rfl
end Mc
namespace Mc
open Uw47
/-! ### one after another -/
def look (d : List (Nat × Nat)) (o : Nat) : Nat := ((d.find? fun x => x.1 == o).map fun x => x.2).getD 0
def hasK (d : List (Nat × Nat)) (o : Nat) : Bool := (d.find? fun x => x.1 == o).isSome
def usedBy (m : Map) (d : List (Nat × Nat)) (i : Nat) : List Nat := ((nearOf m i).filter (hasK d)).map (look d)
def freeOf (m : Map) (d : List (Nat × Nat)) (i : Nat) : Nat := ((List.range (m.count + 1)).find? fun c => !d.any fun x => m.near i x.1 && x.2 == c).getD 0
theorem greedy_snoc (m : Map) (i : Nat) : ∀ (o : List Nat) (d : List (Nat × Nat)), m.greedy (o ++ [i]) d = m.greedy o d ++ [(i, freeOf m (m.greedy o d) i)]
  | [], _ => rfl
  | a :: o, d => by
    show m.greedy (o ++ [i]) (d ++ [(a, _)]) = m.greedy o (d ++ [(a, _)]) ++ [(i, freeOf m (m.greedy o (d ++ [(a, _)])) i)]
    exact greedy_snoc m i o _
theorem greedy_keys (m : Map) : ∀ (o : List Nat) (d : List (Nat × Nat)), (m.greedy o d).map (·.1) = d.map (·.1) ++ o
  | [], d => by rw [List.append_nil]; rfl
  | a :: o, d => by
    show (m.greedy o (d ++ [(a, _)])).map (·.1) = _
    rw [greedy_keys m o, List.map_append, List.append_assoc]
    rfl
theorem find_key {d : List (Nat × Nat)} (hn : (d.map (·.1)).Nodup) {x : Nat × Nat} (hx : x ∈ d) : d.find? (fun y => y.1 == x.1) = some x := by
  induction d with
  | nil => cases hx
  | cons a d ih =>
    rw [List.map_cons, List.nodup_cons] at hn
    rcases List.mem_cons.mp hx with rfl | hx
    · exact List.find?_cons_of_pos (by exact beq_self_eq_true _)
    · rw [List.find?_cons_of_neg]
      · exact ih hn.2 hx
      · rw [beq_iff_eq]
        intro e
        exact hn.1 (List.mem_map.mpr ⟨x, hx, e.symm⟩)
theorem hasK_iff {d : List (Nat × Nat)} {o : Nat} : hasK d o = true ↔ o ∈ d.map (·.1) := by
  unfold hasK
  rw [List.find?_isSome, List.mem_map]
  constructor
  · rintro ⟨x, hx, e⟩
    exact ⟨x, hx, beq_iff_eq.mp e⟩
  · rintro ⟨x, hx, e⟩
    exact ⟨x, hx, beq_iff_eq.mpr e⟩
theorem look_of {d : List (Nat × Nat)} (hn : (d.map (·.1)).Nodup) {x : Nat × Nat} (hx : x ∈ d) : look d x.1 = x.2 := by
  unfold look
  rw [find_key hn hx]
  rfl
theorem mem_usedBy {m : Map} (W : WF m) {d : List (Nat × Nat)} (hn : (d.map (·.1)).Nodup) {i c : Nat} : c ∈ usedBy m d i ↔ ∃ x ∈ d, m.near i x.1 = true ∧ x.2 = c := by
  unfold usedBy nearOf
  rw [List.mem_map]
  constructor
  · rintro ⟨o, ho, e⟩
    rw [List.mem_filter, List.mem_filter, hasK_iff, List.mem_map] at ho
    obtain ⟨⟨_, h1⟩, x, hx, rfl⟩ := ho
    exact ⟨x, hx, h1, by rw [← e, look_of hn hx]⟩
  · rintro ⟨x, hx, h1, h2⟩
    refine ⟨x.1, ?_, by rw [look_of hn hx, h2]⟩
    rw [List.mem_filter, List.mem_filter, hasK_iff, List.mem_map]
    exact ⟨⟨List.mem_range.mpr (near_ne W h1).2.2, h1⟩, x, hx, rfl⟩
theorem usedBy_len (m : Map) (d : List (Nat × Nat)) (i : Nat) : (usedBy m d i).length ≤ m.count := by
  unfold usedBy nearOf
  rw [List.length_map]
  exact Nat.le_trans (List.length_filter_le _ _) (Nat.le_trans (List.length_filter_le _ _) (Nat.le_of_eq List.length_range))
theorem free_is {m : Map} (W : WF m) {d : List (Nat × Nat)} (hn : (d.map (·.1)).Nodup) {i c : Nat} (h1 : c ∉ usedBy m d i) (h2 : ∀ e, e < c → e ∈ usedBy m d i) : freeOf m d i = c := by
  have hc : c ≤ m.count := Nat.le_trans (pigeon c _ h2) (usedBy_len m d i)
  unfold freeOf
  have e : (List.range (m.count + 1)).find? (fun c => !d.any fun x => m.near i x.1 && x.2 == c) = some c := by
    rw [List.find?_range_eq_some]
    have key : ∀ b, (d.any fun x => m.near i x.1 && x.2 == b) = true ↔ b ∈ usedBy m d i := fun b => by
      rw [mem_usedBy W hn, List.any_eq_true]
      constructor
      · rintro ⟨x, hx, q⟩
        rw [Bool.and_eq_true, beq_iff_eq] at q
        exact ⟨x, hx, q⟩
      · rintro ⟨x, hx, q⟩
        refine ⟨x, hx, ?_⟩
        rw [Bool.and_eq_true, beq_iff_eq]
        exact q
    refine ⟨?_, List.mem_range.mpr (by omega), fun e he => ?_⟩
    · rw [Bool.not_eq_true', ← Bool.not_eq_true, key]
      exact h1
    · rw [Bool.not_not, key]
      exact h2 e he
  rw [e]
  rfl
theorem plain_eq (m : Map) (o : List Nat) : m.plain o = (List.range m.count).map (look (m.greedy o [])) := rfl
theorem max_is {l : List Nat} {M : Nat} (h1 : M ∈ l) (h2 : ∀ x ∈ l, x ≤ M) : l.foldl max 0 = M := by
  have key : ∀ (l : List Nat) (a : Nat), a ≤ l.foldl max a ∧ (∀ x ∈ l, x ≤ l.foldl max a) ∧ (l.foldl max a = a ∨ l.foldl max a ∈ l) := by
    intro l
    induction l with
    | nil => exact fun a => ⟨Nat.le_refl _, fun x hx => (by cases hx), Or.inl rfl⟩
    | cons b l ih =>
      intro a
      obtain ⟨i1, i2, i3⟩ := ih (max a b)
      rw [List.foldl_cons]
      refine ⟨by omega, fun x hx => ?_, ?_⟩
      · rcases List.mem_cons.mp hx with rfl | hx
        · omega
        · exact i2 x hx
      · rcases i3 with i3 | i3
        · rw [i3]
          rcases Nat.le_total a b with q | q
          · rw [Nat.max_eq_right q]; exact .inr List.mem_cons_self
          · rw [Nat.max_eq_left q]; exact .inl rfl
        · exact .inr (List.mem_cons_of_mem _ i3)
  obtain ⟨_, k2, k3⟩ := key l 0
  have u := k2 M h1
  rcases k3 with k3 | k3
  · omega
  · have := h2 _ k3
    omega
/-! ### an order of all countries -/
theorem nodup_of_cover : ∀ (n : Nat) (l : List Nat), l.length = n → (∀ c, c < n → c ∈ l) → l.Perm (List.range n)
  | 0, l, h, _ => by
    rw [List.length_eq_zero_iff.mp h]
    exact .refl _
  | n + 1, l, h, q => by
    have hn := q n (Nat.lt_succ_self n)
    have hl : (l.erase n).length = n := by rw [List.length_erase_of_mem hn]; omega
    have ih := nodup_of_cover n (l.erase n) hl fun c hc => (List.mem_erase_of_ne (by omega)).mpr (q c (by omega))
    rw [List.range_succ]
    refine (List.perm_cons_erase hn).trans ?_
    exact (List.Perm.cons n ih).trans (List.perm_append_comm (l₁ := [n]) (l₂ := List.range n))
theorem sorted_eq : ∀ {l m : List Nat}, l.Perm m → l.Pairwise (· ≤ ·) → m.Pairwise (· ≤ ·) → l = m
  | [], m, h, _, _ => (List.nil_perm.mp h).symm
  | a :: l, [], h, _, _ => by
    have := h.length_eq
    cases this
  | a :: l, b :: m, h, h1, h2 => by
    rw [List.pairwise_cons] at h1 h2
    have hab : a = b := by
      have q1 : a ∈ b :: m := h.mem_iff.mp List.mem_cons_self
      have q2 : b ∈ a :: l := h.mem_iff.mpr List.mem_cons_self
      rcases List.mem_cons.mp q1 with e | q1
      · exact e
      · rcases List.mem_cons.mp q2 with e | q2
        · exact e.symm
        · have := h2.1 a q1
          have := h1.1 b q2
          omega
    subst hab
    rw [sorted_eq (List.Perm.cons_inv h) h1.2 h2.2]
theorem order_perm {m : Map} {o : List Nat} : m.order o = true ↔ o.Perm (List.range m.count) := by
  unfold Map.order
  rw [Bool.and_eq_true, beq_iff_eq, List.all_eq_true]
  constructor
  · rintro ⟨h1, h2⟩
    exact nodup_of_cover _ _ h1 fun c hc => List.contains_iff_mem.mp (h2 c (List.mem_range.mpr hc))
  · intro h
    refine ⟨by rw [h.length_eq, List.length_range], fun i hi => List.contains_iff_mem.mpr (h.mem_iff.mpr hi)⟩
theorem order_iff {m : Map} {o s : List Nat} (hp : s.Perm o) (hs : s.Pairwise (· ≤ ·)) : s = List.range m.count ↔ m.order o = true := by
  rw [order_perm]
  constructor
  · rintro rfl
    exact hp.symm
  · intro h
    exact sorted_eq (hp.trans h) hs List.pairwise_le_range
theorem order_nodup {m : Map} {o : List Nat} (h : m.order o = true) : o.Nodup := (order_perm.mp h).nodup_iff.mpr List.nodup_range
/-! ### steps keep a map well formed -/
theorem wf_init : WF init := ⟨Nat.le_refl 1, by decide, rfl, fun b hb => by cases hb⟩
theorem wf_step {m : Map} (W : WF m) (x : Call) : WF (step m x).1 := by
  cases x with
  | begins n =>
    unfold step
    by_cases h : n < 1 ∨ COUNTRIES < n
    · dsimp only; rw [if_pos h]; exact W
    · dsimp only; rw [if_neg h]
      unfold COUNTRIES at h
      exact ⟨by dsimp only; omega, by dsimp only; omega, List.length_replicate, fun b hb => by cases hb⟩
  | border i k =>
    unfold step
    dsimp only
    by_cases h : m.count ≤ i ∨ m.count ≤ k
    · rw [if_pos h]; exact W
    · rw [if_neg h]
      by_cases h2 : i = k
      · rw [if_pos h2]; exact W
      · rw [if_neg h2]
        by_cases h3 : m.near i k = true
        · rw [if_pos h3]; exact W
        · rw [if_neg h3]
          refine ⟨W.one, W.six, W.plen, fun b hb => ?_⟩
          rcases List.mem_append.mp hb with hb | hb
          · exact W.bd b hb
          · rw [List.mem_singleton.mp hb]
            dsimp only
            omega
  | print l =>
    unfold step
    dsimp only
    by_cases h : m.told COLOURS l = false
    · rw [if_pos h]; exact W
    · rw [if_neg h]
      rw [Bool.not_eq_false] at h
      unfold Map.told at h
      rw [Bool.and_eq_true, beq_iff_eq] at h
      exact ⟨W.one, W.six, h.1, W.bd⟩
  | ways c => unfold step; dsimp only; split <;> exact W
  | fewest => exact W
  | best c => unfold step; dsimp only; split <;> exact W
  | plain o => unfold step; dsimp only; split <;> exact W
  | check c l => unfold step; dsimp only; split <;> exact W
theorem borders_step (m : Map) (x : Call) : (step m x).1.borders.length ≤ m.borders.length + 1 := by
  cases x with
  | begins n => unfold step; dsimp only; split <;> simp
  | border i k =>
    unfold step; dsimp only
    split
    · simp
    · split
      · simp
      · split
        · simp
        · simp
  | print l => unfold step; dsimp only; split <;> simp
  | ways c => unfold step; dsimp only; split <;> simp
  | fewest => unfold step; dsimp only; omega
  | best c => unfold step; dsimp only; split <;> simp
  | plain o => unfold step; dsimp only; split <;> simp
  | check c l => unfold step; dsimp only; split <;> simp
/-! ### the calls read -/
def nI (l : List Nat) : List Int := l.map fun (n : Nat) => (n : Int)
def flat : Call → List Int
  | .begins n => [0, (n : Int)]
  | .border i k => [1, (i : Int), (k : Int)]
  | .print l => 2 :: (l.length : Int) :: nI l
  | .ways c => [3, (c : Int)]
  | .fewest => [4]
  | .best c => [5, (c : Int)]
  | .plain o => 6 :: (o.length : Int) :: nI o
  | .check c l => 7 :: (c : Int) :: (l.length : Int) :: nI l
def okX : Call → Prop
  | .print l => l.length ≤ 10
  | .plain o => o.length ≤ 10
  | .check _ l => l.length ≤ 10
  | _ => True
def outs : Map → List Call → List Int
  | _, [] => []
  | m, x :: r => ((Uw47Neutral.out (step m x).2).length : Int) :: (Uw47Neutral.out (step m x).2 ++ outs (step m x).1 r)
theorem within_nat {x : Int} (h : PyInside.within 0 4294967295 x = true) : 0 ≤ x ∧ Uw47Neutral.nat x = true := by
  unfold PyInside.within at h
  rw [Bool.and_eq_true, decide_eq_true_eq, decide_eq_true_eq] at h
  refine ⟨h.1, ?_⟩
  unfold Uw47Neutral.nat
  rw [Bool.and_eq_true, decide_eq_true_eq, decide_eq_true_eq]
  omega
theorem all_nat {l : List Int} (h : l.all (PyInside.within 0 4294967295) = true) : l.all Uw47Neutral.nat = true ∧ nI (l.map Int.toNat) = l := by
  rw [List.all_eq_true] at h
  refine ⟨List.all_eq_true.mpr fun x hx => (within_nat (h x hx)).2, ?_⟩
  unfold nI
  rw [List.map_map]
  conv => rhs; rw [← List.map_id l]
  refine List.map_congr_left fun x hx => ?_
  have := (within_nat (h x hx)).1
  show ((x.toNat : Nat) : Int) = x
  omega
theorem len0 {α : Type} {l : List α} (h : l.length = 0) : l = [] := List.length_eq_zero_iff.mp h
theorem len1 {α : Type} {l : List α} (h : l.length = 1) : ∃ a, l = [a] := List.length_eq_one_iff.mp h
theorem len2 {α : Type} {l : List α} (h : l.length = 2) : ∃ a b, l = [a, b] := by
  match l, h with
  | [a, b], _ => exact ⟨a, b, rfl⟩
def read (c : List (List Int)) : Option Call := Uw47Neutral.callOf ((PyUw47.whole c).headD [])
theorem one_call {c : List (List Int)} (h : PyFlat.okCall PyUw47.shape c) (hb : PyInside.call PyUw47.bound c = true) : ∃ x, PyFlat.put1 c = flat x ∧ read c = some x ∧ okX x := by
  obtain ⟨p, a, xs, rfl, hs⟩ := h
  have hb' : (PyInside.each (PyUw47.bound p).1 a && PyInside.lists (PyUw47.bound p).2 xs) = true := hb
  rw [Bool.and_eq_true] at hb'
  obtain ⟨b1, b2⟩ := hb'
  unfold PyUw47.shape at hs
  by_cases e0 : p = 0
  · subst e0
    rw [if_pos rfl] at hs
    obtain ⟨h1, h2⟩ := Prod.mk.inj (Option.some.inj hs)
    obtain ⟨n, rfl⟩ := len1 h1.symm
    have := len0 h2.symm; subst this
    have q : (PyInside.within 0 4294967295 n && true) = true := b1
    rw [Bool.and_true] at q
    obtain ⟨q1, q2⟩ := within_nat q
    have en : ((n.toNat : Nat) : Int) = n := by omega
    refine ⟨.begins n.toNat, ?_, ?_, trivial⟩
    · show [0, n] = [0, ((n.toNat : Nat) : Int)]
      rw [en]
    · show (if (Uw47Neutral.nat 0 && (Uw47Neutral.nat n && true)) = false then none else _) = _
      rw [q2]
      rfl
  rw [if_neg e0] at hs
  by_cases e1 : p = 1
  · subst e1
    rw [if_pos rfl] at hs
    obtain ⟨h1, h2⟩ := Prod.mk.inj (Option.some.inj hs)
    obtain ⟨n, k, rfl⟩ := len2 h1.symm
    have := len0 h2.symm; subst this
    have q : (PyInside.within 0 4294967295 n && (PyInside.within 0 4294967295 k && true)) = true := b1
    rw [Bool.and_true, Bool.and_eq_true] at q
    obtain ⟨q1, q2⟩ := within_nat q.1
    obtain ⟨q3, q4⟩ := within_nat q.2
    have en : ((n.toNat : Nat) : Int) = n := by omega
    have ek : ((k.toNat : Nat) : Int) = k := by omega
    refine ⟨.border n.toNat k.toNat, ?_, ?_, trivial⟩
    · show [1, n, k] = [1, ((n.toNat : Nat) : Int), ((k.toNat : Nat) : Int)]
      rw [en, ek]
    · show (if (Uw47Neutral.nat 1 && (Uw47Neutral.nat n && (Uw47Neutral.nat k && true))) = false then none else _) = _
      rw [q2, q4]
      rfl
  rw [if_neg e1] at hs
  by_cases e2 : p = 2
  · subst e2
    rw [if_pos rfl] at hs
    obtain ⟨h1, h2⟩ := Prod.mk.inj (Option.some.inj hs)
    have := len0 h1.symm; subst this
    obtain ⟨r, rfl⟩ := len1 h2.symm
    have q : (decide (0 ≤ r.length) && decide (r.length ≤ 10) && r.all (PyInside.within 0 4294967295) && true) = true := b2
    rw [Bool.and_true, Bool.and_eq_true, Bool.and_eq_true, decide_eq_true_eq, decide_eq_true_eq] at q
    obtain ⟨q1, q2⟩ := all_nat q.2
    refine ⟨.print (r.map Int.toNat), ?_, ?_, ?_⟩
    · show 2 :: ((r.length : Int) :: (r ++ [])) = 2 :: ((((r.map Int.toNat).length : Nat) : Int) :: nI (r.map Int.toNat))
      rw [q2, List.length_map, List.append_nil]
    · show (if (Uw47Neutral.nat 2 && r.all Uw47Neutral.nat) = false then none else if (r.map Int.toNat).length ≤ 10 then some (Call.print (r.map Int.toNat)) else none) = _
      rw [q1, if_neg (by decide), if_pos (by rw [List.length_map]; exact q.1.2)]
    · show (r.map Int.toNat).length ≤ 10
      rw [List.length_map]; exact q.1.2
  rw [if_neg e2] at hs
  by_cases e3 : p = 3
  · subst e3
    rw [if_pos rfl] at hs
    obtain ⟨h1, h2⟩ := Prod.mk.inj (Option.some.inj hs)
    obtain ⟨n, rfl⟩ := len1 h1.symm
    have := len0 h2.symm; subst this
    have q : (PyInside.within 0 4294967295 n && true) = true := b1
    rw [Bool.and_true] at q
    obtain ⟨q1, q2⟩ := within_nat q
    have en : ((n.toNat : Nat) : Int) = n := by omega
    refine ⟨.ways n.toNat, ?_, ?_, trivial⟩
    · show [3, n] = [3, ((n.toNat : Nat) : Int)]
      rw [en]
    · show (if (Uw47Neutral.nat 3 && (Uw47Neutral.nat n && true)) = false then none else _) = _
      rw [q2]
      rfl
  rw [if_neg e3] at hs
  by_cases e4 : p = 4
  · subst e4
    rw [if_pos rfl] at hs
    obtain ⟨h1, h2⟩ := Prod.mk.inj (Option.some.inj hs)
    have := len0 h1.symm; subst this
    have := len0 h2.symm; subst this
    exact ⟨.fewest, rfl, rfl, trivial⟩
  rw [if_neg e4] at hs
  by_cases e5 : p = 5
  · subst e5
    rw [if_pos rfl] at hs
    obtain ⟨h1, h2⟩ := Prod.mk.inj (Option.some.inj hs)
    obtain ⟨n, rfl⟩ := len1 h1.symm
    have := len0 h2.symm; subst this
    have q : (PyInside.within 0 4294967295 n && true) = true := b1
    rw [Bool.and_true] at q
    obtain ⟨q1, q2⟩ := within_nat q
    have en : ((n.toNat : Nat) : Int) = n := by omega
    refine ⟨.best n.toNat, ?_, ?_, trivial⟩
    · show [5, n] = [5, ((n.toNat : Nat) : Int)]
      rw [en]
    · show (if (Uw47Neutral.nat 5 && (Uw47Neutral.nat n && true)) = false then none else _) = _
      rw [q2]
      rfl
  rw [if_neg e5] at hs
  by_cases e6 : p = 6
  · subst e6
    rw [if_pos rfl] at hs
    obtain ⟨h1, h2⟩ := Prod.mk.inj (Option.some.inj hs)
    have := len0 h1.symm; subst this
    obtain ⟨r, rfl⟩ := len1 h2.symm
    have q : (decide (0 ≤ r.length) && decide (r.length ≤ 10) && r.all (PyInside.within 0 4294967295) && true) = true := b2
    rw [Bool.and_true, Bool.and_eq_true, Bool.and_eq_true, decide_eq_true_eq, decide_eq_true_eq] at q
    obtain ⟨q1, q2⟩ := all_nat q.2
    refine ⟨.plain (r.map Int.toNat), ?_, ?_, ?_⟩
    · show 6 :: ((r.length : Int) :: (r ++ [])) = 6 :: ((((r.map Int.toNat).length : Nat) : Int) :: nI (r.map Int.toNat))
      rw [q2, List.length_map, List.append_nil]
    · show (if (Uw47Neutral.nat 6 && r.all Uw47Neutral.nat) = false then none else if (r.map Int.toNat).length ≤ 10 then some (Call.plain (r.map Int.toNat)) else none) = _
      rw [q1, if_neg (by decide), if_pos (by rw [List.length_map]; exact q.1.2)]
    · show (r.map Int.toNat).length ≤ 10
      rw [List.length_map]; exact q.1.2
  rw [if_neg e6] at hs
  by_cases e7 : p = 7
  · subst e7
    rw [if_pos rfl] at hs
    obtain ⟨h1, h2⟩ := Prod.mk.inj (Option.some.inj hs)
    obtain ⟨n, rfl⟩ := len1 h1.symm
    obtain ⟨r, rfl⟩ := len1 h2.symm
    have q : (PyInside.within 0 4294967295 n && true) = true := b1
    rw [Bool.and_true] at q
    obtain ⟨q1, q2⟩ := within_nat q
    have en : ((n.toNat : Nat) : Int) = n := by omega
    have q : (decide (0 ≤ r.length) && decide (r.length ≤ 10) && r.all (PyInside.within 0 4294967295) && true) = true := b2
    rw [Bool.and_true, Bool.and_eq_true, Bool.and_eq_true, decide_eq_true_eq, decide_eq_true_eq] at q
    obtain ⟨q3, q4⟩ := all_nat q.2
    refine ⟨.check n.toNat (r.map Int.toNat), ?_, ?_, ?_⟩
    · show 7 :: n :: ((r.length : Int) :: (r ++ [])) = 7 :: ((n.toNat : Nat) : Int) :: ((((r.map Int.toNat).length : Nat) : Int) :: nI (r.map Int.toNat))
      rw [q4, en, List.length_map, List.append_nil]
    · show (if (Uw47Neutral.nat 7 && (Uw47Neutral.nat n && r.all Uw47Neutral.nat)) = false then none else if (r.map Int.toNat).length ≤ 10 then some (Call.check n.toNat (r.map Int.toNat)) else none) = _
      rw [q2, q3, if_neg (by decide), if_pos (by rw [List.length_map]; exact q.1.2)]
    · show (r.map Int.toNat).length ≤ 10
      rw [List.length_map]; exact q.1.2
  rw [if_neg e7] at hs
  cases hs
theorem all_calls : ∀ (raw : List (List (List Int))), (∀ c ∈ raw, PyFlat.okCall PyUw47.shape c) → PyInside.calls PyUw47.bound raw = true →
    ∃ xs : List Call, PyFlat.put raw = xs.flatMap flat ∧ xs.length = raw.length ∧ (∀ x ∈ xs, okX x) ∧ ∀ m, PyFlat.told (PyFlat.played (fun s c => Uw47Neutral.step s (c.headD [])) m (raw.map PyUw47.whole)) = outs m xs
  | [], _, _ => ⟨[], rfl, rfl, fun x hx => (by cases hx), fun _ => rfl⟩
  | c :: raw, h, hb => by
    have hb' : (PyInside.call PyUw47.bound c && PyInside.calls PyUw47.bound raw) = true := hb
    rw [Bool.and_eq_true] at hb'
    obtain ⟨x, e1, e2, e3⟩ := one_call (h c List.mem_cons_self) hb'.1
    obtain ⟨xs, i1, i2, i3, i4⟩ := all_calls raw (fun d hd => h d (List.mem_cons_of_mem _ hd)) hb'.2
    refine ⟨x :: xs, ?_, by rw [List.length_cons, List.length_cons, i2], fun y hy => ?_, fun m => ?_⟩
    · show PyFlat.put1 c ++ PyFlat.put raw = _
      rw [e1, i1, List.flatMap_cons]
    · rcases List.mem_cons.mp hy with rfl | hy
      · exact e3
      · exact i3 y hy
    · have es : Uw47Neutral.step m ((PyUw47.whole c).headD []) = ((step m x).1, Uw47Neutral.out (step m x).2) := by
        have e2' : Uw47Neutral.callOf ((PyUw47.whole c).headD []) = some x := e2
        unfold Uw47Neutral.step
        rw [e2']
      show PyFlat.told ((Uw47Neutral.step m ((PyUw47.whole c).headD [])).2 :: PyFlat.played _ (Uw47Neutral.step m ((PyUw47.whole c).headD [])).1 (raw.map PyUw47.whole)) = _
      rw [es]
      show _ :: (_ ++ PyFlat.told (PyFlat.played _ (step m x).1 (raw.map PyUw47.whole))) = _
      rw [i4]
      rfl
theorem asked_calls {l : List Int} (h : PyUw47.answers_asked l = true) :
    ∃ xs : List Call, l = xs.flatMap flat ∧ xs.length ≤ 60 ∧ (∀ x ∈ xs, okX x) ∧ PyUw47.answers l = outs init xs ∧ (outs init xs).length ≤ 10000000 := by
  unfold PyUw47.answers_asked at h
  cases e : PyFlat.calls PyUw47.shape l.length l with
  | none => rw [e] at h; cases h
  | some raw =>
    rw [e] at h
    dsimp only at h
    rw [Bool.and_eq_true, Bool.and_eq_true, Bool.and_eq_true, Bool.and_eq_true] at h
    obtain ⟨⟨⟨⟨_, h2⟩, h3⟩, _⟩, h5⟩ := h
    obtain ⟨p1, p2⟩ := PyFlat.put_calls _ _ _ e
    obtain ⟨xs, i1, i2, i3, i4⟩ := all_calls raw p2 h3
    have ea : PyUw47.answers l = outs init xs := by
      unfold PyUw47.answers PyUw47.calls
      rw [e]
      exact i4 _
    refine ⟨xs, p1.trans i1, ?_, i3, ea, ?_⟩
    · rw [i2]
      exact of_decide_eq_true h2
    · rw [← ea]
      exact of_decide_eq_true h5
end Mc
namespace Mc
open PySem PySem.Spec PyProof.Rows L2
open PySem.W (Codec)
/-! ### the text by places -/
def top (i : Nat) : Stmt := PySem.Challenge.pw_mapcolours_s01_answers.main.body.getD i (.Pass ⟨0, 0, 0, 0⟩)
abbrev sInit : Stmt := inClass (top 1) 0
abbrev sIsC : Stmt := inClass (top 1) 1
abbrev sHB : Stmt := inClass (top 1) 2
abbrev sNb : Stmt := inClass (top 1) 3
abbrev sCl : Stmt := inClass (top 1) 4
abbrev sCh : Stmt := inClass (top 1) 5
abbrev sLong : Stmt := top 2
abbrev sRight : Stmt := top 3
abbrev sFew : Stmt := top 4
abbrev sBestC : Stmt := top 5
abbrev sLow : Stmt := top 6
abbrev sOne : Stmt := top 7
abbrev sBord : Stmt := top 14
abbrev sIsRow : Stmt := top 15
abbrev sPrint : Stmt := top 16
abbrev sWays : Stmt := top 17
abbrev sBest : Stmt := top 18
abbrev sPlain : Stmt := top 19
abbrev sCheck : Stmt := top 20
abbrev sAnswer : Stmt := top 21
abbrev sAnswers : Stmt := top 22
/-! ### a def, a method, by its name: what a caller needs -/
structure Dn (P : Program) (w : World) (K : PySem.W.Frag) (mg : Str → Option Value) (base : Heap) (x : Str) (k : Nat) (ps : List Str) (sp : Sp) (f : Addr) (fd : FuncData) : Prop where
  ok : FnOk P w K mg base CX0 k f fd ps sp
  gl : mg x = some (.ref f)
  kp : PySem.W.keepIn K (.ref f) = true
  bi : Binds K fd ps []
structure Me (P : Program) (w : World) (K : PySem.W.Frag) (mg : Str → Option Value) (base : Heap) (C : Addr) (x : Str) (k : Nat) (ps : List Str) (sp : Sp) (f : Addr) (fd : FuncData) : Prop where
  ok : FnOk P w K mg base CX0 k f fd ps sp
  me : Meth K C x f
  bi : Binds K fd ps []
/-! ### values, lists of numbers, the map's object -/
def nV (n : Nat) : V := .int (n : Int)
def nVs (l : List Nat) : List V := l.map nV
theorem nVs_len (l : List Nat) : (nVs l).length = l.length := List.length_map _
theorem nVs_get {l : List Nat} {i : Nat} {x : Nat} (h : l[i]? = some x) : (nVs l)[i]? = some (nV x) := by
  unfold nVs
  rw [List.getElem?_map, h]
  rfl
theorem nVs_get' {l : List Nat} {i : Nat} {y : V} (h : (nVs l)[i]? = some y) : ∃ x, l[i]? = some x ∧ y = nV x := by
  unfold nVs at h
  rw [List.getElem?_map] at h
  cases e : l[i]? with
  | none => rw [e] at h; cases h
  | some x => rw [e] at h; exact ⟨x, rfl, (Option.some.inj h).symm⟩
theorem nVs_app (l r : List Nat) : nVs (l ++ r) = nVs l ++ nVs r := List.map_append
theorem nVs_nI (l : List Nat) : (nI l).map V.int = nVs l := by
  unfold nI nVs
  rw [List.map_map]
  rfl
def mF (n : Nat) (bl pl : Addr) : List (Str × V) := [("many", nV n), ("borders", .ref bl), ("printed", .ref pl)]
theorem lk_here {k : Str} {v : V} {r : List (Str × V)} : List.lookup k ((k, v) :: r) = some v := by
  have e : (k == k) = true := beq_self_eq_true k
  simp only [List.lookup, e]
theorem lk_past {k g : Str} {v : V} {r : List (Str × V)} (h : (k == g) = false) : List.lookup k ((g, v) :: r) = List.lookup k r := by
  simp only [List.lookup, h]
theorem put_here {f : Str} {v x : V} {r : List (Str × V)} : putF f v ((f, x) :: r) = (f, v) :: r := if_pos rfl
theorem put_past {f g : Str} {v x : V} {r : List (Str × V)} (h : ¬ g = f) : putF f v ((g, x) :: r) = (g, x) :: putF f v r := if_neg h
theorem mF_many (n : Nat) (bl pl : Addr) : (mF n bl pl).lookup ("many" : Str) = some (nV n) := lk_here
theorem mF_borders (n : Nat) (bl pl : Addr) : (mF n bl pl).lookup ("borders" : Str) = some (.ref bl) := (lk_past (by decide +kernel)).trans lk_here
theorem mF_printed (n : Nat) (bl pl : Addr) : (mF n bl pl).lookup ("printed" : Str) = some (.ref pl) := (lk_past (by decide +kernel)).trans ((lk_past (by decide +kernel)).trans lk_here)
theorem mF_no {f : Str} (h1 : (f == ("many" : Str)) = false) (h2 : (f == ("borders" : Str)) = false) (h3 : (f == ("printed" : Str)) = false) (n : Nat) (bl pl : Addr) : (mF n bl pl).lookup f = none := (lk_past h1).trans ((lk_past h2).trans ((lk_past h3).trans rfl))
theorem mF_put (n : Nat) (bl pl q : Addr) : putF "printed" (.ref q) (mF n bl pl) = mF n bl q := (put_past (by decide +kernel)).trans (congrArg _ ((put_past (by decide +kernel)).trans (congrArg _ put_here)))
theorem mF_new (n : Nat) (bl pl : Addr) : putF "printed" (.ref pl) (putF "borders" (.ref bl) (putF "many" (nV n) [])) = mF n bl pl := by
  have e1 : putF "many" (nV n) [] = [(("many" : Str), nV n)] := rfl
  have e2 : putF "borders" (.ref bl) [(("many" : Str), nV n)] = [(("many" : Str), nV n), ("borders", .ref bl)] := (put_past (by decide +kernel)).trans rfl
  rw [e1, e2]
  exact (put_past (by decide +kernel)).trans (congrArg _ ((put_past (by decide +kernel)).trans rfl))
/-- tuples of two numbers at ts -/
def Tups (H : Hp) (ts : List Addr) (ps : List (Nat × Nat)) : Prop := Paired (fun t (b : Nat × Nat) => H t = some (.tup [nV b.1, nV b.2])) ts ps
structure MapAt (C : Addr) (H : Hp) (p bl : Addr) (m : Uw47.Map) : Prop where
  wf : WF m
  ex : ∃ (dx pl : Addr) (ts : List Addr), H p = some (.ins C dx (mF m.count bl pl)) ∧ H bl = some (.lst (ts.map V.ref)) ∧ H pl = some (.lst (nVs m.printed)) ∧ pl ≠ bl ∧ Tups H ts (m.borders.map bp)
theorem Tups.same {H H' : Hp} {ts : List Addr} {ps : List (Nat × Nat)} (s : Same H H') (h : Tups H ts ps) : Tups H' ts ps := Paired.mapP h fun _ _ e => s _ _ e
theorem MapAt.same {C : Addr} {H H' : Hp} {p bl : Addr} {m : Uw47.Map} (s : Same H H') (h : MapAt C H p bl m) : MapAt C H' p bl m := by
  obtain ⟨W, dx, pl, ts, h1, h2, h3, h4, h5⟩ := h
  exact ⟨W, dx, pl, ts, s _ _ h1, s _ _ h2, s _ _ h3, h4, h5.same s⟩
theorem same_upd {H : Hp} {p : Addr} {o : HO} (h : H p = none) : Same H (upd H p o) := fun b u e => by
  rw [upd_ne (ne_of_none e h)]
  exact e
/-- where the printed colours of the map at p lie -/
def plOf (H : Hp) (p : Addr) : Option Addr := match H p with
  | some (.ins _ _ fs) => match fs.lookup ("printed" : Str) with
    | some (.ref q) => some q
    | _ => none
  | _ => none
theorem plOf_mF {H : Hp} {p C dx bl pl : Addr} {n : Nat} (h : H p = some (.ins C dx (mF n bl pl))) : plOf H p = some pl := by
  unfold plOf
  rw [h]
  dsimp only
  rw [mF_printed]
theorem plOf_eq {H H' : Hp} {p : Addr} (h : H' p = H p) : plOf H' p = plOf H p := by
  unfold plOf
  rw [h]
theorem upd_none {H : Hp} {a b : Addr} {o : HO} (h : upd H a o b = none) : H b = none := by
  by_cases e : b = a
  · subst e
    rw [upd_same] at h
    cases h
  · rw [upd_ne e] at h
    exact h
theorem MapAt.upd {C : Addr} {H : Hp} {p bl fo : Addr} {m : Uw47.Map} {zs ys : List V} (h : MapAt C H p bl m) (hf : H fo = some (.lst zs)) (n1 : fo ≠ bl) (n2 : plOf H p ≠ some fo) : MapAt C (upd H fo (.lst ys)) p bl m ∧ plOf (upd H fo (.lst ys)) p = plOf H p := by
  obtain ⟨W, dx, pl, ts, h1, h2, h3, h4, h5⟩ := h
  have e1 : p ≠ fo := ne_of h1 hf (by intro z; cases z)
  have e2 : pl ≠ fo := fun e => n2 (by rw [plOf_mF h1, e])
  refine ⟨⟨W, dx, pl, ts, by rw [upd_ne e1]; exact h1, by rw [upd_ne n1.symm]; exact h2, by rw [upd_ne e2]; exact h3, h4, ?_⟩, plOf_eq (by rw [upd_ne e1])⟩
  refine Paired.mapP h5 fun t b e => ?_
  rw [upd_ne (ne_of e hf (by intro z; cases z))]
  exact e
theorem Tups.len {H : Hp} {ts : List Addr} {ps : List (Nat × Nat)} (h : Tups H ts ps) : ts.length = ps.length := Paired.length h
/-! ### rows of rows -/
def Rows (H : Hp) (as : List Addr) (rs : List (List Nat)) : Prop := Paired (fun a (r : List Nat) => H a = some (.lst (nVs r))) as rs
theorem Rows.same {H H' : Hp} {as : List Addr} {rs : List (List Nat)} (s : Same H H') (h : Rows H as rs) : Rows H' as rs := Paired.mapP h fun _ _ e => s _ _ e
theorem Rows.len {H : Hp} {as : List Addr} {rs : List (List Nat)} (h : Rows H as rs) : as.length = rs.length := Paired.length h
theorem Paired.app {α β : Type} {F : α → β → Prop} : ∀ {l₁ : List α} {l₂ : List β} {r₁ : List α} {r₂ : List β}, Paired F l₁ l₂ → Paired F r₁ r₂ → Paired F (l₁ ++ r₁) (l₂ ++ r₂)
  | _, _, _, _, .nil, s => s
  | _, _, _, _, .cons r t, s => .cons r (Paired.app t s)
theorem Paired.at {α β : Type} {F : α → β → Prop} : ∀ {l₁ : List α} {l₂ : List β} {i : Nat} {a : α}, Paired F l₁ l₂ → l₁[i]? = some a → ∃ b, l₂[i]? = some b ∧ F a b
  | _, _, _, _, .nil, e => by simp at e
  | _, _, 0, _, .cons r _, e => by
    simp at e
    subst e
    exact ⟨_, rfl, r⟩
  | _, _, i + 1, a, .cons _ t, e => by
    obtain ⟨b, h1, h2⟩ := Paired.at (i := i) (a := a) t (by simpa using e)
    exact ⟨b, by simpa using h1, h2⟩
/-- the list at p holds the rows rs -/
def RowsAt (H : Hp) (p : Addr) (rs : List (List Nat)) : Prop := ∃ as : List Addr, H p = some (.lst (as.map V.ref)) ∧ Rows H as rs
theorem RowsAt.same {H H' : Hp} {p : Addr} {rs : List (List Nat)} (s : Same H H') (h : RowsAt H p rs) : RowsAt H' p rs := by
  obtain ⟨as, h1, h2⟩ := h
  exact ⟨as, s _ _ h1, h2.same s⟩
/-! ### data -/
theorem ints_lay : ∀ l : List Nat, PyData.canLayAll0 (l.map fun (n : Nat) => PyData.int (n : Int)) = true
  | [] => by simp [PyData.canLayAll0]
  | z :: zs => by simp [PyData.canLayAll0, PyData.canLay0, ints_lay zs]
theorem ints_depth : ∀ l : List Nat, PyData.depthAll (l.map fun (n : Nat) => PyData.int (n : Int)) ≤ 1
  | [] => by simp [PyData.depthAll]
  | z :: zs => by
    have h1 := ints_depth zs
    simp only [List.map_cons, PyData.depthAll, PyData.depth]
    omega
def dI (l : List Nat) : PyData := .list (l.map fun (n : Nat) => PyData.int (n : Int))
theorem dI_lay (l : List Nat) : (dI l).canLay0 = true := by
  unfold dI
  simp only [PyData.canLay0]
  exact ints_lay l
theorem dI_depth (l : List Nat) : (dI l).depth ≤ 3 := by
  have h := ints_depth l
  unfold dI
  simp only [PyData.depth]
  omega
theorem dI_shaped (l : List Nat) : SeqAt.shaped (dI l) = true := by
  have h := dI_depth l
  show ((dI l).canLay0 && decide ((dI l).depth ≤ 64)) = true
  rw [Bool.and_eq_true]
  exact ⟨dI_lay l, decide_eq_true (by omega)⟩
theorem dIs_lay : ∀ rs : List (List Nat), PyData.canLayAll0 (rs.map dI) = true
  | [] => by simp [PyData.canLayAll0]
  | z :: zs => by simp [PyData.canLayAll0, dI_lay z, dIs_lay zs]
theorem dIs_depth : ∀ rs : List (List Nat), PyData.depthAll (rs.map dI) ≤ 3
  | [] => by simp [PyData.depthAll]
  | z :: zs => by
    have h1 := dIs_depth zs
    have h2 := dI_depth z
    simp only [List.map_cons, PyData.depthAll]
    omega
theorem dIs_shaped (rs : List (List Nat)) : SeqAt.shaped (.list (rs.map dI)) = true := by
  have h1 := dIs_depth rs
  have h2 : PyData.depth (.list (rs.map dI)) ≤ 64 := by
    simp only [PyData.depth]
    omega
  show (PyData.canLay0 (.list (rs.map dI)) && decide (PyData.depth (.list (rs.map dI)) ≤ 64)) = true
  rw [Bool.and_eq_true]
  exact ⟨by simp only [PyData.canLay0]; exact dIs_lay rs, decide_eq_true h2⟩
theorem dp_ints {K : PySem.W.Frag} {H : Hp} : ∀ l : List Nat, DpAll K H (nVs l) (l.map fun (n : Nat) => PyData.int (n : Int))
  | [] => .nil
  | a :: l => .cons (.int (a : Int)) (dp_ints l)
theorem dp_list {K : PySem.W.Frag} {H : Hp} {a : Addr} {l : List Nat} (h : SqL K H a (nVs l)) : Dp K H (.ref a) (dI l) := .lst h (dp_ints l)
theorem dp_rows {K : PySem.W.Frag} {H : Hp} : ∀ {as : List Addr} {rs : List (List Nat)}, Rows H as rs → DpAll K H (as.map V.ref) (rs.map dI)
  | _, _, .nil => .nil
  | _, _, .cons r t => .cons (dp_list (SqL.of r)) (dp_rows t)
theorem dp_rowsAt {K : PySem.W.Frag} {H : Hp} {p : Addr} {rs : List (List Nat)} (h : RowsAt H p rs) : Dp K H (.ref p) (.list (rs.map dI)) := by
  obtain ⟨as, h1, h2⟩ := h
  exact .lst (SqL.of h1) (dp_rows h2)
theorem nil_shaped : SeqAt.shaped (.list []) = true := dIs_shaped []
theorem eqv_nil (ds : List PyData) : PyData.eqv (.list ds) (.list []) = ds.isEmpty := by
  cases ds with
  | nil => simp [PyData.eqv, PyData.eqvAll]
  | cons a r => simp [PyData.eqv, PyData.eqvAll]
def dP (b : Nat × Nat) : PyData := .tuple [.int (b.1 : Int), .int (b.2 : Int)]
theorem dP_lay (z : Nat × Nat) : (dP z).canLay0 = true := by simp [dP, PyData.canLay0, PyData.canLayAll0]
theorem dP_depth (z : Nat × Nat) : (dP z).depth ≤ 3 := by simp [dP, PyData.depth, PyData.depthAll]
theorem dP_shaped (l : Nat × Nat) : SeqAt.shaped (dP l) = true := by
  have h := dP_depth l
  show ((dP l).canLay0 && decide ((dP l).depth ≤ 64)) = true
  rw [Bool.and_eq_true]
  exact ⟨dP_lay l, decide_eq_true (by omega)⟩
theorem dPs_lay : ∀ rs : List (Nat × Nat), PyData.canLayAll0 (rs.map dP) = true
  | [] => by simp [PyData.canLayAll0]
  | z :: zs => by simp [PyData.canLayAll0, dP_lay z, dPs_lay zs]
theorem dPs_depth : ∀ rs : List (Nat × Nat), PyData.depthAll (rs.map dP) ≤ 3
  | [] => by simp [PyData.depthAll]
  | z :: zs => by
    have h1 := dPs_depth zs
    have h2 := dP_depth z
    simp only [List.map_cons, PyData.depthAll]
    omega
theorem dPs_shaped (rs : List (Nat × Nat)) : SeqAt.shaped (.list (rs.map dP)) = true := by
  have h1 := dPs_depth rs
  have h2 : PyData.depth (.list (rs.map dP)) ≤ 64 := by
    simp only [PyData.depth]
    omega
  show (PyData.canLay0 (.list (rs.map dP)) && decide (PyData.depth (.list (rs.map dP)) ≤ 64)) = true
  rw [Bool.and_eq_true]
  exact ⟨by simp only [PyData.canLay0]; exact dPs_lay rs, decide_eq_true h2⟩
theorem dP_eqv (z w : Nat × Nat) : PyData.eqv (dP z) (dP w) = decide (z = w) := by
  have e : PyData.eqv (dP z) (dP w) = (((z.1 : Int) == (w.1 : Int)) && (((z.2 : Int) == (w.2 : Int)) && true)) := by simp only [dP, PyData.eqv, PyData.eqvAll]
  rw [e, Bool.and_true, Bool.eq_iff_iff, Bool.and_eq_true, beq_iff_eq, beq_iff_eq, decide_eq_true_eq]
  constructor
  · rintro ⟨h1, h2⟩
    exact Prod.ext (by omega) (by omega)
  · rintro rfl
    exact ⟨rfl, rfl⟩
theorem dp_tups {K : PySem.W.Frag} {H : Hp} : ∀ {ts : List Addr} {ps : List (Nat × Nat)}, Tups H ts ps → DpAll K H (ts.map V.ref) (ps.map dP)
  | _, _, .nil => .nil
  | _, _, .cons r t => .cons (.tup (SqT.of r) (.cons (.int _) (.cons (.int _) .nil))) (dp_tups t)
theorem near_any (m : Uw47.Map) (i k : Nat) : ((m.borders.map bp).map dP).any (fun z => PyData.eqv z (dP (bp (i, k)))) = m.near i k := by
  rw [Bool.eq_iff_iff, near_iff, List.any_eq_true]
  constructor
  · rintro ⟨d, hd, e⟩
    obtain ⟨b, hb, rfl⟩ := List.mem_map.mp hd
    rw [dP_eqv, decide_eq_true_eq] at e
    rw [← e]
    exact hb
  · intro h
    exact ⟨dP (bp (i, k)), List.mem_map.mpr ⟨_, h, rfl⟩, by rw [dP_eqv]; exact decide_eq_true rfl⟩
/-! ### what the top has written -/
structure Txt (K : PySem.W.Frag) (mg : Str → Option Value) (C : Addr) : Prop where
  cl : Cls K C
  nM : NoAttr K C "many"
  nB : NoAttr K C "borders"
  nP : NoAttr K C "printed"
  gC : mg "Map" = some (.ref C)
  len : mg "len" = none
  min : mg "min" = none
  max : mg "max" = none
  range : mg "range" = none
  sorted : mg "sorted" = none
  list : mg "list" = none
  all : mg "all" = none
  gBeg : ∃ t, mg "BEGINS" = some (.int 0 t)
  gCou : ∃ t, mg "MOST_COUNTRIES" = some (.int 6 t)
  gCol : ∃ t, mg "MOST_COLOURS" = some (.int 4 t)
end Mc
namespace Mc
open PySem PySem.Spec PyProof.Rows L2
open PySem.W (Codec)
section
variable {P : Program} {w : World} {K : PySem.W.Frag} {mg : Str → Option Value} {base : Heap} {C : Addr}
/-! ### __init__ -/
def spInit (C : Addr) : Sp := fun vs H Q _ => ∃ (p dx : Addr) (n : Nat), vs = [.ref p, nV n] ∧ H p = some (.ins C dx []) ∧ 1 ≤ n ∧ n ≤ 6 ∧
  ∀ (H' : Hp) (bl : Addr), MapAt C H' p bl ⟨n, [], List.replicate n 0⟩ → H bl = none → (∀ q, plOf H' p = some q → H q = none) → (∀ b o, H b = some o → b ≠ p → H' b = some o) → Q .non H'
theorem scInit : FnScope ["self", "many"] ["self", "many"] (defScope sInit) := ⟨rfl, rfl, rfl, by decide +kernel, rfl, by decide +kernel, by decide +kernel⟩
theorem rep_zero (n : Nat) : (List.replicate n ([V.int 0] : List V)).flatten = nVs (List.replicate n 0) := by
  induction n with
  | zero => rfl
  | succ n ih =>
    rw [List.replicate_succ, List.replicate_succ, List.flatten_cons, ih]
    rfl
theorem ok_init {f : Addr} {fd : FuncData} (F : Fun K "__init__" "Map.__init__" sInit f fd) (T : Txt K mg C) : FnOk P w K mg base CX0 1 f fd ["self", "many"] (spInit C) := by
  refine F.ok scInit (fun vs H Q E h => ?_) (fun cdv A outer s H vs Q E hr h => ?_)
  · obtain ⟨p, dx, n, rfl, _⟩ := h
    rfl
  · obtain ⟨p, dx, n, rfl, hp, n1, n6, k⟩ := h
    refine ⟨_, pss_cons (ps_fld (pv 0) (pv 1) rfl) (pss_cons (ps_fld (pv 0) (pe_lst pa_nil) rfl) (pss_one (ps_fld (pv 0) (pe_op op_rep (pe_lst (pa_cons pe_int pa_nil)) (pv 1)) rfl))), ?_⟩
    refine ⟨_, rfl, _, rfl, p, C, dx, [], rfl, hp, T.cl, T.nM, (by show 0 < 1000; decide), ?_⟩
    refine ⟨Nat.zero_le _, fun bl hbl => ?_⟩
    have nbp : p ≠ bl := ne_of_none upd_same hbl
    refine ⟨_, rfl, p, C, dx, _, rfl, (by rw [upd_ne nbp]; exact upd_same), T.cl, T.nB, (by show 1 < 1000; decide), ?_⟩
    refine ⟨(by show 1 ≤ sizeLine; decide), fun q hq => ?_⟩
    refine ⟨_, rfl, q, (n : Int), _, rfl, rfl, upd_same, (by omega), (by omega), (by show 1 * ((n : Int)).toNat ≤ sizeLine; exact Nat.le_trans (by omega : 1 * ((n : Int)).toNat ≤ 6) (by decide)), fun pl hpl => ?_⟩
    have npq : p ≠ q := ne_of_none upd_same hq
    have nqpl : q ≠ pl := ne_of_none upd_same hpl
    have nppl : p ≠ pl := ne_of_none (by rw [upd_ne npq]; exact upd_same) hpl
    have nbq : bl ≠ q := ne_of_none (H := upd (upd (upd H p _) bl _) p _) (by rw [upd_ne nbp.symm]; exact upd_same) hq
    have nbpl : bl ≠ pl := ne_of_none (by rw [upd_ne nbq, upd_ne nbp.symm]; exact upd_same) hpl
    refine ⟨_, rfl, p, C, dx, _, rfl, (by rw [upd_ne nppl, upd_ne npq]; exact upd_same), T.cl, T.nP, (by show 2 < 1000; decide), ?_⟩
    refine k _ bl ⟨⟨n1, n6, List.length_replicate, fun b hb => by cases hb⟩, dx, pl, [], ?_, ?_, ?_, nbpl.symm, .nil⟩ ?_ (fun q' hq' => ?_) ?_
    · exact Eq.trans upd_same (congrArg (fun q => some (HO.ins C dx q)) (mF_new n bl pl))
    · rw [upd_ne nbp.symm, upd_ne nbpl, upd_ne nbq, upd_ne nbp.symm]
      exact upd_same
    · rw [upd_ne nppl.symm, upd_same]
      have e : ((n : Int)).toNat = n := by omega
      rw [e]
      exact congrArg (fun z => some (HO.lst z)) (rep_zero n)
    · rw [upd_ne nbp.symm] at hbl
      exact hbl
    · rw [plOf_mF (Eq.trans upd_same (congrArg (fun q => some (HO.ins C dx q)) (mF_new n bl pl)))] at hq'
      cases hq'
      exact upd_none (upd_none (upd_none (upd_none hpl)))
    · intro b o e hb
      have h1 : b ≠ bl := ne_of_none (by rw [upd_ne hb]; exact e) hbl
      have h2 : b ≠ q := ne_of_none (by rw [upd_ne hb, upd_ne h1, upd_ne hb]; exact e) hq
      have h3 : b ≠ pl := ne_of_none (by rw [upd_ne h2, upd_ne hb, upd_ne h1, upd_ne hb]; exact e) hpl
      rw [upd_ne hb, upd_ne h3, upd_ne h2, upd_ne hb, upd_ne h1, upd_ne hb]
      exact e
/-! ### is_country -/
def spIsC (C : Addr) : Sp := fun vs H Q _ => ∃ (p bl : Addr) (m : Uw47.Map) (i : Nat), vs = [.ref p, nV i] ∧ MapAt C H p bl m ∧ Q (.bl (decide (i < m.count))) H
theorem scIsC : FnScope ["self", "number"] ["self", "number"] (defScope sIsC) := ⟨rfl, rfl, rfl, by decide +kernel, rfl, by decide +kernel, by decide +kernel⟩
theorem ok_isC {f : Addr} {fd : FuncData} (F : Fun K "is_country" "Map.is_country" sIsC f fd) (T : Txt K mg C) : FnOk P w K mg base CX0 1 f fd ["self", "number"] (spIsC C) := by
  refine F.ok scIsC (fun vs H Q E h => ?_) (fun cdv A outer s H vs Q E hr h => ?_)
  · obtain ⟨p, bl, m, i, rfl, _⟩ := h
    rfl
  · obtain ⟨p, bl, m, i, rfl, ⟨W, dx, pl, ts, h1, h2, h3, h4, h5⟩, k⟩ := h
    refine ⟨_, pss_one (ps_ret (pe_chain op_le op_lt pe_int (pv 1) (pe_fld (pv 0) rfl))), ?_⟩
    refine ⟨_, rfl, _, _, rfl, rfl, _, rfl, ?_⟩
    rw [if_pos (decide_eq_true (by omega))]
    refine ⟨_, rfl, p, C, dx, _, _, rfl, h1, T.cl, T.nM, mF_many _ _ _, _, _, rfl, rfl, ?_⟩
    have e : decide ((i : Int) < (m.count : Int)) = decide (i < m.count) := by
      rw [Bool.eq_iff_iff, decide_eq_true_eq, decide_eq_true_eq]
      omega
    show Q (V.bl (decide ((i : Int) < (m.count : Int)))) H
    rw [e]
    exact k
/-! ### have_border -/
def spHB (C : Addr) : Sp := fun vs H Q _ => ∃ (p bl : Addr) (m : Uw47.Map) (i j : Nat), vs = [.ref p, nV i, nV j] ∧ MapAt C H p bl m ∧ ∀ H', Same H H' → Q (.bl (m.near i j)) H'
theorem scHB : FnScope ["self", "one", "other"] ["self", "one", "other"] (defScope sHB) := ⟨rfl, rfl, rfl, by decide +kernel, rfl, by decide +kernel, by decide +kernel⟩
theorem min_nV (i j : Nat) : V.int (if (j : Int) < (i : Int) then (j : Int) else (i : Int)) = nV (min i j) := by
  unfold nV
  refine congrArg V.int ?_
  split <;> omega
theorem max_nV (i j : Nat) : V.int (if (j : Int) > (i : Int) then (j : Int) else (i : Int)) = nV (max i j) := by
  unfold nV
  refine congrArg V.int ?_
  split <;> omega
theorem ok_HB {f : Addr} {fd : FuncData} (F : Fun K "have_border" "Map.have_border" sHB f fd) (T : Txt K mg C) : FnOk P w K mg base CX0 1 f fd ["self", "one", "other"] (spHB C) := by
  refine F.ok scHB (fun vs H Q E h => ?_) (fun cdv A outer s H vs Q E hr h => ?_)
  · obtain ⟨p, bl, m, i, j, rfl, _⟩ := h
    rfl
  · obtain ⟨p, bl, m, i, j, rfl, ⟨W, dx, pl, ts, h1, h2, h3, h4, h5⟩, k⟩ := h
    have hu : (A.deeper (envOfC "Map.have_border" (defScope sHB) s.heap.objs.size f cdv)).units + 65 < cLine := by
      have := hr.un
      omega
    refine ⟨_, pss_one (ps_ret (pe_cmpR (op_inD hu) (pe_tup (pa_cons (pe_callB (call_min2 rfl) (by rfl) T.min (by decide +kernel) (pa_cons (pv 1) (pa_cons (pv 2) pa_nil))) (pa_cons (pe_callB (call_max2 rfl) (by rfl) T.max (by decide +kernel) (pa_cons (pv 1) (pa_cons (pv 2) pa_nil))) pa_nil))) (pe_fld (pv 0) rfl) (by rfl))), ?_⟩
    refine ⟨_, rfl, _, rfl, (i : Int), (j : Int), rfl, _, rfl, _, rfl, (i : Int), (j : Int), rfl, (by show 2 ≤ sizeLine; decide), fun t ht => ?_⟩
    rw [min_nV, max_nV]
    have s1 := same_upd (o := .tup [nV (min i j), nV (max i j)]) ht
    refine ⟨_, rfl, p, C, dx, _, _, rfl, s1 _ _ h1, T.cl, T.nB, mF_borders _ _ _, dP (bp (i, j)), (m.borders.map bp).map dP, .tup (SqT.of upd_same) (.cons (.int _) (.cons (.int _) .nil)), .lst (SqL.of (s1 _ _ h2)) (dp_tups (h5.same s1)), dP_shaped _, dPs_shaped _, ?_⟩
    rw [near_any]
    exact k _ s1
end
end Mc
namespace Mc
open PySem PySem.Spec PyProof.Rows L2
open PySem.W (Codec)
section
variable {P : Program} {w : World} {K : PySem.W.Frag} {mg : Str → Option Value} {base : Heap} {C : Addr}
theorem filt_true {p : Nat → Bool} {i : Nat} (h : p i = true) : (List.range (i + 1)).filter p = (List.range i).filter p ++ [i] := by
  rw [List.range_succ, List.filter_append, List.filter_cons_of_pos h]
  rfl
theorem filt_false {p : Nat → Bool} {i : Nat} (h : p i = false) : (List.range (i + 1)).filter p = (List.range i).filter p := by
  rw [List.range_succ, List.filter_append, List.filter_cons_of_neg (by rw [h]; exact Bool.false_ne_true)]
  simp
theorem filt_len (p : Nat → Bool) (i : Nat) : ((List.range i).filter p).length ≤ i := Nat.le_trans (List.length_filter_le _ _) (Nat.le_of_eq List.length_range)
theorem zV (i : Nat) : V.int (0 + (i : Int)) = nV i := by
  unfold nV
  rw [Int.zero_add]
theorem line6 {n : Nat} (h : n ≤ 100000) : n < sizeLine := Nat.lt_of_le_of_lt h (by decide)
/-- a new list at D grows; all that was there before stands -/
theorem same_grow {H H' : Hp} {D : Addr} {o : HO} (hD : H D = none) (s : Same H H') : Same H (upd H' D o) := fun b u e => by
  rw [upd_ne (ne_of_none e hD)]
  exact s b u e
/-! ### neighbours -/
def spNb (C : Addr) : Sp := fun vs H Q _ => ∃ (p bl : Addr) (m : Uw47.Map) (k : Nat), vs = [.ref p, nV k] ∧ MapAt C H p bl m ∧ ∀ (H' : Hp) (r : Addr), Same H H' → H r = none → H' r = some (.lst (nVs (nearOf m k))) → Q (.ref r) H'
abbrev nNb : List Str := ["self", "country", "other"]
theorem scNb : FnScope nNb ["self", "country"] (defScope sNb) := ⟨rfl, rfl, rfl, by decide +kernel, rfl, by decide +kernel, by decide +kernel⟩
theorem ok_Nb {f f1 : Addr} {fd fd1 : FuncData} (F : Fun K "neighbours" "Map.neighbours" sNb f fd) (T : Txt K mg C) (HB : Me P w K mg base C "have_border" 1 ["self", "one", "other"] (spHB C) f1 fd1) : FnOk P w K mg base CX0 2 f fd ["self", "country"] (spNb C) := by
  refine F.ok scNb (fun vs H Q E h => ?_) (fun cdv A outer s H vs Q E hr h => ?_)
  · obtain ⟨p, bl, m, i, rfl, _⟩ := h
    rfl
  · obtain ⟨p, bl, m, c, rfl, hM, k⟩ := h
    obtain ⟨W, dx, pl, ts, h1, h2, h3, h4, h5⟩ := hM
    have hM : MapAt C H p bl m := ⟨W, dx, pl, ts, h1, h2, h3, h4, h5⟩
    refine ⟨_, pss_one (ps_ret (pe_lc (own := [("other", 2)]) (g := gName 2) rfl scNb.nd (pi_range1 rfl T.range (pa_cons (pe_fld (pv 0) rfl) pa_nil)) (blkOk_by (N := nNb) (sc := defScope sNb) (by decide +kernel))
      (fun _ _ _ _ _ => pg_name (i := 2) scNb.nd rfl (Or.inl rfl))
      (fun _ _ _ _ _ => pts_one (pt_val (pe_meth (pv 0) T.cl HB.me HB.ok hr HB.bi .nil pass0 (pa_cons (pv 1) (pa_cons (pv 2) pa_nil)))))
      (fun _ _ _ _ _ => pv 2))), ?_⟩
    have six := W.six
    refine ⟨_, rfl, p, C, dx, _, _, rfl, h1, T.cl, T.nM, mF_many _ _ _, (m.count : Int), rfl, by omega, by omega, fun D hD => lc_range (lo := 0) (n := m.count) (fun i H' => Same H H' ∧ H' D = some (.lst (nVs ((List.range i).filter fun o => m.near c o))))
      ⟨same_upd hD, upd_same⟩ ?_ ?_⟩
    · rintro i H' hi ⟨s1, hd⟩
      rw [zV]
      refine ⟨rfl, ?_⟩
      refine ⟨_, rfl, p, dx, _, rfl, s1 _ _ h1, mF_no (by decide +kernel) (by decide +kernel) (by decide +kernel) _ _ _, _, rfl, _, rfl, p, bl, m, c, i, rfl, hM.same s1, fun H2 s2 => ⟨_, rfl, ?_⟩⟩
      cases e : m.near c i with
      | true =>
        refine iteT ?_
        refine ⟨_, rfl, _, s2 _ _ hd, line6 (by rw [nVs_len]; have := filt_len (fun o => m.near c o) i; omega), same_grow hD (s1.trans s2), ?_⟩
        rw [upd_same, filt_true e, nVs_app]
        rfl
      | false =>
        refine iteF ⟨s1.trans s2, ?_⟩
        rw [filt_false e]
        exact s2 _ _ hd
    · rintro H' ⟨s1, hd⟩
      exact k H' D s1 hD hd
/-! ### changes -/
def spCh (C : Addr) : Sp := fun vs H Q _ => ∃ (p bl a : Addr) (m : Uw47.Map) (l : List Nat), vs = [.ref p, .ref a] ∧ MapAt C H p bl m ∧ H a = some (.lst (nVs l)) ∧ l.length = m.count ∧ ∀ H' : Hp, Same H H' → Q (nV (Uw47.changed l m.printed)) H'
abbrev nCh : List Str := ["self", "colouring", "country"]
theorem scCh : FnScope nCh ["self", "colouring"] (defScope sCh) := ⟨rfl, rfl, rfl, by decide +kernel, rfl, by decide +kernel, by decide +kernel⟩
theorem nV_dec (a b : Nat) : decide (nV a = nV b) = (a == b) := by
  rw [Bool.eq_iff_iff, decide_eq_true_eq, beq_iff_eq]
  constructor
  · intro h
    have := V.int.inj h
    omega
  · rintro rfl
    rfl
theorem get_nVs {l : List Nat} {i : Nat} (h : i < l.length) : (nVs l)[i]? = some (nV (l.getD i 0)) := by
  refine nVs_get ?_
  rw [List.getD_eq_getElem?_getD, List.getElem?_eq_getElem h]
  rfl
theorem ok_Ch {f : Addr} {fd : FuncData} (F : Fun K "changes" "Map.changes" sCh f fd) (T : Txt K mg C) : FnOk P w K mg base CX0 1 f fd ["self", "colouring"] (spCh C) := by
  refine F.ok scCh (fun vs H Q E h => ?_) (fun cdv A outer s H vs Q E hr h => ?_)
  · obtain ⟨p, bl, a, m, l, rfl, _⟩ := h
    rfl
  · obtain ⟨p, bl, a, m, l, rfl, hM, ha, hl, k⟩ := h
    obtain ⟨W, dx, pl, ts, h1, h2, h3, h4, h5⟩ := hM
    refine ⟨_, pss_one (ps_ret (pe_callB call_len_seq (by rfl) T.len PySem.boot_len (pa_cons (pe_lc (own := [("country", 2)]) (g := gName 2) (tt := tTest (tOp rNe (tOp (rIxL K) (tVar 1) (tVar 2)) (tOp (rIxL K) (tFld K (tVar 0) "printed") (tVar 2)))) rfl scCh.nd (pi_range1 rfl T.range (pa_cons (pe_fld (pv 0) rfl) pa_nil)) (blkOk_by (N := nCh) (sc := defScope sCh) (by decide +kernel))
      (fun _ _ _ _ _ => pg_name (i := 2) scCh.nd rfl (Or.inl rfl))
      (fun _ _ _ _ _ => pts_one (pt_cmpR op_ne (pe_ix ix_list (pv 1) (pv 2) (fun _ _ => rfl)) (pe_ix ix_list (pe_fld (pv 0) rfl) (pv 2) (fun _ _ => rfl)) (nomark _)))
      (fun _ _ _ _ _ => pv 2)) pa_nil))), ?_⟩
    have six := W.six
    refine ⟨_, rfl, p, C, dx, _, _, rfl, h1, T.cl, T.nM, mF_many _ _ _, (m.count : Int), rfl, by omega, by omega, fun D hD => lc_range (lo := 0) (n := m.count) (fun i H' => Same H H' ∧ H' D = some (.lst (nVs ((List.range i).filter fun o => l.getD o 0 != m.printed.getD o 0))))
      ⟨same_upd hD, upd_same⟩ ?_ ?_⟩
    · rintro i H' hi ⟨s1, hd⟩
      rw [zV]
      refine ⟨rfl, ?_⟩
      have pl' := W.plen
      refine ⟨_, rfl, _, rfl, a, _, _, _, rfl, rfl, SqL.of (s1 _ _ ha), atI_nat (get_nVs (by omega)), _, rfl, p, C, dx, _, _, rfl, s1 _ _ h1, T.cl, T.nP, mF_printed _ _ _, _, rfl, pl, _, _, _, rfl, rfl, SqL.of (s1 _ _ h3), atI_nat (get_nVs (by omega)), rfl, _, rfl, ?_⟩
      rw [nV_dec]
      cases e : (l.getD i 0 == m.printed.getD i 0) with
      | false =>
        have e2 : (fun o => l.getD o 0 != m.printed.getD o 0) i = true := by
          show (!(l.getD i 0 == m.printed.getD i 0)) = true
          rw [e]
          rfl
        refine iteT ?_
        refine ⟨_, rfl, _, hd, line6 (by rw [nVs_len]; have := filt_len (fun o => l.getD o 0 != m.printed.getD o 0) i; omega), same_grow hD s1, ?_⟩
        rw [upd_same, filt_true (p := fun o => l.getD o 0 != m.printed.getD o 0) (i := i) e2, nVs_app]
        rfl
      | true =>
        have e2 : (fun o => l.getD o 0 != m.printed.getD o 0) i = false := by
          show (!(l.getD i 0 == m.printed.getD i 0)) = false
          rw [e]
          rfl
        refine iteF ⟨s1, ?_⟩
        rw [filt_false (p := fun o => l.getD o 0 != m.printed.getD o 0) (i := i) e2]
        exact hd
    · rintro H' ⟨s1, hd⟩
      refine ⟨D, _, rfl, .inl (SqL.of hd), ?_⟩
      rw [nVs_len, changed_is hl W.plen]
      exact k H' s1
end
end Mc
namespace Mc
open PySem PySem.Spec PyProof.Rows L2
open PySem.W (Codec)
section
variable {P : Program} {w : World} {K : PySem.W.Frag} {mg : Str → Option Value} {base : Heap} {C : Addr}
/-! ### clash -/
def clashL (m : Uw47.Map) (l : List Nat) : List Nat := match m.clash l with
  | none => []
  | some x => [x.1, x.2]
def kOf (H : Hp) : V → Int × Int
  | .ref t => match H t with
    | some (.tup [.int i, .int j]) => (i, j)
    | _ => (0, 0)
  | _ => (0, 0)
def adr : V → Addr
  | .ref t => t
  | _ => 0
def pairOf (H : Hp) (y : V) : Nat × Nat := ((kOf H y).1.toNat, (kOf H y).2.toNat)
theorem kOf_tup {H : Hp} {t : Addr} {b : Nat × Nat} (h : H t = some (.tup [nV b.1, nV b.2])) : kOf H (.ref t) = ((b.1 : Int), (b.2 : Int)) := by
  show (match H t with
    | some (.tup [.int i, .int j]) => (i, j)
    | _ => ((0, 0) : Int × Int)) = _
  rw [h]
  rfl
theorem pairOf_tup {H : Hp} {t : Addr} {b : Nat × Nat} (h : H t = some (.tup [nV b.1, nV b.2])) : pairOf H (.ref t) = b := by
  unfold pairOf
  rw [kOf_tup h]
  exact Prod.ext (by dsimp only; omega) (by dsimp only; omega)
theorem Tups.mem {H : Hp} : ∀ {ts : List Addr} {ps : List (Nat × Nat)}, Tups H ts ps → ∀ x ∈ ts.map V.ref, ∃ (t : Addr) (b : Nat × Nat), x = V.ref t ∧ H t = some (.tup [nV b.1, nV b.2])
  | _, _, .nil, x, hx => by cases hx
  | _, _, .cons r t, x, hx => by
    rcases List.mem_cons.mp hx with rfl | hx
    · exact ⟨_, _, rfl, r⟩
    · exact Tups.mem t x hx
theorem Tups.pairs {H : Hp} : ∀ {ts : List Addr} {ps : List (Nat × Nat)}, Tups H ts ps → (ts.map V.ref).map (pairOf H) = ps
  | _, _, .nil => rfl
  | _, _, .cons r t => by
    rw [List.map_cons, List.map_cons, Tups.pairs t, pairOf_tup r]
theorem tups_of {H : Hp} : ∀ {ys : List V}, (∀ x ∈ ys, ∃ (t : Addr) (b : Nat × Nat), x = V.ref t ∧ H t = some (.tup [nV b.1, nV b.2])) → ∃ us, ys = us.map V.ref ∧ Tups H us (ys.map (pairOf H))
  | [], _ => ⟨[], rfl, .nil⟩
  | y :: ys, h => by
    obtain ⟨t, b, rfl, e⟩ := h y List.mem_cons_self
    obtain ⟨us, e1, e2⟩ := tups_of (ys := ys) fun x hx => h x (List.mem_cons_of_mem _ hx)
    refine ⟨t :: us, by rw [List.map_cons, ← e1], .cons ?_ e2⟩
    rw [pairOf_tup e]
    exact e
theorem sorted_pairs {H : Hp} {ts : List Addr} {ps : List (Nat × Nat)} {ys : List V} (h : Tups H ts ps) (hs : SrtO.Srtd (ltP (kOf H)) ys) (hb : SrtO.Stb (ltP (kOf H)) ys (ts.map V.ref)) :
    ∃ us qs, ys = us.map V.ref ∧ Tups H us qs ∧ qs.Perm ps ∧ qs.Pairwise fun x y => ¬ lexN y x := by
  have hm : ∀ x ∈ ys, ∃ (t : Addr) (b : Nat × Nat), x = V.ref t ∧ H t = some (.tup [nV b.1, nV b.2]) := fun x hx => h.mem x (hb.perm.mem_iff.mp hx)
  obtain ⟨us, e1, e2⟩ := tups_of hm
  refine ⟨us, ys.map (pairOf H), e1, e2, ?_, ?_⟩
  · have q := hb.perm.map (pairOf H)
    rw [h.pairs] at q
    exact q
  · rw [List.pairwise_map]
    refine List.Pairwise.imp_of_mem ?_ hs
    intro x y hx hy e q
    obtain ⟨t, b, rfl, et⟩ := hm x hx
    obtain ⟨u, c, rfl, eu⟩ := hm y hy
    rw [pairOf_tup et, pairOf_tup eu] at q
    have e : SrtO.lexB (kOf H (.ref u)) (kOf H (.ref t)) = false := e
    rw [kOf_tup et, kOf_tup eu, ← Bool.not_eq_true, SrtO.lexB_iff] at e
    unfold lexN at q
    dsimp only at e
    omega
theorem find_take {α : Type} {p : α → Bool} : ∀ {l : List α} {i : Nat} {x : α}, l[i]? = some x → (l.take i).find? p = none → (p x = true → l.find? p = some x) ∧ (p x = false → (l.take (i + 1)).find? p = none)
  | [], i, x, h, _ => by simp at h
  | a :: l, 0, x, h, _ => by
    have e : a = x := Option.some.inj h
    subst e
    refine ⟨fun hp => List.find?_cons_of_pos hp, fun hp => ?_⟩
    show ([a] : List α).find? p = none
    rw [List.find?_cons_of_neg (by rw [hp]; exact Bool.false_ne_true)]
    rfl
  | a :: l, i + 1, x, h, hn => by
    have hn' : (a :: l.take i).find? p = none := hn
    have ha : p a = false := by
      cases e : p a with
      | false => rfl
      | true => rw [List.find?_cons_of_pos e] at hn'; cases hn'
    rw [List.find?_cons_of_neg (by rw [ha]; exact Bool.false_ne_true)] at hn'
    obtain ⟨h1, h2⟩ := find_take (l := l) (i := i) (x := x) h hn'
    refine ⟨fun hp => ?_, fun hp => ?_⟩
    · rw [List.find?_cons_of_neg (by rw [ha]; exact Bool.false_ne_true)]
      exact h1 hp
    · show (a :: l.take (i + 1)).find? p = none
      rw [List.find?_cons_of_neg (by rw [ha]; exact Bool.false_ne_true)]
      exact h2 hp
def spCl (C : Addr) : Sp := fun vs H Q _ => ∃ (p bl a : Addr) (m : Uw47.Map) (l : List Nat), vs = [.ref p, .ref a] ∧ MapAt C H p bl m ∧ H a = some (.lst (nVs l)) ∧ l.length = m.count ∧
  ∀ (H' : Hp) (r : Addr), Same H H' → H r = none → H' r = some (.lst (nVs (clashL m l))) → Q (.ref r) H'
abbrev nCl : List Str := ["self", "colouring", "low", "high"]
theorem scCl : FnScope nCl ["self", "colouring"] (defScope sCl) := ⟨rfl, rfl, rfl, by decide +kernel, rfl, by decide +kernel, by decide +kernel⟩
theorem ok_Cl {f : Addr} {fd : FuncData} (F : Fun K "clash" "Map.clash" sCl f fd) (T : Txt K mg C) : FnOk P w K mg base CX0 1 f fd ["self", "colouring"] (spCl C) := by
  refine F.ok scCl (fun vs H Q E h => ?_) (fun cdv A outer s H vs Q E hr h => ?_)
  · obtain ⟨p, bl, a, m, l, rfl, _⟩ := h
    rfl
  · obtain ⟨p, bl, a, m, l, rfl, hM, ha, hl, k⟩ := h
    obtain ⟨W, dx, pl, ts, h1, h2, h3, h4, h5⟩ := hM
    refine ⟨_, pss_cons (ps_for PassesOwn.never rfl (pi_list (pe_callB cr_sortedPO (by rfl) T.sorted (by decide +kernel) (pa_cons (pe_fld (pv 0) rfl) pa_nil)))
        (pg_tup rfl (pgs_cons (pg_name (i := 2) scCl.nd rfl (Or.inl rfl)) (pgs_cons (pg_name (i := 3) scCl.nd rfl (Or.inl rfl)) pgs_nil)))
        (pss_one (ps_if (pt_cmpR op_eq (pe_ix ix_list (pv 1) (pv 2) (fun _ _ => rfl)) (pe_ix ix_list (pv 1) (pv 3) (fun _ _ => rfl)) (nomark _)) (pss_one (ps_ret (pe_lst (pa_cons (pv 2) (pa_cons (pv 3) pa_nil))))) pss_nil)))
      (pss_one (ps_ret (pe_lst pa_nil))), ?_⟩
    refine ⟨_, rfl, p, C, dx, _, _, rfl, h1, T.cl, T.nB, mF_borders _ _ _, bl, ts.map V.ref, kOf H, rfl, SqL.of h2, fun x hx => ?_, fun ys q hs hb hq => ?_⟩
    · obtain ⟨t, b, rfl, e⟩ := h5.mem x hx
      refine ⟨t, rfl, ?_⟩
      rw [kOf_tup e]
      exact e
    · obtain ⟨us, qs, rfl, hT, hp, hw⟩ := sorted_pairs h5 hs hb
      have ec := clash_is W l hp hw
      have s1 : Same H (upd H q (.lst (us.map V.ref))) := same_upd hq
      refine ⟨q, rfl, ⟨_, SqL.of upd_same⟩, for_list (K := K) (a := q) (xs := us.map V.ref) (fun i σ H' => ∃ v2 v3 : Option V, σ = [some (.ref p), some (.ref a), v2, v3] ∧ H' = upd H q (.lst (us.map V.ref)) ∧ (qs.take i).find? (same l) = none)
        ⟨none, none, rfl, rfl, rfl⟩ (fun i σ H' _ ⟨_, _, _, e, _⟩ => by rw [e]; exact SqL.of upd_same) ?_ ?_⟩
      · rintro i y σ H' hi ⟨v2, v3, rfl, rfl, hn⟩
        obtain ⟨t, ht, rfl⟩ : ∃ t, us[i]? = some t ∧ y = V.ref t := by
          rw [List.getElem?_map] at hi
          cases e : us[i]? with
          | none => rw [e] at hi; cases hi
          | some t => rw [e] at hi; exact ⟨t, rfl, (Option.some.inj hi).symm⟩
        obtain ⟨b, hb', et⟩ := Paired.at hT ht
        have hbm : b ∈ m.borders.map bp := hp.mem_iff.mp (List.mem_of_getElem? hb')
        obtain ⟨h7, _⟩ := (bp_near W b).mp hbm
        obtain ⟨h8, h9⟩ := mem_pairs.mp h7
        obtain ⟨f1, f2⟩ := find_take (p := same l) hb' hn
        refine ⟨t, _, rfl, SqT.of (s1 _ _ et), rfl, ?_⟩
        refine ⟨_, _, rfl, _, _, rfl, ?_⟩
        refine ⟨rfl, ?_⟩
        refine ⟨_, rfl, _, rfl, a, _, _, _, rfl, rfl, SqL.of (s1 _ _ ha), atI_nat (get_nVs (by omega)), _, rfl, _, rfl, a, _, _, _, rfl, rfl, SqL.of (s1 _ _ ha), atI_nat (get_nVs (by omega)), rfl, _, rfl, ?_⟩
        rw [nV_dec]
        cases e : (l.getD b.1 0 == l.getD b.2 0) with
        | true =>
          refine iteT ?_
          refine ⟨_, rfl, _, rfl, (by show 2 ≤ sizeLine; decide), fun r hr' => ?_⟩
          have er : m.clash l = some b := by rw [← ec]; exact f1 e
          refine k _ r (s1.trans (same_upd hr')) (s1.free hr') ?_
          rw [upd_same]
          unfold clashL
          rw [er]
          rfl
        | false =>
          refine iteF ?_
          exact ⟨_, _, rfl, rfl, f2 e⟩
      · rintro σ H' ⟨v2, v3, rfl, rfl, hn⟩
        rw [List.length_map, hT.len, List.take_length, ec] at hn
        refine ⟨Nat.zero_le _, fun r hr' => ?_⟩
        refine k _ r (s1.trans (same_upd hr')) (s1.free hr') ?_
        rw [upd_same]
        unfold clashL
        rw [hn]
        rfl
end
end Mc
namespace Mc
open PySem PySem.Spec PyProof.Rows L2
open PySem.W (Codec)
section
variable {P : Program} {w : World} {K : PySem.W.Frag} {mg : Str → Option Value} {base : Heap} {C : Addr}
/-! ### rows that grow -/
theorem Rows.mem {H : Hp} : ∀ {as : List Addr} {rs : List (List Nat)}, Rows H as rs → ∀ a ∈ as, ∃ r ∈ rs, H a = some (.lst (nVs r))
  | _, _, .nil, a, h => by cases h
  | _, _, .cons r t, a, h => by
    rcases List.mem_cons.mp h with rfl | h
    · exact ⟨_, List.mem_cons_self, r⟩
    · obtain ⟨x, hx, e⟩ := Rows.mem t a h
      exact ⟨x, List.mem_cons_of_mem _ hx, e⟩
theorem refs_ne {as : List Addr} {r : List Nat} (h : as.map V.ref = nVs r) : as = [] ∧ r = [] := by
  cases as with
  | nil =>
    cases r with
    | nil => exact ⟨rfl, rfl⟩
    | cons b r => cases h
  | cons a as =>
    cases r with
    | nil => cases h
    | cons b r =>
      have := (List.cons.inj h).1
      cases this
theorem Rows.upd {H : Hp} {p : Addr} {o : HO} : ∀ {as : List Addr} {rs : List (List Nat)}, Rows H as rs → (∀ a ∈ as, a ≠ p) → Rows (upd H p o) as rs
  | _, _, .nil, _ => .nil
  | _, _, .cons r t, h => .cons (by rw [upd_ne (h _ List.mem_cons_self)]; exact r) (Rows.upd t fun a ha => h a (List.mem_cons_of_mem _ ha))
theorem RowsAt.push {H : Hp} {p z : Addr} {rs : List (List Nat)} {r : List Nat} (h : RowsAt H p rs) (hz : H z = some (.lst (nVs r))) (ne : z ≠ p) :
    ∃ acc : List V, H p = some (.lst acc) ∧ acc.length = rs.length ∧ RowsAt (upd H p (.lst (acc ++ [V.ref z]))) p (rs ++ [r]) := by
  obtain ⟨as, h1, h2⟩ := h
  refine ⟨as.map V.ref, h1, by rw [List.length_map, h2.len], as ++ [z], by rw [upd_same, List.map_append]; rfl, ?_⟩
  refine Paired.app (Rows.upd h2 fun a ha e => ?_) (.cons (by rw [upd_ne ne]; exact hz) .nil)
  subst e
  obtain ⟨x, _, ex⟩ := h2.mem a ha
  rw [h1] at ex
  have := (refs_ne (HO.lst.inj (Option.some.inj ex))).1
  subst this
  cases ha
theorem RowsAt.extend {H : Hp} {p q : Addr} {rs ts : List (List Nat)} (h : RowsAt H p rs) (hq : RowsAt H q ts) (ne : ∀ r ∈ ts, r ≠ []) :
    ∃ xs zs : List V, H p = some (.lst xs) ∧ H q = some (.lst zs) ∧ xs.length = rs.length ∧ zs.length = ts.length ∧ RowsAt (upd H p (.lst (xs ++ zs))) p (rs ++ ts) := by
  obtain ⟨as, h1, h2⟩ := h
  obtain ⟨bs, g1, g2⟩ := hq
  refine ⟨as.map V.ref, bs.map V.ref, h1, g1, by rw [List.length_map, h2.len], by rw [List.length_map, g2.len], as ++ bs, by rw [upd_same, List.map_append], ?_⟩
  refine Paired.app (Rows.upd h2 fun a ha e => ?_) (Rows.upd g2 fun a ha e => ?_)
  · subst e
    obtain ⟨x, _, ex⟩ := h2.mem a ha
    rw [h1] at ex
    have := (refs_ne (HO.lst.inj (Option.some.inj ex))).1
    subst this
    cases ha
  · subst e
    obtain ⟨x, hx, ex⟩ := g2.mem a ha
    rw [h1] at ex
    exact ne x hx (refs_ne (HO.lst.inj (Option.some.inj ex))).2
theorem RowsAt.len {H : Hp} {p : Addr} {rs : List (List Nat)} (h : RowsAt H p rs) : ∃ xs, H p = some (.lst xs) ∧ xs.length = rs.length := by
  obtain ⟨as, h1, h2⟩ := h
  exact ⟨_, h1, by rw [List.length_map, h2.len]⟩
theorem inV_nVs (j : Nat) (u : List Nat) : inV (nV j) (nVs u) = u.contains j := by
  rw [Bool.eq_iff_iff, List.contains_iff_mem]
  unfold inV nVs
  rw [List.any_eq_true]
  constructor
  · rintro ⟨y, hy, e⟩
    obtain ⟨x, hx, rfl⟩ := List.mem_map.mp hy
    have e' : ((x : Int) == (j : Int)) = true := e
    rw [beq_iff_eq] at e'
    have : x = j := by omega
    rw [← this]
    exact hx
  · intro h
    refine ⟨nV j, List.mem_map.mpr ⟨j, h, rfl⟩, ?_⟩
    show ((j : Int) == (j : Int)) = true
    exact beq_self_eq_true _
theorem flat_nVs (u : List Nat) : (nVs u).all flatV = true := by
  rw [List.all_eq_true]
  intro x hx
  obtain ⟨y, _, rfl⟩ := List.mem_map.mp hx
  rfl
theorem take_more {α : Type} {l : List α} {i : Nat} {x : α} (h : l[i]? = some x) : l.take (i + 1) = l.take i ++ [x] := by
  rw [List.take_succ, h]
  rfl
theorem oneLonger_ne {c : Nat} {near row : List Nat} : ∀ r ∈ oneLonger c near row, r ≠ [] := by
  intro r hr e
  subst e
  obtain ⟨a, _, e⟩ := List.mem_map.mp hr
  exact absurd e (by simp)
theorem yesT {σ : L2.St} {H : Hp} {A B : Hp → Prop} (h : A H) : tYes σ H (fun b H3 => if b = true then A H3 else B H3) := by
  show (if true = true then A H else B H)
  exact iteT h
/-! ### longer -/
def spLong : Sp := fun vs H Q _ => ∃ (a n : Addr) (rs : List (List Nat)) (c : Nat) (near : List Nat), vs = [.ref a, nV c, .ref n] ∧ RowsAt H a rs ∧ H n = some (.lst (nVs near)) ∧ c ≤ 6 ∧ rs.length ≤ 10000 ∧ near.length ≤ 6 ∧ (∀ r ∈ rs, r.length ≤ 6 ∧ ∀ o ∈ near, o < r.length) ∧
  ∀ (H' : Hp) (r : Addr), Same H H' → H r = none → RowsAt H' r (longer c near rs) → Q (.ref r) H'
abbrev nLong : List Str := ["rows", "colours", "near", "found", "row", "used", "country", "colour"]
theorem scLong : FnScope nLong ["rows", "colours", "near"] (defScope sLong) := ⟨rfl, rfl, rfl, by decide +kernel, rfl, by decide +kernel, by decide +kernel⟩
theorem ok_long {f : Addr} {fd : FuncData} (F : Fun K "longer" "longer" sLong f fd) (T : Txt K mg C) : FnOk P w K mg base CX0 1 f fd ["rows", "colours", "near"] spLong := by
  refine F.ok scLong (fun vs H Q E h => ?_) (fun cdv A outer s H vs Q E hr h => ?_)
  · obtain ⟨a, n, rs, c, near, rfl, _⟩ := h
    rfl
  · obtain ⟨a, n, rs, c, near, rfl, hR, hn, hc, hlen, hnl, hrs, k⟩ := h
    obtain ⟨as, hR1, hR2⟩ := hR
    refine ⟨_, pss_cons (ps_set (i := 3) scLong.nd rfl (Or.inl rfl) (pe_lst pa_nil))
      (pss_cons (ps_for PassesOwn.never rfl (pi_list (pv 0)) (pg_name (i := 4) scLong.nd rfl (Or.inr rfl))
        (pss_cons (ps_set (i := 5) scLong.nd rfl (Or.inr rfl) (pe_lc (own := [("country", 6)]) (g := gName 6) (tt := tYes) (te := tOp (rIxL K) (tVar 4) (tVar 6)) rfl scLong.nd (pi_list (pv 2)) (blkOk_by (N := nLong) (sc := defScope sLong) (by decide +kernel))
            (fun _ _ _ _ _ => pg_name (i := 6) scLong.nd rfl (Or.inl rfl)) (fun _ _ _ _ _ => pts_nil) (fun _ _ _ _ _ => pe_ix ix_list (pv 4) (pv 6) (fun _ _ => rfl))))
        (pss_one (ps_expr (pe_bm PySem.F.plainAttrs_list PySem.F.slot_list_extend PySem.F.type_list_extend mt_extend (pv 3) (pa_cons
          (pe_lc (own := [("colour", 7)]) (g := gName 7) (tt := tTest (tOp (rIn K true) (tVar 7) (tVar 5))) (te := tOp rCat (tVar 4) (tLst (tCons (tVar 7) tNil))) rfl scLong.nd (pi_range1 rfl T.range (pa_cons (pv 1) pa_nil)) (blkOk_by (N := nLong) (sc := defScope sLong) (by decide +kernel))
            (fun _ _ _ _ _ => pg_name (i := 7) scLong.nd rfl (Or.inl rfl)) (fun _ _ _ _ _ => pts_one (pt_cmpR op_notIn_seq (pv 7) (pv 5) (by rfl))) (fun _ _ _ _ _ => pe_op op_cat (pv 4) (pe_lst (pa_cons (pv 7) pa_nil)))) pa_nil))))))
      (pss_one (ps_ret (pv 3)))), ?_⟩
    refine ⟨Nat.zero_le _, fun fo hfo => ?_⟩
    refine ⟨_, rfl, a, rfl, ⟨_, SqL.of (same_upd hfo _ _ hR1)⟩, for_list (K := K) (a := a) (xs := as.map V.ref) (fun i σ H' => ∃ v4 v5 : Option V, σ = [some (.ref a), some (nV c), some (.ref n), some (.ref fo), v4, v5, none, none] ∧ Same H H' ∧ RowsAt H' fo (longer c near (rs.take i)))
      ⟨none, none, rfl, same_upd hfo, [], upd_same, .nil⟩ (fun i σ H' _ ⟨_, _, _, s5, _⟩ => SqL.of (s5 _ _ hR1)) ?_ ?_⟩
    · rintro i y σ H' hi ⟨v4, v5, rfl, s1, hF⟩
      obtain ⟨z, hz, rfl⟩ : ∃ z, as[i]? = some z ∧ y = V.ref z := by
        rw [List.getElem?_map] at hi
        cases e : as[i]? with
        | none => rw [e] at hi; cases hi
        | some t => rw [e] at hi; exact ⟨t, rfl, (Option.some.inj hi).symm⟩
      obtain ⟨row, hrow, ez⟩ := Paired.at hR2 hz
      have hmem : row ∈ rs := List.mem_of_getElem? hrow
      obtain ⟨hr6, hro⟩ := hrs row hmem
      -- used
      refine ⟨_, rfl, n, rfl, ⟨_, SqL.of (s1 _ _ hn)⟩, fun D hD => lc_list (K := K) (a := n) (xs := nVs near) (fun j H2 => Same H' H2 ∧ H2 D = some (.lst (nVs (used row (near.take j)))))
        ⟨same_upd hD, upd_same⟩ (fun j H2 _ ⟨s2, _⟩ => SqL.of (s2 _ _ (s1 _ _ hn))) ?_ ?_⟩
      · rintro j x H2 hx ⟨s2, hd⟩
        obtain ⟨o, ho, rfl⟩ := nVs_get' hx
        have hol : o < row.length := hro o (List.mem_of_getElem? ho)
        refine ⟨rfl, yesT ?_⟩
        refine ⟨_, rfl, _, rfl, z, _, _, _, rfl, rfl, SqL.of (s2 _ _ (s1 _ _ ez)), atI_nat (get_nVs hol), _, hd, line6 (by rw [nVs_len]; unfold used; rw [List.length_map, List.length_take]; omega), same_grow hD s2, ?_⟩
        rw [upd_same, take_more ho]
        unfold used
        rw [List.map_append, nVs_app]
        rfl
      · rintro H2 ⟨s2, hd⟩
        rw [nVs_len, List.take_length] at hd
        -- found.extend(..)
        have hF2 := hF.same s2
        obtain ⟨xs0, hx0, _⟩ := hF2.len
        refine ⟨_, rfl, .inl ⟨rfl, _, SqL.of hx0⟩, ?_⟩
        refine ⟨_, rfl, (c : Int), rfl, by omega, by omega, fun G hG => lc_range (lo := 0) (n := c) (fun j H3 => Same H2 H3 ∧ RowsAt H3 G (((List.range j).filter fun b => !(used row near).contains b).map fun b => row ++ [b]))
          ⟨same_upd hG, [], upd_same, .nil⟩ ?_ ?_⟩
        · rintro j H3 hj ⟨s3, hg⟩
          rw [zV]
          refine ⟨rfl, ?_⟩
          refine ⟨_, rfl, _, rfl, D, _, rfl, .inl (SqL.of (s3 _ _ hd)), rfl, flat_nVs _, _, rfl, ?_⟩
          rw [if_pos rfl, inV_nVs]
          cases e : (used row near).contains j with
          | true =>
            refine iteF ⟨s3, ?_⟩
            rw [filt_false (p := fun b => !(used row near).contains b) (i := j) (by rw [e]; rfl)]
            exact hg
          | false =>
            refine iteT ?_
            refine ⟨_, rfl, _, rfl, (by show 1 ≤ sizeLine; decide), fun q hq => ?_⟩
            have s4 : Same H3 (upd H3 q (.lst [nV j])) := same_upd hq
            refine ⟨z, q, _, _, rfl, rfl, s4 _ _ (s3 _ _ (s2 _ _ (s1 _ _ ez))), upd_same, Nat.le_of_lt (line6 (by rw [nVs_len]; show row.length + 1 ≤ 100000; omega)), fun y hy => ?_⟩
            have s5 := same_upd (o := .lst (nVs row ++ [nV j])) hy
            have hg5 := (hg.same s4).same s5
            have nyG : y ≠ G := by
              obtain ⟨xs1, hx1, _⟩ := (hg.same s4).len
              exact (ne_of_none hx1 hy).symm
            obtain ⟨acc, ha1, ha2, ha3⟩ := hg5.push (r := row ++ [j]) (z := y) (by rw [upd_same, nVs_app]; rfl) nyG
            refine ⟨acc, ha1, line6 (by rw [ha2, List.length_map]; have := filt_len (fun b => !(used row near).contains b) j; omega), same_grow hG ((s3.trans s4).trans s5), ?_⟩
            rw [filt_true (p := fun b => !(used row near).contains b) (i := j) (by rw [e]; rfl), List.map_append]
            exact ha3
        · rintro H3 ⟨s3, hg⟩
          have hg : RowsAt H3 G (oneLonger c near row) := hg
          obtain ⟨xs, zs, e1, e2, e3, e4, e5⟩ := (hF2.same s3).extend hg oneLonger_ne
          have hL : (longer c near (rs.take i)).length ≤ 60000 := by
            have h1 := longer_len c near (rs.take i)
            have h2 : (rs.take i).length ≤ 10000 := by rw [List.length_take]; omega
            have h3 : (rs.take i).length * c ≤ 10000 * 6 := Nat.mul_le_mul h2 hc
            omega
          have hO := oneLonger_len c near row
          refine ⟨fo, G, xs, zs, rfl, rfl, e1, e2, Nat.le_of_lt (line6 (by omega)), ?_⟩
          refine ⟨_, _, rfl, ?_, ?_⟩
          · exact same_grow hfo ((s1.trans s2).trans s3)
          · rw [take_more hrow]
            unfold longer
            rw [List.flatMap_append]
            show RowsAt _ fo (longer c near (rs.take i) ++ (oneLonger c near row ++ []))
            rw [List.append_nil]
            exact e5
    · rintro σ H' ⟨v4, v5, rfl, s1, hF⟩
      rw [List.length_map, hR2.len, List.take_length] at hF
      refine ⟨_, rfl, ?_⟩
      exact k H' fo s1 hfo hF
end
end Mc
namespace Mc
open PySem PySem.Spec PyProof.Rows L2
open PySem.W (Codec)
section
variable {P : Program} {w : World} {K : PySem.W.Frag} {mg : Str → Option Value} {base : Heap} {C : Addr}
/-! ### right_colourings -/
def spRight (C : Addr) : Sp := fun vs H Q _ => ∃ (p bl : Addr) (m : Uw47.Map) (c : Nat), vs = [.ref p, nV c] ∧ MapAt C H p bl m ∧ c ≤ 6 ∧
  ∀ (H' : Hp) (r : Addr), Same H H' → H r = none → RowsAt H' r (m.all_ c) → Q (.ref r) H'
abbrev nRight : List Str := ["plan", "colours", "found", "country", "near", "other"]
theorem scRight : FnScope nRight ["plan", "colours"] (defScope sRight) := ⟨rfl, rfl, rfl, by decide +kernel, rfl, by decide +kernel, by decide +kernel⟩
theorem pow_six {c i : Nat} (hc : c ≤ 6) (hi : i ≤ 5) : c ^ i ≤ 10000 := by
  have h1 : c ^ i ≤ 6 ^ i := Nat.pow_le_pow_left hc i
  have h2 : 6 ^ i ≤ 6 ^ 5 := Nat.pow_le_pow_right (by decide) hi
  have h3 : 6 ^ 5 = 7776 := by decide
  omega
theorem filter_more {α : Type} {p : α → Bool} {l : List α} {i : Nat} {x : α} (h : l[i]? = some x) : (l.take (i + 1)).filter p = (l.take i).filter p ++ (if p x = true then [x] else []) := by
  rw [take_more h, List.filter_append]
  cases e : p x with
  | true => rw [List.filter_cons_of_pos e, if_pos rfl]; rfl
  | false => rw [List.filter_cons_of_neg (by rw [e]; exact Bool.false_ne_true), if_neg Bool.false_ne_true]; rfl
theorem filter_take_len {α : Type} (p : α → Bool) (l : List α) (i : Nat) : ((l.take i).filter p).length ≤ l.length := Nat.le_trans (List.length_filter_le _ _) (by rw [List.length_take]; omega)
theorem nearOf_len (m : Uw47.Map) (k : Nat) : (nearOf m k).length ≤ m.count := filt_len _ _
theorem ok_right {f f1 f2 : Addr} {fd fd1 fd2 : FuncData} (F : Fun K "right_colourings" "right_colourings" sRight f fd) (T : Txt K mg C) (NB : Me P w K mg base C "neighbours" 2 ["self", "country"] (spNb C) f1 fd1)
    (LO : Dn P w K mg base "longer" 1 ["rows", "colours", "near"] spLong f2 fd2) : FnOk P w K mg base CX0 3 f fd ["plan", "colours"] (spRight C) := by
  refine F.ok scRight (fun vs H Q E h => ?_) (fun cdv A outer s H vs Q E hr h => ?_)
  · obtain ⟨p, bl, m, c, rfl, _⟩ := h
    rfl
  · obtain ⟨p, bl, m, c, rfl, hM, hc, k⟩ := h
    have hr1 := hr.mono (show 1 ≤ 2 by decide)
    obtain ⟨W, dx, pl, ts, h1, h2, h3, h4, h5⟩ := hM
    have hM : MapAt C H p bl m := ⟨W, dx, pl, ts, h1, h2, h3, h4, h5⟩
    refine ⟨_, pss_cons (ps_set (i := 2) scRight.nd rfl (Or.inl rfl) (pe_lst (pa_cons (pe_lst pa_nil) pa_nil)))
      (pss_cons (ps_for PassesOwn.never rfl (pi_range1 rfl T.range (pa_cons (pe_fld (pv 0) rfl) pa_nil)) (pg_name (i := 3) scRight.nd rfl (Or.inr rfl))
        (pss_cons (ps_setLc (i := 4) (own := [("other", 5)]) (g := gName 5) (te := tVar 5) rfl scRight.nd rfl rfl (sw_true rfl rfl rfl (by decide +kernel)) (pi_list (pe_meth (pv 0) T.cl NB.me NB.ok hr NB.bi .nil pass0 (pa_cons (pv 3) pa_nil))) (blkOk_by (N := nRight) (sc := defScope sRight) (by decide +kernel))
          (fun _ _ _ _ _ => pg_name (i := 5) scRight.nd rfl (Or.inl rfl)) (fun _ _ _ _ _ => pts_one (pt_cmpR op_lt (pv 5) (pv 3) (nomark _))) (fun _ _ _ _ _ => pv 5))
        (pss_one (ps_set (i := 2) scRight.nd rfl (Or.inl rfl) (pe_call LO.ok hr1 rfl LO.gl LO.kp LO.bi .nil pass0 (pa_cons (pv 2) (pa_cons (pv 1) (pa_cons (pv 4) pa_nil))))))))
      (pss_one (ps_ret (pv 2)))), ?_⟩
    have six := W.six
    refine ⟨Nat.zero_le _, fun e0 he0 => ?_⟩
    have s0 : Same H (upd H e0 (.lst [])) := same_upd he0
    refine ⟨(by show 1 ≤ sizeLine; decide), fun g0 hg0 => ?_⟩
    have s1 := s0.trans (same_upd (o := .lst [V.ref e0]) hg0)
    have n0 : e0 ≠ g0 := ne_of_none upd_same hg0
    refine ⟨_, rfl, p, C, dx, _, _, rfl, s1 _ _ h1, T.cl, T.nM, mF_many _ _ _, (m.count : Int), rfl, by omega, by omega, for_range (lo := 0) (n := m.count) (fun i σ H' => ∃ (v3 v4 : Option V) (fo : Addr), σ = [some (.ref p), some (nV c), some (.ref fo), v3, v4, none] ∧ Same H H' ∧ H fo = none ∧ RowsAt H' fo (grow m c i))
      ⟨none, none, g0, rfl, s1, s0.free hg0, [e0], upd_same, .cons (by rw [upd_ne n0]; exact upd_same) .nil⟩ ?_ ?_⟩
    · rintro i σ H' hi ⟨v3, v4, fo, rfl, s2, hfo, hF⟩
      rw [zV]
      refine ⟨_, rfl, p, dx, _, rfl, s2 _ _ h1, mF_no (by decide +kernel) (by decide +kernel) (by decide +kernel) _ _ _, _, rfl, p, bl, m, i, rfl, hM.same s2, fun H2 nb s3 hnb enb => ?_⟩
      refine ⟨nb, rfl, ⟨_, SqL.of enb⟩, fun D hD => lc_list (K := K) (a := nb) (xs := nVs (nearOf m i)) (fun j H3 => Same H2 H3 ∧ H3 D = some (.lst (nVs (((nearOf m i).take j).filter fun o => decide (o < i)))))
        ⟨same_upd hD, upd_same⟩ (fun j H3 _ ⟨s4, _⟩ => SqL.of (s4 _ _ enb)) ?_ ?_⟩
      · rintro j x H3 hx ⟨s4, hd⟩
        obtain ⟨o, ho, rfl⟩ := nVs_get' hx
        refine ⟨rfl, ?_⟩
        refine ⟨_, rfl, _, rfl, _, _, rfl, rfl, _, rfl, ?_⟩
        have e1 : decide ((o : Int) < (i : Int)) = decide (o < i) := by
          rw [Bool.eq_iff_iff, decide_eq_true_eq, decide_eq_true_eq]
          omega
        rw [e1]
        have hlen : (nVs (((nearOf m i).take j).filter fun o => decide (o < i))).length < sizeLine := line6 (by
          rw [nVs_len]
          have h1 := filter_take_len (fun o => decide (o < i)) (nearOf m i) j
          have h2 := nearOf_len m i
          omega)
        cases e : decide (o < i) with
        | true =>
          refine iteT ?_
          refine ⟨_, rfl, _, hd, hlen, same_grow hD s4, ?_⟩
          rw [upd_same, filter_more ho, if_pos e, nVs_app]
          rfl
        | false =>
          refine iteF ⟨s4, ?_⟩
          rw [filter_more ho, if_neg (by rw [e]; exact Bool.false_ne_true), List.append_nil]
          exact hd
      · rintro H3 ⟨s4, hd⟩
        rw [nVs_len, List.take_length] at hd
        have hd : H3 D = some (.lst (nVs (before m i))) := hd
        have s5 := (s2.trans s3).trans s4
        refine ⟨_, rfl, _, rfl, _, rfl, fo, D, grow m c i, c, before m i, rfl, hF.same (s3.trans s4), hd, hc, ?_, ?_, ?_, ?_⟩
        · exact Nat.le_trans (grow_len m c i) (pow_six hc (by omega))
        · have h1 : (before m i).length ≤ (nearOf m i).length := List.length_filter_le _ _
          have h2 := nearOf_len m i
          omega
        · intro r hr'
          obtain ⟨h1, _⟩ := grow_row m c i (by omega) hr'
          refine ⟨by omega, fun o ho => ?_⟩
          have := (mem_before.mp ho).2.2
          omega
        · intro H4 r s6 hr' hR
          exact ⟨_, _, r, rfl, s5.trans s6, s5.free hr', hR⟩
    · rintro σ H' ⟨v3, v4, fo, rfl, s2, hfo, hF⟩
      rw [grow_all] at hF
      refine ⟨_, rfl, ?_⟩
      exact k H' fo s2 hfo hF
/-! ### fewest_colours -/
def spFew (C : Addr) : Sp := fun vs H Q _ => ∃ (p bl : Addr) (m : Uw47.Map), vs = [.ref p] ∧ MapAt C H p bl m ∧ ∀ (H' : Hp) (c : Nat), Same H H' → m.fewest = some c → Q (nV c) H'
abbrev nFew : List Str := ["plan", "colours"]
theorem scFew : FnScope nFew ["plan"] (defScope sFew) := ⟨rfl, rfl, rfl, by decide +kernel, rfl, by decide +kernel, by decide +kernel⟩
theorem isEmpty_map {α β : Type} (f : α → β) (l : List α) : (l.map f).isEmpty = l.isEmpty := by cases l <;> rfl
theorem ok_few {f f1 : Addr} {fd fd1 : FuncData} (F : Fun K "fewest_colours" "fewest_colours" sFew f fd) (RI : Dn P w K mg base "right_colourings" 3 ["plan", "colours"] (spRight C) f1 fd1) : FnOk P w K mg base CX0 4 f fd ["plan"] (spFew C) := by
  refine F.ok scFew (fun vs H Q E h => ?_) (fun cdv A outer s H vs Q E hr h => ?_)
  · obtain ⟨p, bl, m, rfl, _⟩ := h
    rfl
  · obtain ⟨p, bl, m, rfl, hM, k⟩ := h
    have W := hM.wf
    have six := W.six
    have one := W.one
    refine ⟨_, pss_cons (ps_set (i := 1) scFew.nd rfl (Or.inl rfl) pe_int)
      (pss_cons (ps_while PassesOwn.never (pt_cmpR (op_eqD hr.units) (pe_call RI.ok hr rfl RI.gl RI.kp RI.bi .nil pass0 (pa_cons (pv 0) (pa_cons (pv 1) pa_nil))) (pe_lst pa_nil) (nomark _))
        (pss_one (ps_set (i := 1) scFew.nd rfl (Or.inl rfl) (pe_op op_add (pv 1) pe_int))))
      (pss_one (ps_ret (pv 1)))), ?_⟩
    refine ⟨fun q σ H' => ∃ c : Nat, q = 7 - c ∧ σ = [some (.ref p), some (nV c)] ∧ Same H H' ∧ 1 ≤ c ∧ c ≤ m.count ∧ ∀ d, d < c → m.all_ d = [], ⟨6, 1, rfl, rfl, Same.refl H, Nat.le_refl 1, one, fun d hd => ?_⟩, ?_⟩
    · have : d = 0 := by omega
      rw [this]
      exact all_zero W
    · rintro q σ H' ⟨c, rfl, rfl, s1, c1, c2, c3⟩
      refine ⟨_, rfl, _, rfl, p, bl, m, c, rfl, hM.same s1, by omega, fun H2 r s2 hr' hR => ?_⟩
      refine ⟨Nat.zero_le _, fun e he => ?_⟩
      have s3 : Same H2 (upd H2 e (.lst [])) := same_upd he
      refine ⟨_, _, dp_rowsAt (hR.same s3), .lst (SqL.of upd_same) .nil, dIs_shaped _, nil_shaped, _, rfl, ?_⟩
      rw [eqv_nil, isEmpty_map]
      cases ea : m.all_ c with
      | nil =>
        refine iteT ⟨fun σ' H' => ∃ c' : Nat, c' = c + 1 ∧ σ' = [some (.ref p), some (nV c')] ∧ Same H H', ?_, ?_⟩
        · rintro σ' H'' ⟨c', rfl, rfl, s4⟩
          have hlt : c < m.count := by
            rcases Nat.lt_or_ge c m.count with h | h
            · exact h
            · have : c = m.count := by omega
              rw [this] at ea
              exact absurd ea (all_count W)
          refine ⟨7 - (c + 1), by omega, c + 1, rfl, rfl, s4, by omega, by omega, fun d hd => ?_⟩
          rcases Nat.lt_or_ge d c with h | h
          · exact c3 d h
          · have : d = c := by omega
            rw [this]
            exact ea
        · refine ⟨_, rfl, _, _, rfl, rfl, c + 1, rfl, ?_, (s1.trans s2).trans s3⟩
          rfl
      | cons b t =>
        refine iteF ?_
        refine ⟨_, rfl, ?_⟩
        exact k _ c ((s1.trans s2).trans s3) (fewest_is W c3 (by rw [ea]; exact List.cons_ne_nil _ _))
end
end Mc
namespace Mc
open PySem PySem.Spec PyProof.Rows L2
open PySem.W (Codec)
section
variable {P : Program} {w : World} {K : PySem.W.Frag} {mg : Str → Option Value} {base : Heap} {C : Addr}
/-! ### best_colouring -/
def spBestC (C : Addr) : Sp := fun vs H Q _ => ∃ (p bl a : Addr) (m : Uw47.Map) (rs : List (List Nat)), vs = [.ref p, .ref a] ∧ MapAt C H p bl m ∧ RowsAt H a rs ∧ rs ≠ [] ∧ rs.length ≤ 50000 ∧ (∀ r ∈ rs, r.length = m.count) ∧
  ∀ (H' : Hp) (r : Addr) (least : Nat), Same H H' → H r = none → (∃ x ∈ rs, Uw47.changed x m.printed = least) → (∀ x ∈ rs, least ≤ Uw47.changed x m.printed) →
    (∀ b t, rs.filter (fun x => Uw47.changed x m.printed == least) = b :: t → H' r = some (.lst (nVs (least :: (t.length + 1) :: b)))) → Q (.ref r) H'
abbrev nBestC : List Str := ["plan", "rows", "least", "some", "row"]
theorem scBestC : FnScope nBestC ["plan", "rows"] (defScope sBestC) := ⟨rfl, rfl, rfl, by decide +kernel, rfl, by decide +kernel, by decide +kernel⟩
theorem nVs_ints (l : List Nat) : nVs l = (nI l).map V.int := (nVs_nI l).symm
theorem mem_nI {l : List Nat} {z : Int} (h : z ∈ nI l) : ∃ x ∈ l, z = (x : Int) := by
  obtain ⟨x, hx, e⟩ := List.mem_map.mp h
  exact ⟨x, hx, e.symm⟩
theorem in_nI {l : List Nat} {x : Nat} (h : x ∈ l) : (x : Int) ∈ nI l := List.mem_map.mpr ⟨x, h, rfl⟩
theorem ok_bestC {f f1 : Addr} {fd fd1 : FuncData} (F : Fun K "best_colouring" "best_colouring" sBestC f fd) (T : Txt K mg C) (CH : Me P w K mg base C "changes" 1 ["self", "colouring"] (spCh C) f1 fd1) : FnOk P w K mg base CX0 2 f fd ["plan", "rows"] (spBestC C) := by
  refine F.ok scBestC (fun vs H Q E h => ?_) (fun cdv A outer s H vs Q E hr h => ?_)
  · obtain ⟨p, bl, a, m, rs, rfl, _⟩ := h
    rfl
  · obtain ⟨p, bl, a, m, rs, rfl, hM, hR, hne, hlen, hrl, k⟩ := h
    obtain ⟨W, dx, pl, ts, h1, h2, h3, h4, h5⟩ := hM
    have hM : MapAt C H p bl m := ⟨W, dx, pl, ts, h1, h2, h3, h4, h5⟩
    obtain ⟨as, hR1, hR2⟩ := hR
    refine ⟨_, pss_cons (ps_set (i := 2) scBestC.nd rfl (Or.inr rfl) (pe_callB (cr_min rfl) (by rfl) T.min (by decide +kernel) (pa_cons
        (pe_lc (own := [("row", 4)]) (g := gName 4) (tt := tYes) rfl scBestC.nd (pi_list (pv 1)) (blkOk_by (N := nBestC) (sc := defScope sBestC) (by decide +kernel))
          (fun _ _ _ _ _ => pg_name (i := 4) scBestC.nd rfl (Or.inl rfl)) (fun _ _ _ _ _ => pts_nil) (fun _ _ _ _ _ => pe_meth (pv 0) T.cl CH.me CH.ok hr CH.bi .nil pass0 (pa_cons (pv 4) pa_nil))) pa_nil)))
      (pss_cons (ps_setLc (i := 3) (own := [("row", 4)]) (g := gName 4) (te := tVar 4) rfl scBestC.nd rfl rfl (sw_true rfl rfl rfl (by decide +kernel)) (pi_list (pv 1)) (blkOk_by (N := nBestC) (sc := defScope sBestC) (by decide +kernel))
          (fun _ _ _ _ _ => pg_name (i := 4) scBestC.nd rfl (Or.inl rfl)) (fun _ _ _ _ _ => pts_one (pt_cmpR op_eq (pe_meth (pv 0) T.cl CH.me CH.ok hr CH.bi .nil pass0 (pa_cons (pv 4) pa_nil)) (pv 2) (nomark _))) (fun _ _ _ _ _ => pv 4))
      (pss_one (ps_ret (pe_op op_cat (pe_lst (pa_cons (pv 2) (pa_cons (pe_callB call_len_seq (by rfl) T.len PySem.boot_len (pa_cons (pv 3) pa_nil)) pa_nil))) (pe_ix ix_list (pv 3) pe_int (fun _ _ => rfl)))))), ?_⟩
    have item : ∀ {i : Nat} {y : V}, (as.map V.ref)[i]? = some y → ∃ z row, y = V.ref z ∧ rs[i]? = some row ∧ H z = some (.lst (nVs row)) := fun {i y} hi => by
      rw [List.getElem?_map] at hi
      cases e : as[i]? with
      | none => rw [e] at hi; cases hi
      | some t =>
        rw [e] at hi
        obtain ⟨row, hrow, ez⟩ := Paired.at hR2 e
        exact ⟨t, row, (Option.some.inj hi).symm, hrow, ez⟩
    refine ⟨_, rfl, a, rfl, ⟨_, SqL.of hR1⟩, fun D hD => lc_list (K := K) (a := a) (xs := as.map V.ref) (fun j H2 => Same H H2 ∧ H2 D = some (.lst (nVs ((rs.take j).map fun x => Uw47.changed x m.printed))))
      ⟨same_upd hD, upd_same⟩ (fun j H2 _ ⟨s2, _⟩ => SqL.of (s2 _ _ hR1)) ?_ ?_⟩
    · rintro j x H2 hx ⟨s2, hd⟩
      obtain ⟨z, row, rfl, hrow, ez⟩ := item hx
      refine ⟨rfl, yesT ?_⟩
      refine ⟨_, rfl, p, dx, _, rfl, s2 _ _ h1, mF_no (by decide +kernel) (by decide +kernel) (by decide +kernel) _ _ _, _, rfl, p, bl, z, m, row, rfl, hM.same s2, s2 _ _ ez, hrl row (List.mem_of_getElem? hrow), fun H3 s3 => ?_⟩
      refine ⟨_, s3 _ _ hd, line6 (by rw [nVs_len, List.length_map, List.length_take]; omega), same_grow hD (s2.trans s3), ?_⟩
      rw [upd_same, take_more hrow, List.map_append, nVs_app]
      rfl
    · rintro H2 ⟨s2, hd⟩
      rw [List.length_map, hR2.len, List.take_length] at hd
      refine ⟨D, nI (rs.map fun x => Uw47.changed x m.printed), rfl, by rw [nVs_nI]; exact SqL.of hd, ?_, fun z hz hle => ?_⟩
      · unfold nI
        rw [List.length_map, List.length_map]
        exact List.length_pos_iff.mpr hne
      · obtain ⟨least, hl, rfl⟩ := mem_nI hz
        have hmem : ∃ x ∈ rs, Uw47.changed x m.printed = least := List.mem_map.mp hl
        have hle' : ∀ x ∈ rs, least ≤ Uw47.changed x m.printed := fun x hx => by
          have := hle _ (in_nI (List.mem_map.mpr ⟨x, hx, rfl⟩))
          omega
        -- some = [..]
        refine ⟨_, rfl, a, rfl, ⟨_, SqL.of (s2 _ _ hR1)⟩, fun G hG => lc_list (K := K) (a := a) (xs := as.map V.ref) (fun j H3 => Same H2 H3 ∧ RowsAt H3 G ((rs.take j).filter fun x => Uw47.changed x m.printed == least))
          ⟨same_upd hG, [], upd_same, .nil⟩ (fun j H3 _ ⟨s3, _⟩ => SqL.of (s3 _ _ (s2 _ _ hR1))) ?_ ?_⟩
        · rintro j x H3 hx ⟨s3, hg⟩
          obtain ⟨z, row, rfl, hrow, ez⟩ := item hx
          have s23 := s2.trans s3
          refine ⟨rfl, ?_⟩
          refine ⟨_, rfl, p, dx, _, rfl, s23 _ _ h1, mF_no (by decide +kernel) (by decide +kernel) (by decide +kernel) _ _ _, _, rfl, p, bl, z, m, row, rfl, hM.same s23, s23 _ _ ez, hrl row (List.mem_of_getElem? hrow), fun H4 s4 => ?_⟩
          refine ⟨_, rfl, rfl, _, rfl, ?_⟩
          show if decide (nV (Uw47.changed row m.printed) = nV least) = true then _ else _
          rw [nV_dec]
          cases e : (Uw47.changed row m.printed == least) with
          | true =>
            refine iteT ?_
            have hzG : z ≠ G := ne_of_none (s2 _ _ ez) hG
            obtain ⟨acc, ha1, ha2, ha3⟩ := (hg.same s4).push (z := z) (r := row) ((s23.trans s4) _ _ ez) hzG
            refine ⟨_, rfl, acc, ha1, line6 (by rw [ha2]; have := filter_take_len (fun x => Uw47.changed x m.printed == least) rs j; omega), same_grow hG (s3.trans s4), ?_⟩
            rw [filter_more hrow, if_pos e]
            exact ha3
          | false =>
            refine iteF ⟨s3.trans s4, ?_⟩
            rw [filter_more hrow, if_neg (by rw [e]; exact Bool.false_ne_true), List.append_nil]
            exact hg.same s4
        · rintro H3 ⟨s3, hg⟩
          rw [List.length_map, hR2.len, List.take_length] at hg
          obtain ⟨x0, hx0, ex0⟩ := hmem
          have hin : x0 ∈ rs.filter fun x => Uw47.changed x m.printed == least := List.mem_filter.mpr ⟨hx0, beq_iff_eq.mpr ex0⟩
          cases ef : rs.filter fun x => Uw47.changed x m.printed == least with
          | nil => rw [ef] at hin; cases hin
          | cons b t =>
            rw [ef] at hg
            obtain ⟨cs, hc1, hc2⟩ := hg
            cases hc2 with
            | @cons z _ cs' _ hb hc3 =>
              have hbm : b ∈ rs := (List.mem_filter.mp (show b ∈ rs.filter fun x => Uw47.changed x m.printed == least by rw [ef]; exact List.mem_cons_self)).1
              have hbl := hrl b hbm
              have six := W.six
              have hl2 : (List.map V.ref (z :: cs')).length = t.length + 1 := by
                rw [List.length_map, List.length_cons, Paired.length hc3]
              refine ⟨_, rfl, _, rfl, G, _, rfl, .inl (SqL.of hc1), (by show 2 ≤ sizeLine; decide), fun q hq => ?_⟩
              have s4 := same_upd (o := .lst [V.int (least : Int), V.int (((List.map V.ref (z :: cs')).length : Nat) : Int)]) hq
              refine ⟨_, rfl, G, _, _, _, rfl, rfl, SqL.of (s4 _ _ hc1), atI_nat (j := 0) rfl, ?_⟩
              refine ⟨q, z, _, _, rfl, rfl, upd_same, s4 _ _ hb, Nat.le_of_lt (line6 (by rw [nVs_len]; show 2 + b.length ≤ 100000; omega)), fun r hr' => ?_⟩
              have s5 := ((s2.trans s3).trans s4)
              refine k _ r least (s5.trans (same_upd hr')) (s5.free hr') ⟨x0, hx0, ex0⟩ hle' fun b' t' e' => ?_
              rw [ef] at e'
              cases e'
              rw [upd_same, hl2]
              rfl
/-! ### lowest_free -/
def spLow : Sp := fun vs H Q _ => ∃ (a : Addr) (u : List Nat), vs = [.ref a] ∧ H a = some (.lst (nVs u)) ∧ ∀ c : Nat, c ∉ u → (∀ d, d < c → d ∈ u) → Q (nV c) H
abbrev nLow : List Str := ["used", "colour"]
theorem scLow : FnScope nLow ["used"] (defScope sLow) := ⟨rfl, rfl, rfl, by decide +kernel, rfl, by decide +kernel, by decide +kernel⟩
theorem ok_low {f : Addr} {fd : FuncData} (F : Fun K "lowest_free" "lowest_free" sLow f fd) : FnOk P w K mg base CX0 1 f fd ["used"] spLow := by
  refine F.ok scLow (fun vs H Q E h => ?_) (fun cdv A outer s H vs Q E hr h => ?_)
  · obtain ⟨a, u, rfl, _⟩ := h
    rfl
  · obtain ⟨a, u, rfl, ha, k⟩ := h
    refine ⟨_, pss_cons (ps_set (i := 1) scLow.nd rfl (Or.inl rfl) pe_int)
      (pss_cons (ps_while PassesOwn.never (pt_cmpR op_in_seq (pv 1) (pv 0) (by rfl)) (pss_one (ps_set (i := 1) scLow.nd rfl (Or.inl rfl) (pe_op op_add (pv 1) pe_int))))
      (pss_one (ps_ret (pv 1)))), ?_⟩
    refine ⟨fun q σ H' => ∃ c : Nat, q = u.length + 1 - c ∧ σ = [some (.ref a), some (nV c)] ∧ H = H' ∧ ∀ d, d < c → d ∈ u, ⟨u.length + 1, 0, rfl, rfl, rfl, fun d hd => absurd hd (Nat.not_lt_zero d)⟩, ?_⟩
    rintro q σ H' ⟨c, rfl, rfl, rfl, c3⟩
    refine ⟨_, rfl, _, rfl, a, _, rfl, .inl (SqL.of ha), rfl, flat_nVs _, _, rfl, ?_⟩
    rw [if_neg Bool.false_ne_true, inV_nVs]
    cases e : u.contains c with
    | true =>
      have hc := List.contains_iff_mem.mp e
      have c4 : ∀ d, d < c + 1 → d ∈ u := fun d hd => by
        rcases Nat.lt_or_ge d c with h | h
        · exact c3 d h
        · have : d = c := by omega
          rw [this]
          exact hc
      have hp := pigeon (c + 1) u c4
      refine iteT ⟨fun σ' H' => σ' = [some (.ref a), some (nV (c + 1))] ∧ H = H', ?_, ?_⟩
      · rintro σ' H'' ⟨rfl, rfl⟩
        exact ⟨u.length + 1 - (c + 1), by omega, c + 1, rfl, rfl, rfl, c4⟩
      · refine ⟨_, rfl, _, _, rfl, rfl, ?_, rfl⟩
        rfl
    | false =>
      refine iteF ?_
      refine ⟨_, rfl, ?_⟩
      refine k c (fun h => ?_) c3
      rw [List.contains_iff_mem.mpr h] at e
      cases e
end
end Mc
namespace Mc
open PySem PySem.Spec PyProof.Rows L2
open PySem.W (Codec)
section
variable {P : Program} {w : World} {K : PySem.W.Frag} {mg : Str → Option Value} {base : Heap} {C : Addr}
/-! ### one_after_another -/
def ent (x : Nat × Nat) : Key × V := (Sum.inl (x.1 : Int), nV x.2)
theorem find_ent (o : Nat) : ∀ d : List (Nat × Nat), valV (d.map ent) (Sum.inl (o : Int)) = (d.find? fun x => x.1 == o).map fun x => nV x.2
  | [] => rfl
  | x :: d => by
    have ih := find_ent o d
    rw [List.map_cons]
    by_cases e : x.1 = o
    · rw [valV_pos (show (ent x).1 = Sum.inl (o : Int) by rw [← e]; rfl), List.find?_cons_of_pos (by rw [beq_iff_eq]; exact e)]
      rfl
    · rw [valV_neg (fun q => e (by have := Sum.inl.inj (show (Sum.inl (x.1 : Int) : Key) = Sum.inl (o : Int) from q); omega)), List.find?_cons_of_neg (by rw [beq_iff_eq]; exact e)]
      exact ih
theorem ent_has {d : List (Nat × Nat)} {o : Nat} (h : hasK d o = true) : valV (d.map ent) (Sum.inl (o : Int)) = some (nV (look d o)) := by
  rw [find_ent]
  unfold hasK at h
  unfold look
  cases e : d.find? fun x => x.1 == o with
  | none => rw [e] at h; cases h
  | some x => rfl
theorem ent_not {d : List (Nat × Nat)} {o : Nat} (h : hasK d o = false) : valV (d.map ent) (Sum.inl (o : Int)) = none := by
  rw [find_ent]
  unfold hasK at h
  cases e : d.find? fun x => x.1 == o with
  | none => rfl
  | some x => rw [e] at h; cases h
def spOne (C : Addr) : Sp := fun vs H Q _ => ∃ (p bl a : Addr) (m : Uw47.Map) (o : List Nat), vs = [.ref p, .ref a] ∧ MapAt C H p bl m ∧ H a = some (.lst (nVs o)) ∧ m.order o = true ∧
  ∀ (H' : Hp) (r : Addr), Same H H' → H r = none → H' r = some (.lst (nVs (m.plain o))) → Q (.ref r) H'
abbrev nOne : List Str := ["plan", "order", "found", "country", "other"]
theorem scOne : FnScope nOne ["plan", "order"] (defScope sOne) := ⟨rfl, rfl, rfl, by decide +kernel, rfl, by decide +kernel, by decide +kernel⟩
theorem ok_one {f f1 f2 : Addr} {fd fd1 fd2 : FuncData} (F : Fun K "one_after_another" "one_after_another" sOne f fd) (T : Txt K mg C) (NB : Me P w K mg base C "neighbours" 2 ["self", "country"] (spNb C) f1 fd1)
    (LO : Dn P w K mg base "lowest_free" 1 ["used"] spLow f2 fd2) : FnOk P w K mg base CX0 3 f fd ["plan", "order"] (spOne C) := by
  refine F.ok scOne (fun vs H Q E h => ?_) (fun cdv A outer s H vs Q E hr h => ?_)
  · obtain ⟨p, bl, a, m, o, rfl, _⟩ := h
    rfl
  · obtain ⟨p, bl, a, m, o, rfl, hM, ha, ho, k⟩ := h
    have hr1 := hr.mono (show 1 ≤ 2 by decide)
    have hu := hu_of hr
    obtain ⟨W, dx, pl, ts, h1, h2, h3, h4, h5⟩ := hM
    have hM : MapAt C H p bl m := ⟨W, dx, pl, ts, h1, h2, h3, h4, h5⟩
    have six := W.six
    have onp := order_perm.mp ho
    have ond := order_nodup ho
    have olen : o.length = m.count := by rw [onp.length_eq, List.length_range]
    refine ⟨_, pss_cons (ps_set (i := 2) scOne.nd rfl (Or.inr rfl) pe_dnewK)
      (pss_cons (ps_for PassesOwn.never rfl (pi_list (pv 1)) (pg_name (i := 3) scOne.nd rfl (Or.inl rfl))
        (pss_one (ps_dput hu (pv 2) (pv 3) (pe_call LO.ok hr1 rfl LO.gl LO.kp LO.bi .nil pass0 (pa_cons
          (pe_lc (own := [("other", 4)]) (g := gName 4) (tt := tTest (tDIn (tVar 4) (tVar 2))) (te := tDGet (tVar 2) (tVar 4)) rfl scOne.nd (pi_list (pe_meth (pv 0) T.cl NB.me NB.ok hr NB.bi .nil pass0 (pa_cons (pv 3) pa_nil))) (blkOk_by (N := nOne) (sc := defScope sOne) (by decide +kernel))
            (fun _ _ _ _ _ => pg_name (i := 4) scOne.nd rfl (Or.inl rfl)) (fun _ _ _ _ _ => pts_one (pt_cmp (pc_din hu (pv 4) (pv 2)))) (fun _ _ _ _ _ => pe_dget hu (pv 2) (pv 4) (fun _ _ => rfl))) pa_nil)) rfl)))
      (pss_one (ps_ret (pe_lc (own := [("country", 3)]) (g := gName 3) (tt := tYes) (te := tDGet (tVar 2) (tVar 3)) rfl scOne.nd (pi_range1 rfl T.range (pa_cons (pe_fld (pv 0) rfl) pa_nil)) (blkOk_by (N := nOne) (sc := defScope sOne) (by decide +kernel))
        (fun _ _ _ _ _ => pg_name (i := 3) scOne.nd rfl (Or.inl rfl)) (fun _ _ _ _ _ => pts_nil) (fun _ _ _ _ _ => pe_dget hu (pv 2) (pv 3) (fun _ _ => rfl)))))), ?_⟩
    intro d hd
    refine ⟨_, rfl, a, rfl, ⟨_, SqL.of (same_upd hd _ _ ha)⟩, for_list (K := K) (a := a) (xs := nVs o) (fun i σ H' => ∃ v3 : Option V, σ = [some (.ref p), some (.ref a), some (.ref d), v3, none] ∧ Same H H' ∧ H' d = some (.dK ((m.greedy (o.take i) []).map ent)))
      ⟨none, rfl, same_upd hd, upd_same⟩ (fun i σ H' _ ⟨_, _, s1, _⟩ => SqL.of (s1 _ _ ha)) ?_ ?_⟩
    · rintro i y σ H' hi ⟨v3, rfl, s1, hdd⟩
      obtain ⟨c, hc, rfl⟩ := nVs_get' hi
      generalize eG : m.greedy (o.take i) [] = G at hdd
      have hkeys : G.map (·.1) = o.take i := by rw [← eG, greedy_keys]; rfl
      have hnd : (G.map (·.1)).Nodup := by rw [hkeys]; exact ond.sublist (List.take_sublist _ _)
      have hGl : G.length ≤ 6 := by
        have : (G.map (·.1)).length = (o.take i).length := by rw [hkeys]
        rw [List.length_map, List.length_take] at this
        omega
      have hcn : hasK G c = false := by
        rw [← Bool.not_eq_true, hasK_iff, hkeys]
        intro q
        obtain ⟨j, hj, ej⟩ := List.mem_take_iff_getElem.mp q
        have e2 : o[j]? = some c := by rw [List.getElem?_eq_getElem (by omega), ej]
        have := nd_ix ond e2 hc
        omega
      refine ⟨_, rfl, p, dx, _, rfl, s1 _ _ h1, mF_no (by decide +kernel) (by decide +kernel) (by decide +kernel) _ _ _, _, rfl, p, bl, m, c, rfl, hM.same s1, fun H2 nb s2 hnb enb => ?_⟩
      refine ⟨nb, rfl, ⟨_, SqL.of enb⟩, fun D hD => lc_list (K := K) (a := nb) (xs := nVs (nearOf m c)) (fun j H3 => Same H2 H3 ∧ H3 D = some (.lst (nVs ((((nearOf m c).take j).filter (hasK G)).map (look G)))))
        ⟨same_upd hD, upd_same⟩ (fun j H3 _ ⟨s4, _⟩ => SqL.of (s4 _ _ enb)) ?_ ?_⟩
      · rintro j x H3 hx ⟨s4, hd3⟩
        obtain ⟨b, hb, rfl⟩ := nVs_get' hx
        have hdd3 := s4 _ _ (s2 _ _ hdd)
        refine ⟨rfl, ?_⟩
        refine ⟨_, rfl, _, rfl, d, _, rfl, DGet.k (k := Sum.inl (b : Int)) hdd3, _, rfl, ?_⟩
        cases e : hasK G b with
        | true =>
          rw [ent_has e]
          refine iteT ?_
          refine ⟨_, rfl, _, rfl, d, _, rfl, (by rw [← ent_has e]; exact DGet.k (k := Sum.inl (b : Int)) hdd3), _, hd3, line6 (by rw [nVs_len, List.length_map]; have h1 := filter_take_len (hasK G) (nearOf m c) j; have h2 := nearOf_len m c; omega), same_grow hD s4, ?_⟩
          rw [upd_same, filter_more hb, if_pos e, List.map_append, nVs_app]
          rfl
        | false =>
          rw [ent_not e]
          refine iteF ⟨s4, ?_⟩
          rw [filter_more hb, if_neg (by rw [e]; exact Bool.false_ne_true), List.append_nil]
          exact hd3
      · rintro H3 ⟨s4, hd3⟩
        rw [nVs_len, List.take_length] at hd3
        have hd3 : H3 D = some (.lst (nVs (usedBy m G c))) := hd3
        have hdd3 := s4 _ _ (s2 _ _ hdd)
        refine ⟨D, _, rfl, hd3, fun q q1 q2 => ?_⟩
        refine ⟨_, rfl, _, rfl, d, _, rfl, DPut.k (k := Sum.inl (c : Int)) hdd3 (line6 (by rw [List.length_map]; omega)), ?_⟩
        refine ⟨_, rfl, same_grow hd ((s1.trans s2).trans s4), ?_⟩
        rw [upd_same, putK_new _ (ent_not hcn), take_more hc, greedy_snoc, eG, free_is W hnd q1 q2, List.map_append]
        rfl
    · rintro σ H' ⟨v3, rfl, s1, hdd⟩
      rw [nVs_len, List.take_length] at hdd
      have hkeys : (m.greedy o []).map (·.1) = o := by rw [greedy_keys]; rfl
      refine ⟨_, rfl, p, C, dx, _, _, rfl, s1 _ _ h1, T.cl, T.nM, mF_many _ _ _, (m.count : Int), rfl, by omega, by omega, fun D hD => lc_range (lo := 0) (n := m.count) (fun i H2 => Same H' H2 ∧ H2 D = some (.lst (nVs ((List.range i).map (look (m.greedy o []))))))
        ⟨same_upd hD, upd_same⟩ ?_ ?_⟩
      · rintro i H2 hi ⟨s2, hd2⟩
        rw [zV]
        have hin : hasK (m.greedy o []) i = true := by
          rw [hasK_iff, hkeys]
          exact onp.mem_iff.mpr (List.mem_range.mpr hi)
        refine ⟨rfl, yesT ?_⟩
        refine ⟨_, rfl, _, rfl, d, _, rfl, (by rw [← ent_has hin]; exact DGet.k (k := Sum.inl (i : Int)) (s2 _ _ hdd)), _, hd2, line6 (by rw [nVs_len, List.length_map, List.length_range]; omega), same_grow hD s2, ?_⟩
        rw [upd_same, List.range_succ, List.map_append, nVs_app]
        rfl
      · rintro H2 ⟨s2, hd2⟩
        exact k H2 D (s1.trans s2) (s1.free hD) (by rw [hd2, plain_eq])
end
end Mc
namespace Mc
open PySem PySem.Spec PyProof.Rows L2
open PySem.W (Codec)
section
variable {P : Program} {w : World} {K : PySem.W.Frag} {mg : Str → Option Value} {base : Heap} {C : Addr}
open Uw47 (step ok)
open Uw47Neutral (out)
/-! ### is_row -/
def spIsRow (C : Addr) : Sp := fun vs H Q _ => ∃ (p bl a : Addr) (m : Uw47.Map) (l : List Nat) (c : Nat), vs = [.ref p, .ref a, nV c] ∧ MapAt C H p bl m ∧ H a = some (.lst (nVs l)) ∧ l.length ≤ 10 ∧ ∀ H' : Hp, Same H H' → Q (.bl (m.told c l)) H'
abbrev nIsRow : List Str := ["plan", "row", "colours", "colour"]
theorem scIsRow : FnScope nIsRow ["plan", "row", "colours"] (defScope sIsRow) := ⟨rfl, rfl, rfl, by decide +kernel, rfl, by decide +kernel, by decide +kernel⟩
theorem ok_isRow {f : Addr} {fd : FuncData} (F : Fun K "is_row" "is_row" sIsRow f fd) (T : Txt K mg C) : FnOk P w K mg base CX0 1 f fd ["plan", "row", "colours"] (spIsRow C) := by
  refine F.ok scIsRow (fun vs H Q E h => ?_) (fun cdv A outer s H vs Q E hr h => ?_)
  · obtain ⟨p, bl, a, m, l, c, rfl, _⟩ := h
    rfl
  · obtain ⟨p, bl, a, m, l, c, rfl, hM, ha, hl, k⟩ := h
    obtain ⟨W, dx, pl, ts, h1, h2, h3, h4, h5⟩ := hM
    refine ⟨_, pss_one (ps_ret (pe_and (pe_cmpR op_eq (pe_callB call_len_seq (by rfl) T.len PySem.boot_len (pa_cons (pv 1) pa_nil)) (pe_fld (pv 0) rfl) (nomark _))
      (pe_one (pe_callB (cr_all rfl) (by rfl) T.all (by decide +kernel) (pa_cons (pe_lc (own := [("colour", 3)]) (g := gName 3) (tt := tYes) rfl scIsRow.nd (pi_list (pv 1)) (blkOk_by (N := nIsRow) (sc := defScope sIsRow) (by decide +kernel))
        (fun _ _ _ _ _ => pg_name (i := 3) scIsRow.nd rfl (Or.inl rfl)) (fun _ _ _ _ _ => pts_nil) (fun _ _ _ _ _ => pe_cmpR op_lt (pv 3) (pv 2) (nomark _))) pa_nil))))), ?_⟩
    refine ⟨_, rfl, a, _, rfl, .inl (SqL.of ha), _, rfl, p, C, dx, _, _, rfl, h1, T.cl, T.nM, mF_many _ _ _, rfl, _, rfl, ?_⟩
    rw [nVs_len]
    show if decide (nV l.length = nV m.count) = true then _ else _
    rw [nV_dec]
    cases e : (l.length == m.count) with
    | false =>
      refine iteF ?_
      have := k H (Same.refl H)
      unfold Uw47.Map.told at this
      rw [e] at this
      exact this
    | true =>
      refine iteT ?_
      refine ⟨_, rfl, a, rfl, ⟨_, SqL.of ha⟩, fun D hD => lc_list (K := K) (a := a) (xs := nVs l) (fun j H2 => Same H H2 ∧ H2 D = some (.lst (((l.take j).map fun k => decide (k < c)).map V.bl)))
        ⟨same_upd hD, upd_same⟩ (fun j H2 _ ⟨s2, _⟩ => SqL.of (s2 _ _ ha)) ?_ ?_⟩
      · rintro j x H2 hx ⟨s2, hd⟩
        obtain ⟨o, ho, rfl⟩ := nVs_get' hx
        refine ⟨rfl, yesT ?_⟩
        refine ⟨_, rfl, _, rfl, _, _, rfl, rfl, _, hd, line6 (by rw [List.length_map, List.length_map, List.length_take]; omega), same_grow hD s2, ?_⟩
        have e1 : decide ((o : Int) < (c : Int)) = decide (o < c) := by
          rw [Bool.eq_iff_iff, decide_eq_true_eq, decide_eq_true_eq]
          omega
        show upd H2 D (.lst (_ ++ [V.bl (decide ((o : Int) < (c : Int)))])) D = _
        rw [upd_same, take_more ho, List.map_append, List.map_append, e1]
        rfl
      · rintro H2 ⟨s2, hd⟩
        rw [nVs_len, List.take_length] at hd
        refine ⟨D, _, rfl, SqL.of hd, ?_⟩
        have := k H2 s2
        unfold Uw47.Map.told at this
        rw [e, Bool.true_and] at this
        rw [List.all_map]
        exact this
/-! ### what a call answers -/
def Res (C : Addr) (H : Hp) (p bl : Addr) (m : Uw47.Map) (x : Uw47.Call) (Q : VK) : Prop := ∀ (H' : Hp) (r : Addr), MapAt C H' p bl (step m x).1 → (∀ b o, H b = some o → b ≠ p → b ≠ bl → H' b = some o) → (plOf H' p = plOf H p ∨ ∀ q, plOf H' p = some q → H q = none) → H r = none → H' r = some (.lst ((out (step m x).2).map V.int)) → Q (.ref r) H'
theorem Res.keep {H H' : Hp} {p bl r : Addr} {m : Uw47.Map} {x : Uw47.Call} {Q : VK} {a : Uw47.Ans} (R : Res C H p bl m x Q) (e : step m x = (m, a)) (hM : MapAt C H p bl m) (s : Same H H') (hr : H r = none) (h : H' r = some (.lst ((out a).map V.int))) : Q (.ref r) H' :=
  R H' r (by rw [e]; exact hM.same s) (fun b o hb _ _ => s b o hb) (.inl (by
    obtain ⟨_, dx, pl, ts, h1, _⟩ := hM
    exact plOf_eq ((s _ _ h1).trans h1.symm))) hr (by rw [e]; exact h)
/-- a new list of one number below nought -/
theorem out_ok (v : Int) : (out (ok v)).map V.int = [V.int v] := rfl
/-! ### border_put -/
def spBord (C : Addr) : Sp := fun vs H Q _ => ∃ (p bl : Addr) (m : Uw47.Map) (i j : Nat), vs = [.ref p, nV i, nV j] ∧ MapAt C H p bl m ∧ m.borders.length ≤ 50000 ∧ Res C H p bl m (.border i j) Q
abbrev nBord : List Str := ["plan", "one", "other"]
theorem scBord : FnScope nBord nBord (defScope sBord) := ⟨rfl, rfl, rfl, by decide +kernel, rfl, by decide +kernel, by decide +kernel⟩
theorem ok_bord {f f1 f2 : Addr} {fd fd1 fd2 : FuncData} (F : Fun K "border_put" "border_put" sBord f fd) (T : Txt K mg C) (IC : Me P w K mg base C "is_country" 1 ["self", "number"] (spIsC C) f1 fd1)
    (HB : Me P w K mg base C "have_border" 1 ["self", "one", "other"] (spHB C) f2 fd2) : FnOk P w K mg base CX0 2 f fd nBord (spBord C) := by
  refine F.ok scBord (fun vs H Q E h => ?_) (fun cdv A outer s H vs Q E hr h => ?_)
  · obtain ⟨p, bl, m, i, j, rfl, _⟩ := h
    rfl
  · obtain ⟨p, bl, m, i, j, rfl, hM, hbl, R⟩ := h
    obtain ⟨W, dx, pl, ts, h1, h2, h3, h4, h5⟩ := hM
    have hM : MapAt C H p bl m := ⟨W, dx, pl, ts, h1, h2, h3, h4, h5⟩
    have hat : ∀ {q : Str}, (q == ("many" : Str)) = false → (q == ("borders" : Str)) = false → (q == ("printed" : Str)) = false → (mF m.count bl pl).lookup q = none := fun a b c => mF_no a b c _ _ _
    refine ⟨_, pss_cons (ps_if (PW.pt (pw_or (pt_not (pt_val (pe_meth (pv 0) T.cl IC.me IC.ok hr IC.bi .nil pass0 (pa_cons (pv 1) pa_nil)))) (pw_or1 (pt_not (pt_val (pe_meth (pv 0) T.cl IC.me IC.ok hr IC.bi .nil pass0 (pa_cons (pv 2) pa_nil)))))))
        (pss_one (ps_ret (pe_lst (pa_cons (pe_un un_neg pe_int) pa_nil)))) pss_nil)
      (pss_cons (ps_if (pt_cmpR op_eq (pv 1) (pv 2) (nomark _)) (pss_one (ps_ret (pe_lst (pa_cons (pe_un un_neg pe_int) pa_nil)))) pss_nil)
      (pss_cons (ps_if (pt_val (pe_meth (pv 0) T.cl HB.me HB.ok hr HB.bi .nil pass0 (pa_cons (pv 1) (pa_cons (pv 2) pa_nil)))) (pss_one (ps_ret (pe_lst (pa_cons (pe_un un_neg pe_int) pa_nil)))) pss_nil)
      (pss_cons (ps_expr (pe_bm PySem.F.plainAttrs_list PySem.F.slot_list_append PySem.F.type_list_append mt_append (pe_fld (pv 0) rfl) (pa_cons (pe_tup (pa_cons (pe_callB (call_min2 rfl) (by rfl) T.min (by decide +kernel) (pa_cons (pv 1) (pa_cons (pv 2) pa_nil))) (pa_cons (pe_callB (call_max2 rfl) (by rfl) T.max (by decide +kernel) (pa_cons (pv 1) (pa_cons (pv 2) pa_nil))) pa_nil))) pa_nil)))
      (pss_one (ps_ret (pe_lst (pa_cons (pe_op op_sub (pe_callB call_len_seq (by rfl) T.len PySem.boot_len (pa_cons (pe_fld (pv 0) rfl) pa_nil)) pe_int) pa_nil))))))), ?_⟩
    refine ⟨_, rfl, p, dx, _, rfl, h1, hat (by decide +kernel) (by decide +kernel) (by decide +kernel), _, rfl, p, bl, m, i, rfl, hM, _, rfl, ?_⟩
    have neg : ∀ (v : Int), (m.count ≤ i ∨ m.count ≤ j → step m (.border i j) = (m, ok v)) → (m.count ≤ i ∨ m.count ≤ j) → ∀ r, H r = none → Q (.ref r) (upd H r (.lst [V.int v])) := fun v h hc r hr' => R.keep (h hc) hM (same_upd hr') hr' (by rw [out_ok]; exact upd_same)
    have st2 : m.count ≤ i ∨ m.count ≤ j → step m (.border i j) = (m, ok (-2)) := fun h => by
      unfold Uw47.step
      dsimp only
      rw [if_pos h]
    by_cases c1 : i < m.count
    · rw [decide_eq_true c1]
      refine iteF ?_
      refine ⟨_, rfl, p, dx, _, rfl, h1, hat (by decide +kernel) (by decide +kernel) (by decide +kernel), _, rfl, p, bl, m, j, rfl, hM, _, rfl, ?_⟩
      by_cases c2 : j < m.count
      · rw [decide_eq_true c2]
        refine iteF ?_
        have hge : ¬ (m.count ≤ i ∨ m.count ≤ j) := by omega
        refine ⟨_, rfl, _, rfl, rfl, _, rfl, ?_⟩
        rw [nV_dec]
        cases c3 : (i == j) with
        | true =>
          refine iteT ?_
          refine ⟨3, rfl, (by show 1 ≤ sizeLine; decide), fun r hr' => ?_⟩
          refine R.keep (a := ok (-3)) ?_ hM (same_upd hr') hr' upd_same
          unfold Uw47.step
          dsimp only
          rw [if_neg hge, if_pos (beq_iff_eq.mp c3)]
        | false =>
          refine iteF ?_
          have hij : ¬ i = j := by
            intro e
            rw [beq_iff_eq.mpr e] at c3
            cases c3
          refine ⟨_, rfl, p, dx, _, rfl, h1, hat (by decide +kernel) (by decide +kernel) (by decide +kernel), _, rfl, _, rfl, p, bl, m, i, j, rfl, hM, fun H1 s1 => ⟨_, rfl, ?_⟩⟩
          cases c4 : m.near i j with
          | true =>
            refine iteT ?_
            refine ⟨4, rfl, (by show 1 ≤ sizeLine; decide), fun r hr' => ?_⟩
            refine R.keep (a := ok (-4)) ?_ hM (s1.trans (same_upd hr')) (s1.free hr') upd_same
            unfold Uw47.step
            dsimp only
            rw [if_neg hge, if_neg hij, if_pos c4]
          | false =>
            refine iteF ?_
            refine ⟨_, rfl, p, C, dx, _, _, rfl, s1 _ _ h1, T.cl, T.nB, mF_borders _ _ _, .inl ⟨rfl, _, SqL.of (s1 _ _ h2)⟩, _, rfl, _, rfl, (i : Int), (j : Int), rfl, _, rfl, _, rfl, (i : Int), (j : Int), rfl, (by show 2 ≤ sizeLine; decide), fun t ht => ?_⟩
            rw [min_nV, max_nV]
            have s2 := s1.trans (same_upd (o := .tup [nV (min i j), nV (max i j)]) ht)
            have tsl : ts.length = m.borders.length := by rw [h5.len, List.length_map]
            have htbl : t ≠ bl := (ne_of_none (s1 _ _ h2) ht).symm
            refine ⟨bl, _, _, rfl, rfl, s2 _ _ h2, line6 (by rw [List.length_map]; omega), ?_⟩
            have hpb : p ≠ bl := ne_of h1 h2 (by intro z; cases z)
            refine ⟨_, rfl, p, C, dx, _, _, rfl, (by rw [upd_ne hpb]; exact s2 _ _ h1), T.cl, T.nB, mF_borders _ _ _, bl, _, rfl, .inl (SqL.of upd_same), _, _, rfl, rfl, (by show 1 ≤ sizeLine; decide), fun r hr' => ?_⟩
            have est : step m (.border i j) = ({ m with borders := m.borders ++ [(i, j)] }, ok (m.borders.length : Nat)) := by
              unfold Uw47.step
              dsimp only
              rw [if_neg hge, if_neg hij, if_neg (by rw [c4]; exact Bool.false_ne_true)]
            have hrb : r ≠ bl := (ne_of_none upd_same hr').symm
            have hr0 : H r = none := s2.free (by rw [upd_ne hrb] at hr'; exact hr')
            refine R _ r ?_ ?_ (.inl (plOf_eq (by rw [upd_ne (ne_of_none h1 hr0), upd_ne hpb, s2 _ _ h1, h1]))) hr0 ?_
            · have WW := wf_step W (.border i j)
              rw [est] at WW ⊢
              refine ⟨WW, dx, pl, ts ++ [t], ?_, ?_, ?_, h4, ?_⟩
              · rw [upd_ne (ne_of_none h1 hr0), upd_ne hpb]
                exact s2 _ _ h1
              · rw [upd_ne hrb.symm, upd_same, List.map_append]
                rfl
              · rw [upd_ne (ne_of_none h3 hr0), upd_ne h4]
                exact s2 _ _ h3
              · show Tups _ (ts ++ [t]) ((m.borders ++ [(i, j)]).map bp)
                rw [List.map_append]
                refine Paired.app ?_ (.cons ?_ .nil)
                · have aux : ∀ {us : List Addr} {qs : List (Nat × Nat)}, Tups H us qs → Tups (upd (upd (upd H1 t (.tup [nV (min i j), nV (max i j)])) bl (.lst (ts.map V.ref ++ [V.ref t]))) r (.lst [V.int ((((ts.map V.ref ++ [V.ref t]).length : Nat) : Int) - 1)])) us qs := by
                    intro us qs hu
                    refine Paired.mapP hu fun u b e => ?_
                    have hub : u ≠ bl := ne_of e h2 (by intro z; cases z)
                    rw [upd_ne (ne_of_none e hr0), upd_ne hub]
                    exact s2 _ _ e
                  exact aux h5
                · have htr : t ≠ r := ne_of_none (by rw [upd_ne htbl]; exact upd_same) hr'
                  rw [upd_ne htr, upd_ne htbl, upd_same]
                  rfl
            · intro b o e hb1 hb2
              rw [upd_ne (ne_of_none e hr0), upd_ne hb2]
              exact s2 _ _ e
            · rw [est, upd_same, out_ok]
              refine congrArg (fun z => some (HO.lst [V.int z])) ?_
              rw [List.length_append, List.length_map, tsl]
              show (((m.borders.length + 1 : Nat) : Int) - 1) = _
              omega
      · rw [decide_eq_false c2]
        refine iteT ?_
        refine ⟨2, rfl, (by show 1 ≤ sizeLine; decide), fun r hr' => ?_⟩
        exact neg (-2) st2 (.inr (by omega)) r hr'
    · rw [decide_eq_false c1]
      refine iteT ?_
      refine iteT ?_
      refine ⟨2, rfl, (by show 1 ≤ sizeLine; decide), fun r hr' => ?_⟩
      exact neg (-2) st2 (.inl (by omega)) r hr'
end
end Mc
namespace Mc
open PySem PySem.Spec PyProof.Rows L2
open PySem.W (Codec)
section
variable {P : Program} {w : World} {K : PySem.W.Frag} {mg : Str → Option Value} {base : Heap} {C : Addr}
open Uw47 (ok)
open Uw47Neutral (out)
theorem isEmpty_dI (l : List Nat) : PyData.eqv (dI l) (.list []) = l.isEmpty := by
  unfold dI
  rw [eqv_nil, isEmpty_map]
/-! ### printed -/
def spPrint (C : Addr) : Sp := fun vs H Q _ => ∃ (p bl a : Addr) (m : Uw47.Map) (l : List Nat), vs = [.ref p, .ref a] ∧ MapAt C H p bl m ∧ H a = some (.lst (nVs l)) ∧ l.length ≤ 10 ∧ Res C H p bl m (.print l) Q
abbrev nPrint : List Str := ["plan", "row", "alike"]
theorem scPrint : FnScope nPrint ["plan", "row"] (defScope sPrint) := ⟨rfl, rfl, rfl, by decide +kernel, rfl, by decide +kernel, by decide +kernel⟩
theorem told_len {m : Uw47.Map} {c : Nat} {l : List Nat} (h : m.told c l = true) : l.length = m.count := by
  unfold Uw47.Map.told at h
  rw [Bool.and_eq_true, beq_iff_eq] at h
  exact h.1
theorem ok_print {f f1 f2 : Addr} {fd fd1 fd2 : FuncData} (F : Fun K "printed" "printed" sPrint f fd) (T : Txt K mg C) (IR : Dn P w K mg base "is_row" 1 ["plan", "row", "colours"] (spIsRow C) f1 fd1)
    (CL : Me P w K mg base C "clash" 1 ["self", "colouring"] (spCl C) f2 fd2) : FnOk P w K mg base CX0 2 f fd ["plan", "row"] (spPrint C) := by
  refine F.ok scPrint (fun vs H Q E h => ?_) (fun cdv A outer s H vs Q E hr h => ?_)
  · obtain ⟨p, bl, a, m, l, rfl, _⟩ := h
    rfl
  · obtain ⟨p, bl, a, m, l, rfl, hM, ha, hl, R⟩ := h
    obtain ⟨t4, g4⟩ := T.gCol
    obtain ⟨W, dx, pl, ts, h1, h2, h3, h4, h5⟩ := hM
    have hM : MapAt C H p bl m := ⟨W, dx, pl, ts, h1, h2, h3, h4, h5⟩
    refine ⟨_, pss_cons (ps_if (pt_not (pt_val (pe_call IR.ok hr rfl IR.gl IR.kp IR.bi .nil pass0 (pa_cons (pv 0) (pa_cons (pv 1) (pa_cons (pe_glob (v := nV 4) rfl g4 ⟨_, rfl⟩) pa_nil)))))) (pss_one (ps_ret (pe_lst (pa_cons (pe_un un_neg pe_int) pa_nil)))) pss_nil)
      (pss_cons (ps_fld (pv 0) (pe_callTy call_list_of (by rfl) T.list (by decide +kernel) (pa_cons (pv 1) pa_nil)) rfl)
      (pss_cons (ps_set (i := 2) scPrint.nd rfl (Or.inl rfl) (pe_meth (pv 0) T.cl CL.me CL.ok hr CL.bi .nil pass0 (pa_cons (pv 1) pa_nil)))
      (pss_cons (ps_if (pt_cmpR (op_eqD hr.units) (pv 2) (pe_lst pa_nil) (nomark _)) (pss_one (ps_ret (pe_lst (pa_cons pe_int pa_nil)))) pss_nil)
      (pss_one (ps_ret (pe_op op_cat (pe_lst (pa_cons pe_int pa_nil)) (pv 2))))))), ?_⟩
    refine ⟨_, rfl, _, rfl, p, bl, a, m, l, 4, rfl, hM, ha, hl, fun H1 s1 => ⟨_, rfl, ?_⟩⟩
    cases c1 : m.told 4 l with
    | false =>
      refine iteT ?_
      refine ⟨1, rfl, (by show 1 ≤ sizeLine; decide), fun r hr' => ?_⟩
      refine R.keep (a := ok (-1)) ?_ hM (s1.trans (same_upd hr')) (s1.free hr') upd_same
      unfold Uw47.step Uw47.COLOURS
      dsimp only
      rw [if_pos c1]
    | true =>
      refine iteF ?_
      have hlc := told_len c1
      have hpb : p ≠ bl := ne_of h1 h2 (by intro z; cases z)
      refine ⟨_, rfl, a, _, rfl, .inl (SqL.of (s1 _ _ ha)), fun q hq => ?_⟩
      have s2 := s1.trans (same_upd (o := .lst (nVs l)) hq)
      have hq0 : H q = none := s1.free hq
      refine ⟨_, rfl, p, C, dx, _, rfl, s2 _ _ h1, T.cl, T.nP, (by show 3 < 1000; decide), ?_⟩
      have epf := mF_put m.count bl pl q
      have est : ∀ a', (match m.clash l with | none => ok 0 | some x => ⟨1, [x.1, x.2]⟩) = a' → Uw47.step m (.print l) = ({ m with printed := l }, a') := fun a' e => by
        unfold Uw47.step Uw47.COLOURS
        dsimp only
        rw [if_neg (by rw [c1]; exact Bool.noConfusion)]
        exact congrArg (Prod.mk _) e
      have WW : WF { m with printed := l } := ⟨W.one, W.six, hlc, W.bd⟩
      -- the heap behind the store
      generalize eH3 : upd (upd H1 q (.lst (nVs l))) p (.ins C dx (putF "printed" (.ref q) (mF m.count bl pl))) = H3
      have k3 : ∀ b o, H b = some o → b ≠ p → H3 b = some o := fun b o e hb => by
        rw [← eH3, upd_ne hb]
        exact s2 _ _ e
      have hM3 : MapAt C H3 p bl { m with printed := l } := by
        refine ⟨WW, dx, q, ts, ?_, k3 _ _ h2 hpb.symm, ?_, (ne_of_none h2 hq0).symm, Paired.mapP h5 fun u b e => k3 _ _ e (ne_of e h1 (by intro z; cases z))⟩
        · rw [← eH3, upd_same, epf]
        · rw [← eH3, upd_ne (ne_of_none h1 hq0).symm, upd_same]
      have hap : a ≠ p := ne_of ha h1 (by intro z; cases z)
      have ha3 := k3 _ _ ha hap
      have new3 : ∀ {r : Addr}, H3 r = none → H r = none := fun {r} e => by
        cases er : H r with
        | none => rfl
        | some o =>
          by_cases hrp : r = p
          · subst hrp
            rw [← eH3, upd_same] at e
            cases e
          · rw [k3 r o er hrp] at e
            cases e
      have g1 : H3 p = some (.ins C dx (mF m.count bl q)) := by rw [← eH3, upd_same, epf]
      refine ⟨_, rfl, p, dx, _, rfl, g1, mF_no (by decide +kernel) (by decide +kernel) (by decide +kernel) _ _ _, _, rfl, p, bl, a, { m with printed := l }, l, rfl, hM3, ha3, hlc, fun H4 al s4 hal eal => ?_⟩
      have eal : H4 al = some (.lst (nVs (clashL m l))) := eal
      refine ⟨_, rfl, Nat.zero_le _, fun e he => ?_⟩
      have s5 := s4.trans (same_upd (o := .lst []) he)
      have eal5 := same_upd (o := .lst []) he _ _ eal
      refine ⟨_, _, dp_list (SqL.of eal5), .lst (SqL.of upd_same) .nil, dI_shaped _, nil_shaped, _, rfl, ?_⟩
      rw [isEmpty_dI]
      cases ec : m.clash l with
      | none =>
        have el : clashL m l = [] := by
          unfold clashL
          rw [ec]
        rw [el]
        refine iteT ?_
        refine ⟨(by show 1 ≤ sizeLine; decide), fun r hr' => ?_⟩
        have s6 := s5.trans (same_upd (o := .lst [V.int 0]) hr')
        have e1 := est (ok 0) (by rw [ec])
        refine R _ r ?_ (fun b o hb n1 _ => s6 _ _ (k3 b o hb n1)) (.inr fun q' hq' => by rw [plOf_eq ((s6 _ _ g1).trans g1.symm), plOf_mF g1] at hq'; cases hq'; exact hq0) (new3 (s5.free hr')) ?_
        · rw [e1]
          exact hM3.same s6
        · rw [e1]
          exact upd_same
      | some x =>
        have el : clashL m l = [x.1, x.2] := by
          unfold clashL
          rw [ec]
        rw [el] at eal5 ⊢
        refine iteF ?_
        refine ⟨(by show 1 ≤ sizeLine; decide), fun z hz => ?_⟩
        have s6 := s5.trans (same_upd (o := .lst [V.int 1]) hz)
        refine ⟨_, rfl, z, al, _, _, rfl, rfl, upd_same, same_upd hz _ _ eal5, Nat.le_of_lt (line6 (by rw [nVs_len]; show 1 + 2 ≤ 100000; decide)), fun r hr' => ?_⟩
        have s7 := s6.trans (same_upd (o := .lst ([V.int 1] ++ nVs [x.1, x.2])) hr')
        have e1 := est ⟨1, [x.1, x.2]⟩ (by rw [ec])
        refine R _ r ?_ (fun b o hb n1 _ => s7 _ _ (k3 b o hb n1)) (.inr fun q' hq' => by rw [plOf_eq ((s7 _ _ g1).trans g1.symm), plOf_mF g1] at hq'; cases hq'; exact hq0) (new3 (s6.free hr')) ?_
        · rw [e1]
          exact hM3.same s7
        · rw [e1]
          exact upd_same
/-! ### ways -/
def spWays (C : Addr) : Sp := fun vs H Q _ => ∃ (p bl : Addr) (m : Uw47.Map) (c : Nat), vs = [.ref p, nV c] ∧ MapAt C H p bl m ∧ Res C H p bl m (.ways c) Q
abbrev nWays : List Str := ["plan", "colours"]
theorem scWays : FnScope nWays nWays (defScope sWays) := ⟨rfl, rfl, rfl, by decide +kernel, rfl, by decide +kernel, by decide +kernel⟩
theorem gt_four (c : Nat) : decide ((4 : Int) < (c : Int)) = decide (4 < c) := by
  rw [Bool.eq_iff_iff, decide_eq_true_eq, decide_eq_true_eq]
  omega
theorem ok_ways {f f1 : Addr} {fd fd1 : FuncData} (F : Fun K "ways" "ways" sWays f fd) (T : Txt K mg C) (RI : Dn P w K mg base "right_colourings" 3 ["plan", "colours"] (spRight C) f1 fd1) : FnOk P w K mg base CX0 4 f fd nWays (spWays C) := by
  refine F.ok scWays (fun vs H Q E h => ?_) (fun cdv A outer s H vs Q E hr h => ?_)
  · obtain ⟨p, bl, m, c, rfl, _⟩ := h
    rfl
  · obtain ⟨p, bl, m, c, rfl, hM, R⟩ := h
    obtain ⟨t4, g4⟩ := T.gCol
    refine ⟨_, pss_cons (ps_if (pt_cmpR op_gt (pv 1) (pe_glob (v := .int 4) rfl g4 ⟨_, rfl⟩) (nomark _)) (pss_one (ps_ret (pe_lst (pa_cons (pe_un un_neg pe_int) pa_nil)))) pss_nil)
      (pss_one (ps_ret (pe_lst (pa_cons (pe_callB call_len_seq (by rfl) T.len PySem.boot_len (pa_cons (pe_call RI.ok hr rfl RI.gl RI.kp RI.bi .nil pass0 (pa_cons (pv 0) (pa_cons (pv 1) pa_nil))) pa_nil)) pa_nil)))), ?_⟩
    refine ⟨_, rfl, _, _, rfl, rfl, _, rfl, ?_⟩
    rw [gt_four]
    by_cases c1 : 4 < c
    · rw [decide_eq_true c1]
      refine iteT ?_
      refine ⟨1, rfl, (by show 1 ≤ sizeLine; decide), fun r hr' => ?_⟩
      refine R.keep (a := ok (-1)) ?_ hM (same_upd hr') hr' upd_same
      unfold Uw47.step Uw47.COLOURS
      dsimp only
      rw [if_pos c1]
    · rw [decide_eq_false c1]
      refine iteF ?_
      refine ⟨_, rfl, _, rfl, p, bl, m, c, rfl, hM, by omega, fun H1 q s1 hq hR => ?_⟩
      obtain ⟨xs, e1, e2⟩ := hR.len
      refine ⟨q, xs, rfl, .inl (SqL.of e1), (by show 1 ≤ sizeLine; decide), fun r hr' => ?_⟩
      refine R.keep (a := ok (m.ways c : Nat)) ?_ hM (s1.trans (same_upd hr')) (s1.free hr') ?_
      · unfold Uw47.step Uw47.COLOURS
        dsimp only
        rw [if_neg c1]
      · rw [upd_same, e2]
        rfl
end
end Mc
namespace Mc
open PySem PySem.Spec PyProof.Rows L2
open PySem.W (Codec)
section
variable {P : Program} {w : World} {K : PySem.W.Frag} {mg : Str → Option Value} {base : Heap} {C : Addr}
open Uw47 (ok)
open Uw47Neutral (out)
theorem out_nV (v : Nat) (l : List Nat) : (out ⟨(v : Int), l⟩).map V.int = nVs (v :: l) := by
  show V.int (v : Int) :: (l.map fun (n : Nat) => (n : Int)).map V.int = nV v :: nVs l
  rw [List.map_map]
  rfl
/-! ### best -/
def spBest (C : Addr) : Sp := fun vs H Q _ => ∃ (p bl : Addr) (m : Uw47.Map) (c : Nat), vs = [.ref p, nV c] ∧ MapAt C H p bl m ∧ Res C H p bl m (.best c) Q
abbrev nBest : List Str := ["plan", "colours", "rows"]
theorem scBest : FnScope nBest ["plan", "colours"] (defScope sBest) := ⟨rfl, rfl, rfl, by decide +kernel, rfl, by decide +kernel, by decide +kernel⟩
theorem ok_best {f f1 f2 : Addr} {fd fd1 fd2 : FuncData} (F : Fun K "best" "best" sBest f fd) (T : Txt K mg C) (RI : Dn P w K mg base "right_colourings" 3 ["plan", "colours"] (spRight C) f1 fd1)
    (BC : Dn P w K mg base "best_colouring" 2 ["plan", "rows"] (spBestC C) f2 fd2) : FnOk P w K mg base CX0 4 f fd ["plan", "colours"] (spBest C) := by
  refine F.ok scBest (fun vs H Q E h => ?_) (fun cdv A outer s H vs Q E hr h => ?_)
  · obtain ⟨p, bl, m, c, rfl, _⟩ := h
    rfl
  · obtain ⟨p, bl, m, c, rfl, hM, R⟩ := h
    obtain ⟨t4, g4⟩ := T.gCol
    have W := hM.wf
    have six := W.six
    have hr2 := hr.mono (show 2 ≤ 3 by decide)
    refine ⟨_, pss_cons (ps_if (pt_cmpR op_gt (pv 1) (pe_glob (v := .int 4) rfl g4 ⟨_, rfl⟩) (nomark _)) (pss_one (ps_ret (pe_lst (pa_cons (pe_un un_neg pe_int) pa_nil)))) pss_nil)
      (pss_cons (ps_set (i := 2) scBest.nd rfl (Or.inl rfl) (pe_call RI.ok hr rfl RI.gl RI.kp RI.bi .nil pass0 (pa_cons (pv 0) (pa_cons (pv 1) pa_nil))))
      (pss_cons (ps_if (pt_cmpR (op_eqD hr.units) (pv 2) (pe_lst pa_nil) (nomark _)) (pss_one (ps_ret (pe_lst (pa_cons (pe_un un_neg pe_int) pa_nil)))) pss_nil)
      (pss_one (ps_ret (pe_call BC.ok hr2 rfl BC.gl BC.kp BC.bi .nil pass0 (pa_cons (pv 0) (pa_cons (pv 2) pa_nil))))))), ?_⟩
    refine ⟨_, rfl, _, _, rfl, rfl, _, rfl, ?_⟩
    rw [gt_four]
    by_cases c1 : 4 < c
    · rw [decide_eq_true c1]
      refine iteT ?_
      refine ⟨1, rfl, (by show 1 ≤ sizeLine; decide), fun r hr' => ?_⟩
      refine R.keep (a := ok (-1)) ?_ hM (same_upd hr') hr' upd_same
      unfold Uw47.step Uw47.COLOURS
      dsimp only
      rw [if_pos c1]
    · rw [decide_eq_false c1]
      refine iteF ?_
      refine ⟨_, rfl, _, rfl, p, bl, m, c, rfl, hM, by omega, fun H1 q s1 hq hR => ?_⟩
      have est : ∀ a', (match m.best c with | none => ok (-6) | some b => ⟨(b.changed : Nat), b.many :: b.row⟩) = a' → Uw47.step m (.best c) = (m, a') := fun a' e => by
        unfold Uw47.step Uw47.COLOURS
        dsimp only
        rw [if_neg c1]
        exact congrArg (Prod.mk _) e
      refine ⟨_, rfl, Nat.zero_le _, fun e he => ?_⟩
      have s2 := s1.trans (same_upd (o := .lst []) he)
      have hR2 := hR.same (same_upd (o := .lst []) he)
      refine ⟨_, _, dp_rowsAt hR2, .lst (SqL.of upd_same) .nil, dIs_shaped _, nil_shaped, _, rfl, ?_⟩
      rw [eqv_nil, isEmpty_map]
      have hlen : (m.all_ c).length ≤ 50000 := by
        rw [← grow_all]
        have h1 := grow_len m c m.count
        have h2 : c ^ m.count ≤ 4 ^ m.count := Nat.pow_le_pow_left (by omega) _
        have h3 : 4 ^ m.count ≤ 4 ^ 6 := Nat.pow_le_pow_right (by decide) six
        have h4 : 4 ^ 6 = 4096 := by decide
        omega
      have hrow : ∀ r ∈ m.all_ c, r.length = m.count := fun r hr' => by
        rw [← grow_all] at hr'
        exact (grow_row m c m.count (Nat.le_refl _) hr').1
      cases ea : (m.all_ c).isEmpty with
      | true =>
        have ea := List.isEmpty_iff.mp ea
        refine iteT ?_
        refine ⟨6, rfl, (by show 1 ≤ sizeLine; decide), fun r hr' => ?_⟩
        refine R.keep (est (ok (-6)) ?_) hM (s2.trans (same_upd hr')) (s2.free hr') upd_same
        rw [best_eq, ea]
        rfl
      | false =>
        have hne : m.all_ c ≠ [] := fun z => by rw [z] at ea; cases ea
        refine iteF ?_
        refine ⟨_, rfl, _, rfl, p, bl, q, m, m.all_ c, rfl, hM.same s2, hR2, hne, hlen, hrow, fun H3 r least s3 hr' hmem hle hb => ?_⟩
        obtain ⟨b, t, e1, e2⟩ := best_is m c hmem hle
        refine R.keep (est ⟨(least : Nat), (t.length + 1) :: b⟩ ?_) hM (s2.trans s3) (s2.free hr') ?_
        · rw [e2]
        · rw [out_nV]
          exact hb b t e1
/-! ### plain -/
def spPlain (C : Addr) : Sp := fun vs H Q _ => ∃ (p bl a : Addr) (m : Uw47.Map) (o : List Nat), vs = [.ref p, .ref a] ∧ MapAt C H p bl m ∧ H a = some (.lst (nVs o)) ∧ o.length ≤ 10 ∧ Res C H p bl m (.plain o) Q
abbrev nPlain : List Str := ["plan", "order", "row"]
theorem scPlain : FnScope nPlain ["plan", "order"] (defScope sPlain) := ⟨rfl, rfl, rfl, by decide +kernel, rfl, by decide +kernel, by decide +kernel⟩
theorem rgV_nVs (n : Nat) : rgV 0 (n : Int) = nVs (List.range n) := by
  unfold rgV nVs
  have e : ((n : Int) - 0).toNat = n := by omega
  rw [e]
  refine List.map_congr_left fun i _ => ?_
  exact zV i
theorem nats_of : ∀ {ns : List Int}, (∀ z ∈ ns, 0 ≤ z) → nI (ns.map Int.toNat) = ns
  | [], _ => rfl
  | z :: ns, h => by
    have h1 := h z List.mem_cons_self
    have ih := nats_of (ns := ns) fun y hy => h y (List.mem_cons_of_mem _ hy)
    show ((z.toNat : Nat) : Int) :: nI (ns.map Int.toNat) = z :: ns
    rw [ih]
    refine congrArg (· :: ns) ?_
    omega
theorem sort_nats {o : List Nat} {ns : List Int} (hp : ns.Perm (nI o)) (hs : ns.Pairwise (· ≤ ·)) : ∃ t : List Nat, ns = nI t ∧ t.Perm o ∧ t.Pairwise (· ≤ ·) := by
  have h0 : ∀ z ∈ ns, 0 ≤ z := fun z hz => by
    obtain ⟨x, _, e⟩ := mem_nI (hp.mem_iff.mp hz)
    omega
  refine ⟨ns.map Int.toNat, (nats_of h0).symm, ?_, ?_⟩
  · have q := hp.map Int.toNat
    have e : (nI o).map Int.toNat = o := by
      unfold nI
      rw [List.map_map]
      conv => rhs; rw [← List.map_id o]
      exact List.map_congr_left fun x _ => rfl
    rw [e] at q
    exact q
  · rw [List.pairwise_map]
    refine List.Pairwise.imp_of_mem ?_ hs
    intro x y hx hy h
    have := h0 x hx
    have := h0 y hy
    omega
theorem eqv_ints : ∀ (l r : List Nat), PyData.eqvAll (l.map fun (n : Nat) => PyData.int (n : Int)) (r.map fun (n : Nat) => PyData.int (n : Int)) = decide (l = r)
  | [], [] => by simp [PyData.eqvAll]
  | [], b :: r => by simp [PyData.eqvAll]
  | a :: l, [] => by simp [PyData.eqvAll]
  | a :: l, b :: r => by
    have ih := eqv_ints l r
    simp only [List.map_cons, PyData.eqvAll, PyData.eqv]
    rw [ih, Bool.eq_iff_iff, Bool.and_eq_true, beq_iff_eq, decide_eq_true_eq, decide_eq_true_eq, List.cons.injEq]
    constructor
    · rintro ⟨h1, h2⟩
      exact ⟨by omega, h2⟩
    · rintro ⟨h1, h2⟩
      exact ⟨by omega, h2⟩
theorem eqv_dI (l r : List Nat) : PyData.eqv (dI l) (dI r) = decide (l = r) := by
  unfold dI
  simp only [PyData.eqv]
  exact eqv_ints l r
theorem ok_plain {f f1 : Addr} {fd fd1 : FuncData} (F : Fun K "plain" "plain" sPlain f fd) (T : Txt K mg C) (ON : Dn P w K mg base "one_after_another" 3 ["plan", "order"] (spOne C) f1 fd1) : FnOk P w K mg base CX0 4 f fd ["plan", "order"] (spPlain C) := by
  refine F.ok scPlain (fun vs H Q E h => ?_) (fun cdv A outer s H vs Q E hr h => ?_)
  · obtain ⟨p, bl, a, m, o, rfl, _⟩ := h
    rfl
  · obtain ⟨p, bl, a, m, o, rfl, hM, ha, hol, R⟩ := h
    obtain ⟨W, dx, pl, ts, h1, h2, h3, h4, h5⟩ := hM
    have hM : MapAt C H p bl m := ⟨W, dx, pl, ts, h1, h2, h3, h4, h5⟩
    have six := W.six
    have one := W.one
    refine ⟨_, pss_cons (ps_if (pt_cmpR (op_neD hr.units) (pe_callB cr_sortedI (by rfl) T.sorted (by decide +kernel) (pa_cons (pv 1) pa_nil)) (pe_listRg rfl rfl T.list (prg_1 rfl T.range (pe_fld (pv 0) rfl))) (nomark _)) (pss_one (ps_ret (pe_lst (pa_cons (pe_un un_neg pe_int) pa_nil)))) pss_nil)
      (pss_cons (ps_set (i := 2) scPlain.nd rfl (Or.inl rfl) (pe_call ON.ok hr rfl ON.gl ON.kp ON.bi .nil pass0 (pa_cons (pv 0) (pa_cons (pv 1) pa_nil))))
      (pss_one (ps_ret (pe_op op_cat (pe_lst (pa_cons (pe_op op_add (pe_callB (cr_max rfl) (by rfl) T.max (by decide +kernel) (pa_cons (pv 2) pa_nil)) pe_int) pa_nil)) (pv 2))))), ?_⟩
    refine ⟨_, rfl, a, nI o, rfl, by rw [nVs_nI]; exact SqL.of ha, fun ns' q hp hs hq => ?_⟩
    obtain ⟨t, rfl, ht1, ht2⟩ := sort_nats hp hs
    rw [nVs_nI]
    have s1 := same_upd (o := .lst (nVs t)) hq
    refine ⟨_, rfl, p, C, dx, _, _, rfl, s1 _ _ h1, T.cl, T.nM, mF_many _ _ _, (m.count : Int), rfl, RgOk.of_le (by decide) (by omega) (by decide) (by omega), fun z hz => ?_⟩
    have s2 := s1.trans (same_upd (o := .lst (rgV 0 (m.count : Int))) hz)
    refine ⟨_, _, dp_list (l := t) (SqL.of (same_upd hz _ _ upd_same)), dp_list (l := List.range m.count) (by rw [← rgV_nVs]; exact SqL.of upd_same), dI_shaped _, dI_shaped _, _, rfl, ?_⟩
    rw [eqv_dI]
    have key := order_iff (m := m) ht1 ht2
    cases c1 : m.order o with
    | false =>
      have hne : ¬ t = List.range m.count := fun e => by rw [key.mp e] at c1; cases c1
      rw [decide_eq_false hne]
      refine iteT ?_
      refine ⟨1, rfl, (by show 1 ≤ sizeLine; decide), fun r hr' => ?_⟩
      refine R.keep (a := ok (-1)) ?_ hM (s2.trans (same_upd hr')) (s2.free hr') upd_same
      unfold Uw47.step
      dsimp only
      rw [if_pos c1]
    | true =>
      rw [decide_eq_true (key.mpr c1)]
      refine iteF ?_
      refine ⟨_, rfl, _, rfl, p, bl, a, m, o, rfl, hM.same s2, s2 _ _ ha, c1, fun H3 ro s3 hro ero => ?_⟩
      have pllen : (m.plain o).length = m.count := by rw [plain_eq, List.length_map, List.length_range]
      refine ⟨_, rfl, ro, nI (m.plain o), rfl, by rw [nVs_nI]; exact SqL.of ero, ?_, fun M hM1 hM2 => ?_⟩
      · unfold nI
        rw [List.length_map]
        omega
      · obtain ⟨mx, hmx, rfl⟩ := mem_nI hM1
        have hmax : (m.plain o).foldl max 0 = mx := max_is hmx fun x hx => by
          have := hM2 _ (in_nI hx)
          omega
        refine ⟨_, _, rfl, rfl, (by show 1 ≤ sizeLine; decide), fun y hy => ?_⟩
        have s4 := same_upd (o := .lst [V.int ((mx : Int) + 1)]) hy
        refine ⟨_, rfl, y, ro, _, _, rfl, rfl, upd_same, s4 _ _ ero, Nat.le_of_lt (line6 (by rw [nVs_len, pllen]; show 1 + m.count ≤ 100000; omega)), fun r hr' => ?_⟩
        have s5 := (s2.trans s3).trans s4
        refine R.keep (a := ⟨(((m.plain o).foldl max 0 + 1 : Nat) : Int), m.plain o⟩) ?_ hM (s5.trans (same_upd hr')) (s5.free hr') ?_
        · unfold Uw47.step
          dsimp only
          rw [if_neg (by rw [c1]; exact Bool.noConfusion)]
        · rw [out_nV, hmax, upd_same]
          rfl
/-! ### checked -/
def spCheck (C : Addr) : Sp := fun vs H Q _ => ∃ (p bl a : Addr) (m : Uw47.Map) (c : Nat) (l : List Nat), vs = [.ref p, nV c, .ref a] ∧ MapAt C H p bl m ∧ H a = some (.lst (nVs l)) ∧ l.length ≤ 10 ∧ Res C H p bl m (.check c l) Q
abbrev nCheck : List Str := ["plan", "colours", "row", "alike"]
theorem scCheck : FnScope nCheck ["plan", "colours", "row"] (defScope sCheck) := ⟨rfl, rfl, rfl, by decide +kernel, rfl, by decide +kernel, by decide +kernel⟩
theorem ok_check {f f1 f2 f3 : Addr} {fd fd1 fd2 fd3 : FuncData} (F : Fun K "checked" "checked" sCheck f fd) (T : Txt K mg C) (IR : Dn P w K mg base "is_row" 1 ["plan", "row", "colours"] (spIsRow C) f1 fd1)
    (CL : Me P w K mg base C "clash" 1 ["self", "colouring"] (spCl C) f2 fd2) (CH : Me P w K mg base C "changes" 1 ["self", "colouring"] (spCh C) f3 fd3) : FnOk P w K mg base CX0 2 f fd ["plan", "colours", "row"] (spCheck C) := by
  refine F.ok scCheck (fun vs H Q E h => ?_) (fun cdv A outer s H vs Q E hr h => ?_)
  · obtain ⟨p, bl, a, m, c, l, rfl, _⟩ := h
    rfl
  · obtain ⟨p, bl, a, m, c, l, rfl, hM, ha, hl, R⟩ := h
    obtain ⟨t4, g4⟩ := T.gCol
    obtain ⟨W, dx, pl, ts, h1, h2, h3, h4, h5⟩ := hM
    have hM : MapAt C H p bl m := ⟨W, dx, pl, ts, h1, h2, h3, h4, h5⟩
    refine ⟨_, pss_cons (ps_if (PW.pt (pw_or (pt_cmpR op_gt (pv 1) (pe_glob (v := .int 4) rfl g4 ⟨_, rfl⟩) (nomark _)) (pw_or1 (pt_not (pt_val (pe_call IR.ok hr rfl IR.gl IR.kp IR.bi .nil pass0 (pa_cons (pv 0) (pa_cons (pv 2) (pa_cons (pv 1) pa_nil)))))))))
        (pss_one (ps_ret (pe_lst (pa_cons (pe_un un_neg pe_int) pa_nil)))) pss_nil)
      (pss_cons (ps_set (i := 3) scCheck.nd rfl (Or.inl rfl) (pe_meth (pv 0) T.cl CL.me CL.ok hr CL.bi .nil pass0 (pa_cons (pv 2) pa_nil)))
      (pss_cons (ps_if (pt_cmpR (op_neD hr.units) (pv 3) (pe_lst pa_nil) (nomark _)) (pss_one (ps_ret (pe_op op_cat (pe_lst (pa_cons (pe_un un_neg pe_int) pa_nil)) (pv 3)))) pss_nil)
      (pss_one (ps_ret (pe_lst (pa_cons (pe_meth (pv 0) T.cl CH.me CH.ok hr CH.bi .nil pass0 (pa_cons (pv 2) pa_nil)) pa_nil)))))), ?_⟩
    refine ⟨_, rfl, _, _, rfl, rfl, _, rfl, ?_⟩
    rw [gt_four]
    by_cases c1 : 4 < c
    · rw [decide_eq_true c1]
      refine iteT ?_
      refine iteT ?_
      refine ⟨1, rfl, (by show 1 ≤ sizeLine; decide), fun r hr' => ?_⟩
      refine R.keep (a := ok (-1)) ?_ hM (same_upd hr') hr' upd_same
      unfold Uw47.step Uw47.COLOURS
      dsimp only
      rw [if_pos (.inl c1)]
    · rw [decide_eq_false c1]
      refine iteF ?_
      refine ⟨_, rfl, _, rfl, _, rfl, p, bl, a, m, l, c, rfl, hM, ha, hl, fun H1 s1 => ⟨_, rfl, ?_⟩⟩
      cases c2 : m.told c l with
      | false =>
        refine iteT ?_
        refine ⟨1, rfl, (by show 1 ≤ sizeLine; decide), fun r hr' => ?_⟩
        refine R.keep (a := ok (-1)) ?_ hM (s1.trans (same_upd hr')) (s1.free hr') upd_same
        unfold Uw47.step Uw47.COLOURS
        dsimp only
        rw [if_pos (.inr c2)]
      | true =>
        refine iteF ?_
        have hlc := told_len c2
        have est : ∀ a', (match m.clash l with | none => ok (Uw47.changed l m.printed : Nat) | some x => ⟨-6, [x.1, x.2]⟩) = a' → Uw47.step m (.check c l) = (m, a') := fun a' e => by
          unfold Uw47.step Uw47.COLOURS
          dsimp only
          rw [if_neg (by rw [c2]; intro z; rcases z with z | z; exact c1 z; cases z)]
          exact congrArg (Prod.mk _) e
        refine ⟨_, rfl, p, dx, _, rfl, s1 _ _ h1, mF_no (by decide +kernel) (by decide +kernel) (by decide +kernel) _ _ _, _, rfl, p, bl, a, m, l, rfl, hM.same s1, s1 _ _ ha, hlc, fun H2 al s2 hal eal => ?_⟩
        refine ⟨_, rfl, Nat.zero_le _, fun e he => ?_⟩
        have s3 := (s1.trans s2).trans (same_upd (o := .lst []) he)
        have eal3 := same_upd (o := .lst []) he _ _ eal
        refine ⟨_, _, dp_list (SqL.of eal3), .lst (SqL.of upd_same) .nil, dI_shaped _, nil_shaped, _, rfl, ?_⟩
        rw [isEmpty_dI]
        cases ec : m.clash l with
        | none =>
          have el : clashL m l = [] := by
            unfold clashL
            rw [ec]
          rw [el]
          refine iteF ?_
          refine ⟨_, rfl, p, dx, _, rfl, s3 _ _ h1, mF_no (by decide +kernel) (by decide +kernel) (by decide +kernel) _ _ _, _, rfl, p, bl, a, m, l, rfl, hM.same s3, s3 _ _ ha, hlc, fun H4 s4 => ?_⟩
          refine ⟨(by show 1 ≤ sizeLine; decide), fun r hr' => ?_⟩
          have s5 := s3.trans s4
          exact R.keep (est (ok (Uw47.changed l m.printed : Nat)) (by rw [ec])) hM (s5.trans (same_upd hr')) (s5.free hr') upd_same
        | some x =>
          have el : clashL m l = [x.1, x.2] := by
            unfold clashL
            rw [ec]
          rw [el] at eal3 ⊢
          refine iteT ?_
          refine ⟨6, rfl, (by show 1 ≤ sizeLine; decide), fun z hz => ?_⟩
          have s6 := s3.trans (same_upd (o := .lst [V.int (-6)]) hz)
          refine ⟨_, rfl, z, al, _, _, rfl, rfl, upd_same, same_upd hz _ _ eal3, Nat.le_of_lt (line6 (by rw [nVs_len]; show 1 + 2 ≤ 100000; decide)), fun r hr' => ?_⟩
          exact R.keep (est ⟨-6, [x.1, x.2]⟩ (by rw [ec])) hM (s6.trans (same_upd hr')) (s6.free hr') upd_same
end
end Mc
namespace Mc
open PySem PySem.Spec PyProof.Rows L2
open PySem.W (Codec)
section
variable {P : Program} {w : World} {K : PySem.W.Frag} {mg : Str → Option Value} {base : Heap} {C : Addr}
open Uw47 (ok Call)
open Uw47Neutral (out)
/-! ### answer -/
def num : Call → Nat
  | .begins _ => 0
  | .border _ _ => 1
  | .print _ => 2
  | .ways _ => 3
  | .fewest => 4
  | .best _ => 5
  | .plain _ => 6
  | .check _ _ => 7
def ns : Call → List Nat
  | .begins n => [n]
  | .border i k => [i, k]
  | .print _ => []
  | .ways c => [c]
  | .fewest => []
  | .best c => [c]
  | .plain _ => []
  | .check c _ => [c]
def rwO : Call → Option (List Nat)
  | .print l => some l
  | .plain o => some o
  | .check _ l => some l
  | _ => none
def rowPart : Option (List Nat) → List Int
  | none => []
  | some r => (r.length : Int) :: nI r
theorem flat_eq (x : Call) : flat x = (num x : Int) :: (nI (ns x) ++ rowPart (rwO x)) := by
  cases x <;> rfl
/-- the rows of a call: none, or one -/
def RowArg (H : Hp) (ra : Addr) : Option (List Nat) → Prop
  | none => True
  | some r => ∃ r0 : Addr, H ra = some (.lst [.ref r0]) ∧ H r0 = some (.lst (nVs r))
theorem iteNe {i j : Int} {A B : Prop} (h : ¬ i = j) (hb : B) : if decide (V.int i = V.int j) = true then A else B := by
  rw [decide_eq_false (fun e => h (V.int.inj e))]
  exact iteF hb
theorem iteEq {i j : Int} {A B : Prop} (h : i = j) (ha : A) : if decide (V.int i = V.int j) = true then A else B := by
  rw [decide_eq_true (congrArg V.int h)]
  exact iteT ha
def spAnswer (C : Addr) : Sp := fun vs H Q _ => ∃ (p bl na ra : Addr) (m : Uw47.Map) (x : Call), vs = [.ref p, nV (num x), .ref na, .ref ra] ∧ MapAt C H p bl m ∧ H na = some (.lst (nVs (ns x))) ∧ RowArg H ra (rwO x) ∧ okX x ∧ m.borders.length ≤ 50000 ∧ num x ≠ 0 ∧ Res C H p bl m x Q
abbrev nAnswer : List Str := ["plan", "call", "numbers", "rows"]
theorem scAnswer : FnScope nAnswer nAnswer (defScope sAnswer) := ⟨rfl, rfl, rfl, by decide +kernel, rfl, by decide +kernel, by decide +kernel⟩
theorem ok_answer {f f1 f2 f3 f4 f5 f6 f7 : Addr} {fd fd1 fd2 fd3 fd4 fd5 fd6 fd7 : FuncData} (F : Fun K "answer" "answer" sAnswer f fd)
    (BO : Dn P w K mg base "border_put" 2 nBord (spBord C) f1 fd1) (PR : Dn P w K mg base "printed" 2 ["plan", "row"] (spPrint C) f2 fd2) (WA : Dn P w K mg base "ways" 4 nWays (spWays C) f3 fd3)
    (FE : Dn P w K mg base "fewest_colours" 4 ["plan"] (spFew C) f4 fd4) (BE : Dn P w K mg base "best" 4 ["plan", "colours"] (spBest C) f5 fd5) (PL : Dn P w K mg base "plain" 4 ["plan", "order"] (spPlain C) f6 fd6)
    (CK : Dn P w K mg base "checked" 2 ["plan", "colours", "row"] (spCheck C) f7 fd7) : FnOk P w K mg base CX0 5 f fd nAnswer (spAnswer C) := by
  refine F.ok scAnswer (fun vs H Q E h => ?_) (fun cdv A outer s H vs Q E hr h => ?_)
  · obtain ⟨p, bl, na, ra, m, x, rfl, _⟩ := h
    rfl
  · obtain ⟨p, bl, na, ra, m, x, rfl, hM, hna, hra, hok, hbl, hnz, R⟩ := h
    have hr2 := hr.mono (show 2 ≤ 4 by decide)
    refine ⟨_, pss_cons (ps_if (pt_cmpR op_eq (pv 1) pe_int (nomark _)) (pss_one (ps_ret (pe_call BO.ok hr2 rfl BO.gl BO.kp BO.bi .nil pass0 (pa_cons (pv 0) (pa_cons (pe_ix ix_list (pv 2) pe_int (fun _ _ => rfl)) (pa_cons (pe_ix ix_list (pv 2) pe_int (fun _ _ => rfl)) pa_nil)))))) pss_nil)
      (pss_cons (ps_if (pt_cmpR op_eq (pv 1) pe_int (nomark _)) (pss_one (ps_ret (pe_call PR.ok hr2 rfl PR.gl PR.kp PR.bi .nil pass0 (pa_cons (pv 0) (pa_cons (pe_ix ix_list (pv 3) pe_int (fun _ _ => rfl)) pa_nil))))) pss_nil)
      (pss_cons (ps_if (pt_cmpR op_eq (pv 1) pe_int (nomark _)) (pss_one (ps_ret (pe_call WA.ok hr rfl WA.gl WA.kp WA.bi .nil pass0 (pa_cons (pv 0) (pa_cons (pe_ix ix_list (pv 2) pe_int (fun _ _ => rfl)) pa_nil))))) pss_nil)
      (pss_cons (ps_if (pt_cmpR op_eq (pv 1) pe_int (nomark _)) (pss_one (ps_ret (pe_lst (pa_cons (pe_call FE.ok hr rfl FE.gl FE.kp FE.bi .nil pass0 (pa_cons (pv 0) pa_nil)) pa_nil)))) pss_nil)
      (pss_cons (ps_if (pt_cmpR op_eq (pv 1) pe_int (nomark _)) (pss_one (ps_ret (pe_call BE.ok hr rfl BE.gl BE.kp BE.bi .nil pass0 (pa_cons (pv 0) (pa_cons (pe_ix ix_list (pv 2) pe_int (fun _ _ => rfl)) pa_nil))))) pss_nil)
      (pss_cons (ps_if (pt_cmpR op_eq (pv 1) pe_int (nomark _)) (pss_one (ps_ret (pe_call PL.ok hr rfl PL.gl PL.kp PL.bi .nil pass0 (pa_cons (pv 0) (pa_cons (pe_ix ix_list (pv 3) pe_int (fun _ _ => rfl)) pa_nil))))) pss_nil)
      (pss_one (ps_ret (pe_call CK.ok hr2 rfl CK.gl CK.kp CK.bi .nil pass0 (pa_cons (pv 0) (pa_cons (pe_ix ix_list (pv 2) pe_int (fun _ _ => rfl)) (pa_cons (pe_ix ix_list (pv 3) pe_int (fun _ _ => rfl)) pa_nil))))))))))), ?_⟩
    cases x with
    | begins n => exact absurd rfl hnz
    | border i k =>
      have hna : H na = some (.lst [nV i, nV k]) := hna
      refine ⟨_, rfl, rfl, _, rfl, iteEq rfl ?_⟩
      exact ⟨_, rfl, _, rfl, na, _, _, _, rfl, rfl, SqL.of hna, atI_nat (j := 0) rfl, _, rfl, na, _, _, _, rfl, rfl, SqL.of hna, atI_nat (j := 1) rfl, p, bl, m, i, k, rfl, hM, hbl, R⟩
    | print l =>
      obtain ⟨r0, e1, e2⟩ := hra
      refine ⟨_, rfl, rfl, _, rfl, iteNe (by simp only [num]; decide) ?_⟩
      refine ⟨_, rfl, rfl, _, rfl, iteEq rfl ?_⟩
      exact ⟨_, rfl, _, rfl, ra, _, _, _, rfl, rfl, SqL.of e1, atI_nat (j := 0) rfl, p, bl, r0, m, l, rfl, hM, e2, hok, R⟩
    | ways c =>
      have hna : H na = some (.lst [nV c]) := hna
      refine ⟨_, rfl, rfl, _, rfl, iteNe (by simp only [num]; decide) ?_⟩
      refine ⟨_, rfl, rfl, _, rfl, iteNe (by simp only [num]; decide) ?_⟩
      refine ⟨_, rfl, rfl, _, rfl, iteEq rfl ?_⟩
      exact ⟨_, rfl, _, rfl, na, _, _, _, rfl, rfl, SqL.of hna, atI_nat (j := 0) rfl, p, bl, m, c, rfl, hM, R⟩
    | fewest =>
      refine ⟨_, rfl, rfl, _, rfl, iteNe (by simp only [num]; decide) ?_⟩
      refine ⟨_, rfl, rfl, _, rfl, iteNe (by simp only [num]; decide) ?_⟩
      refine ⟨_, rfl, rfl, _, rfl, iteNe (by simp only [num]; decide) ?_⟩
      refine ⟨_, rfl, rfl, _, rfl, iteEq rfl ?_⟩
      refine ⟨_, rfl, p, bl, m, rfl, hM, fun H1 c s1 hc => ?_⟩
      refine ⟨(by show 1 ≤ sizeLine; decide), fun r hr' => ?_⟩
      refine R.keep (a := ok (c : Nat)) ?_ hM (s1.trans (same_upd hr')) (s1.free hr') upd_same
      unfold Uw47.step
      dsimp only
      rw [hc]
    | best c =>
      have hna : H na = some (.lst [nV c]) := hna
      refine ⟨_, rfl, rfl, _, rfl, iteNe (by simp only [num]; decide) ?_⟩
      refine ⟨_, rfl, rfl, _, rfl, iteNe (by simp only [num]; decide) ?_⟩
      refine ⟨_, rfl, rfl, _, rfl, iteNe (by simp only [num]; decide) ?_⟩
      refine ⟨_, rfl, rfl, _, rfl, iteNe (by simp only [num]; decide) ?_⟩
      refine ⟨_, rfl, rfl, _, rfl, iteEq rfl ?_⟩
      exact ⟨_, rfl, _, rfl, na, _, _, _, rfl, rfl, SqL.of hna, atI_nat (j := 0) rfl, p, bl, m, c, rfl, hM, R⟩
    | plain o =>
      obtain ⟨r0, e1, e2⟩ := hra
      refine ⟨_, rfl, rfl, _, rfl, iteNe (by simp only [num]; decide) ?_⟩
      refine ⟨_, rfl, rfl, _, rfl, iteNe (by simp only [num]; decide) ?_⟩
      refine ⟨_, rfl, rfl, _, rfl, iteNe (by simp only [num]; decide) ?_⟩
      refine ⟨_, rfl, rfl, _, rfl, iteNe (by simp only [num]; decide) ?_⟩
      refine ⟨_, rfl, rfl, _, rfl, iteNe (by simp only [num]; decide) ?_⟩
      refine ⟨_, rfl, rfl, _, rfl, iteEq rfl ?_⟩
      exact ⟨_, rfl, _, rfl, ra, _, _, _, rfl, rfl, SqL.of e1, atI_nat (j := 0) rfl, p, bl, r0, m, o, rfl, hM, e2, hok, R⟩
    | check c l =>
      have hna : H na = some (.lst [nV c]) := hna
      obtain ⟨r0, e1, e2⟩ := hra
      refine ⟨_, rfl, rfl, _, rfl, iteNe (by simp only [num]; decide) ?_⟩
      refine ⟨_, rfl, rfl, _, rfl, iteNe (by simp only [num]; decide) ?_⟩
      refine ⟨_, rfl, rfl, _, rfl, iteNe (by simp only [num]; decide) ?_⟩
      refine ⟨_, rfl, rfl, _, rfl, iteNe (by simp only [num]; decide) ?_⟩
      refine ⟨_, rfl, rfl, _, rfl, iteNe (by simp only [num]; decide) ?_⟩
      refine ⟨_, rfl, rfl, _, rfl, iteNe (by simp only [num]; decide) ?_⟩
      exact ⟨_, rfl, _, rfl, na, _, _, _, rfl, rfl, SqL.of hna, atI_nat (j := 0) rfl, _, rfl, ra, _, _, _, rfl, rfl, SqL.of e1, atI_nat (j := 0) rfl, p, bl, r0, m, c, l, rfl, hM, e2, hok, R⟩
end
end Mc
namespace Mc
open PySem PySem.Spec PyProof.Rows L2
open PySem.W (Codec)
section
variable {P : Program} {w : World} {K : PySem.W.Frag} {mg : Str → Option Value} {base : Heap} {C : Addr}
open Uw47 (ok Call)
open Uw47Neutral (out)
/-! ### answers: the list cut into calls -/
def numV : List V := [nV 1, nV 2, nV 0, nV 1, nV 0, nV 1, nV 0, nV 1]
def rowV : List V := [nV 0, nV 0, nV 1, nV 0, nV 0, nV 0, nV 1, nV 1]
theorem at_num (x : Call) : atI numV (num x : Int) = some (nV (ns x).length) := by
  cases x with
  | begins n => exact atI_nat (j := 0) rfl
  | border i k => exact atI_nat (j := 1) rfl
  | print l => exact atI_nat (j := 2) rfl
  | ways c => exact atI_nat (j := 3) rfl
  | fewest => exact atI_nat (j := 4) rfl
  | best c => exact atI_nat (j := 5) rfl
  | plain o => exact atI_nat (j := 6) rfl
  | check c l => exact atI_nat (j := 7) rfl
def rowN : Option (List Nat) → Nat
  | none => 0
  | some _ => 1
theorem at_row (x : Call) : atI rowV (num x : Int) = some (nV (rowN (rwO x))) := by
  cases x with
  | begins n => exact atI_nat (j := 0) rfl
  | border i k => exact atI_nat (j := 1) rfl
  | print l => exact atI_nat (j := 2) rfl
  | ways c => exact atI_nat (j := 3) rfl
  | fewest => exact atI_nat (j := 4) rfl
  | best c => exact atI_nat (j := 5) rfl
  | plain o => exact atI_nat (j := 6) rfl
  | check c l => exact atI_nat (j := 7) rfl
theorem cut_mid (A B D : List V) {i j : Nat} (hi : i = A.length) (hj : j = A.length + B.length) : cutV (A ++ (B ++ D)) (some (i : Int)) (some (j : Int)) = B := by
  subst hi hj
  unfold cutV
  rw [HT.sIx_nat, HT.sIx_nat, List.length_append, List.length_append, Nat.min_eq_left (by omega), Nat.min_eq_left (by omega), List.drop_left, Nat.add_sub_cancel_left, List.take_left]
theorem mid_at {A D : List V} {v : V} {i : Nat} (h : i = A.length) : (A ++ (v :: D))[i]? = some v := by
  subst h
  rw [List.getElem?_append_right (Nat.le_refl _), Nat.sub_self]
  rfl
theorem line7 {n : Nat} (h : n ≤ 10000000) : n < sizeLine := Nat.lt_of_le_of_lt h (by decide)
theorem iteNotNe {i j : Int} {A B : Prop} (h : ¬ i = j) (ha : A) : if (!decide (V.int i = V.int j)) = true then A else B := by
  rw [decide_eq_false (fun e => h (V.int.inj e))]
  exact iteT ha
theorem iteNotEq {i j : Int} {A B : Prop} (h : i = j) (hb : B) : if (!decide (V.int i = V.int j)) = true then A else B := by
  rw [decide_eq_true (congrArg V.int h)]
  exact iteF hb
theorem iteDec {c : Prop} [Decidable c] {A B : Prop} (h : c) (ha : A) : if decide c = true then A else B := by
  rw [decide_eq_true h]
  exact iteT ha
theorem iteDecN {c : Prop} [Decidable c] {A B : Prop} (h : ¬ c) (hb : B) : if decide c = true then A else B := by
  rw [decide_eq_false h]
  exact iteF hb
structure Tbl (K : PySem.W.Frag) (mg : Str → Option Value) (aN aR : Addr) : Prop where
  gN : mg "NUMBERS" = some (.ref aN)
  gR : mg "ROWS" = some (.ref aR)
  tN : ∀ H, SqT K H aN numV
  tR : ∀ H, SqT K H aR rowV
/-- what holds between two turns -/
structure Mid (C : Addr) (H : Hp) (fo : Addr) (xs done rest : List Call) (H' : Hp) (m : Uw47.Map) (p bl : Addr) (os : List Int) : Prop where
  sm : Same H H'
  mp : MapAt C H' p bl m
  np : H p = none
  nb : H bl = none
  ne : fo ≠ bl
  pl : plOf H' p ≠ some fo
  fo : H' fo = some (.lst (os.map V.int))
  eo : outs Uw47.init xs = os ++ outs m rest
  bo : m.borders.length ≤ done.length
def spAnswers (K : PySem.W.Frag) : Sp := fun vs H Q _ => ∃ (a : Addr) (xs : List Call), vs = [.ref a] ∧ SqL K H a ((xs.flatMap flat).map V.int) ∧ xs.length ≤ 60 ∧ (∀ x ∈ xs, okX x) ∧ (outs Uw47.init xs).length ≤ 10000000 ∧
  ∀ (H' : Hp) (p : Addr), H' p = some (.lst ((outs Uw47.init xs).map V.int)) → Q (.ref p) H'
abbrev nAns : List Str := ["calls", "plan", "found", "at", "call", "behind", "numbers", "rows", "some"]
theorem scAns : FnScope nAns ["calls"] (defScope sAnswers) := ⟨rfl, rfl, rfl, by decide +kernel, rfl, by decide +kernel, by decide +kernel⟩
theorem init_eq : (⟨1, [], List.replicate 1 0⟩ : Uw47.Map) = Uw47.init := rfl
theorem ok_answers {f f1 f2 aN aR : Addr} {fd fd1 fd2 : FuncData} (F : Fun K "answers" "answers" sAnswers f fd) (T : Txt K mg C) (B : Tbl K mg aN aR) (M : Mk K C f1) (GI : FnOk P w K mg base CX0 1 f1 fd1 ["self", "many"] (spInit C)) (bI : Binds K fd1 ["self", "many"] [])
    (AN : Dn P w K mg base "answer" 5 nAnswer (spAnswer C) f2 fd2) : FnOk P w K mg base CX0 6 f fd ["calls"] (spAnswers K) := by
  refine F.ok scAns (fun vs H Q E h => ?_) (fun cdv A outer s H vs Q E hr h => ?_)
  · obtain ⟨a, xs, rfl, _⟩ := h
    rfl
  · obtain ⟨a, xs, rfl, hS, hx60, hok, hol, k⟩ := h
    obtain ⟨t0, g0⟩ := T.gBeg
    obtain ⟨t6, g6⟩ := T.gCou
    have hr2 := hr.mono (show 2 ≤ 5 by decide)
    refine ⟨_, pss_cons (ps_set (i := 1) scAns.nd rfl (Or.inl rfl) (pe_make M GI hr2 rfl T.gC bI .nil pass0 (pa_cons pe_int pa_nil)))
      (pss_cons (ps_set (i := 2) scAns.nd rfl (Or.inl rfl) (pe_lst pa_nil))
      (pss_cons (ps_set (i := 3) scAns.nd rfl (Or.inl rfl) pe_int)
      (pss_cons (ps_while PassesOwn.never (pt_cmpR op_lt (pv 3) (pe_callB call_len_seq (by rfl) T.len PySem.boot_len (pa_cons (pv 0) pa_nil)) (nomark _))
        (pss_cons (ps_set (i := 4) scAns.nd rfl (Or.inl rfl) (pe_ix ix_list (pv 0) (pv 3) (fun _ _ => rfl)))
        (pss_cons (ps_set (i := 5) scAns.nd rfl (Or.inl rfl) (pe_op op_add (pe_op op_add (pv 3) pe_int) (pe_ix ix_tup (pe_glob (v := .ref aN) rfl B.gN rfl) (pv 4) (fun _ _ => rfl))))
        (pss_cons (ps_set (i := 6) scAns.nd rfl (Or.inl rfl) (pe_slice sl_list (pv 0) (po_some (pe_op op_add (pv 3) pe_int)) (po_some (pv 5))))
        (pss_cons (ps_set (i := 7) scAns.nd rfl (Or.inl rfl) (pe_lst pa_nil))
        (C8.pss_cut (ps_if (pt_cmpR op_eq (pe_ix ix_tup (pe_glob (v := .ref aR) rfl B.gR rfl) (pv 4) (fun _ _ => rfl)) pe_int (nomark _))
          (pss_cons (ps_set (i := 7) scAns.nd rfl (Or.inl rfl) (pe_lst (pa_cons (pe_slice sl_list (pv 0) (po_some (pe_op op_add (pv 5) pe_int)) (po_some (pe_op op_add (pe_op op_add (pv 5) pe_int) (pe_ix ix_list (pv 0) (pv 5) (fun _ _ => rfl))))) pa_nil)))
          (pss_one (ps_set (i := 5) scAns.nd rfl (Or.inl rfl) (pe_op op_add (pe_op op_add (pv 5) pe_int) (pe_ix ix_list (pv 0) (pv 5) (fun _ _ => rfl)))))) pss_nil)
        (pss_cons (ps_set (i := 8) scAns.nd rfl (Or.inl rfl) (pe_lst (pa_cons pe_int pa_nil)))
        (C8.pss_cut (ps_if (pt_cmpR op_ne (pv 4) (pe_glob (v := .int 0) rfl g0 ⟨_, rfl⟩) (nomark _))
          (pss_one (ps_set (i := 8) scAns.nd rfl (Or.inl rfl) (pe_call AN.ok hr rfl AN.gl AN.kp AN.bi .nil pass0 (pa_cons (pv 1) (pa_cons (pv 4) (pa_cons (pv 6) (pa_cons (pv 7) pa_nil)))))))
          (pss_one (ps_if (pt_chain op_le op_le pe_int (pe_ix ix_list (pv 6) pe_int (fun _ _ => rfl)) (pe_glob (v := .int 6) rfl g6 ⟨_, rfl⟩))
            (pss_one (ps_set (i := 1) scAns.nd rfl (Or.inl rfl) (pe_make M GI hr2 rfl T.gC bI .nil pass0 (pa_cons (pe_ix ix_list (pv 6) pe_int (fun _ _ => rfl)) pa_nil))))
            (pss_one (ps_set (i := 8) scAns.nd rfl (Or.inl rfl) (pe_lst (pa_cons (pe_un un_neg pe_int) pa_nil)))))))
        (pss_cons (ps_expr (pe_bm PySem.F.plainAttrs_list PySem.F.slot_list_append PySem.F.type_list_append mt_append (pv 2) (pa_cons (pe_callB call_len_seq (by rfl) T.len PySem.boot_len (pa_cons (pv 8) pa_nil)) pa_nil)))
        (pss_cons (ps_expr (pe_bm PySem.F.plainAttrs_list PySem.F.slot_list_extend PySem.F.type_list_extend mt_extend (pv 2) (pa_cons (pv 8) pa_nil)))
        (pss_one (ps_set (i := 3) scAns.nd rfl (Or.inl rfl) (pv 5)))))))))))))
      (pss_one (ps_ret (pv 2)))))), ?_⟩
    -- plan = Map(1)
    intro px pdx n1 n2 n3
    refine ⟨px, pdx, 1, rfl, upd_same, Nat.le_refl 1, by decide, fun H1 bl hM1 hbl1 hpl1 kp1 => ⟨rfl, ?_⟩⟩
    have s1 : Same H H1 := Same.made n1 n2 kp1
    have hbl0 : H bl = none := upd_none (upd_none hbl1)
    rw [init_eq] at hM1
    -- found = []
    refine ⟨Nat.zero_le _, fun fo hfo => ?_⟩
    have hfo0 : H fo = none := s1.free hfo
    have M0 : Mid C H fo xs [] xs (upd H1 fo (.lst [])) Uw47.init px bl [] := by
      obtain ⟨W, dx, pl, ts, h1, h2, h3, h4, h5⟩ := hM1
      have hM1 : MapAt C H1 px bl Uw47.init := ⟨W, dx, pl, ts, h1, h2, h3, h4, h5⟩
      refine ⟨same_grow hfo0 s1, hM1.same (same_upd hfo), n1, hbl0, (ne_of_none h2 hfo).symm, ?_, upd_same, rfl, Nat.le_refl _⟩
      rw [plOf_mF (same_upd (o := .lst []) hfo _ _ h1)]
      intro e
      cases e
      rw [hfo] at h3
      cases h3
    refine ⟨fun q σ H' => ∃ (done rest : List Call) (m : Uw47.Map) (p bl : Addr) (os : List Int) (v4 v5 v6 v7 v8 : Option V), q = rest.length ∧ xs = done ++ rest ∧ σ = [some (.ref a), some (.ref p), some (.ref fo), some (nV (done.flatMap flat).length), v4, v5, v6, v7, v8] ∧ Mid C H fo xs done rest H' m p bl os,
      ⟨_, [], xs, Uw47.init, px, bl, [], none, none, none, none, none, rfl, rfl, rfl, M0⟩, ?_⟩
    clear M0 hpl1 kp1 hM1
    rintro q σ H' ⟨done, rest, m, p, bl, os, v4, v5, v6, v7, v8, rfl, exs, rfl, I⟩
    have hSn := I.sm.seq hS
    refine ⟨_, rfl, _, rfl, a, _, rfl, .inl hSn, _, _, rfl, rfl, _, rfl, ?_⟩
    cases rest with
    | nil =>
      rw [List.append_nil] at exs
      subst exs
      rw [List.length_map]
      show if decide ((((xs.flatMap flat).length : Nat) : Int) < (((xs.flatMap flat).length : Nat) : Int)) = true then _ else _
      rw [decide_eq_false (by omega)]
      refine iteF ?_
      refine ⟨_, rfl, ?_⟩
      refine k H' fo ?_
      rw [I.fo, I.eo]
      show _ = some (HO.lst ((os ++ []).map V.int))
      rw [List.append_nil]
    | cons x rest =>
      have eL : xs.flatMap flat = done.flatMap flat ++ ((num x : Int) :: (nI (ns x) ++ (rowPart (rwO x) ++ rest.flatMap flat))) := by
        rw [exs, List.flatMap_append, List.flatMap_cons, flat_eq, List.cons_append, List.append_assoc]
      have hxm : x ∈ xs := by rw [exs]; exact List.mem_append_right _ List.mem_cons_self
      have hokx := hok x hxm
      generalize hat : (done.flatMap flat).length = at_
      have hlt : at_ < ((xs.flatMap flat).map V.int).length := by
        rw [List.length_map, eL, List.length_append, List.length_cons]
        omega
      have eV : (xs.flatMap flat).map V.int = (done.flatMap flat).map V.int ++ (nV (num x) :: (nVs (ns x) ++ ((rowPart (rwO x)).map V.int ++ (rest.flatMap flat).map V.int))) := by
        rw [eL, List.map_append, List.map_cons, List.map_append, List.map_append, nVs_nI]
        rfl
      have lenP : ((done.flatMap flat).map V.int).length = at_ := by rw [List.length_map, hat]
      have eAt : ((xs.flatMap flat).map V.int)[at_]? = some (nV (num x)) := by
        rw [eV]
        exact mid_at lenP.symm
      have eCut : cutV ((xs.flatMap flat).map V.int) (some ((at_ + 1 : Nat) : Int)) (some ((at_ + 1 + (ns x).length : Nat) : Int)) = nVs (ns x) := by
        have e : (done.flatMap flat).map V.int ++ (nV (num x) :: (nVs (ns x) ++ ((rowPart (rwO x)).map V.int ++ (rest.flatMap flat).map V.int))) = ((done.flatMap flat).map V.int ++ [nV (num x)]) ++ (nVs (ns x) ++ ((rowPart (rwO x)).map V.int ++ (rest.flatMap flat).map V.int)) := by
          rw [List.append_assoc]
          rfl
        rw [eV, e]
        exact cut_mid _ _ _ (by rw [List.length_append, lenP]; rfl) (by rw [List.length_append, lenP, nVs_len]; rfl)
      show if decide (((at_ : Nat) : Int) < ((((xs.flatMap flat).map V.int).length : Nat) : Int)) = true then _ else _
      rw [decide_eq_true (by omega)]
      refine iteT ⟨fun σ' H'' => ∃ (m' : Uw47.Map) (p' bl' : Addr) (os' : List Int) (v4 v5 v6 v7 v8 : Option V), σ' = [some (.ref a), some (.ref p'), some (.ref fo), some (nV ((done ++ [x]).flatMap flat).length), v4, v5, v6, v7, v8] ∧ Mid C H fo xs (done ++ [x]) rest H'' m' p' bl' os', ?_, ?_⟩
      · rintro σ' H'' ⟨m', p', bl', os', w4, w5, w6, w7, w8, rfl, I'⟩
        refine ⟨rest.length, Nat.lt_succ_self _, done ++ [x], rest, m', p', bl', os', w4, w5, w6, w7, w8, rfl, ?_, rfl, I'⟩
        rw [exs, List.append_assoc]
        rfl
      · -- call = calls[at]
        refine ⟨_, rfl, _, rfl, a, _, _, _, rfl, rfl, hSn, atI_nat eAt, ?_⟩
        -- behind = at + 1 + NUMBERS[call]
        refine ⟨_, rfl, _, _, rfl, rfl, _, rfl, aN, _, _, _, rfl, rfl, B.tN _, at_num x, ((at_ + 1 : Nat) : Int), _, rfl, rfl, ?_⟩
        -- numbers = calls[at + 1:behind]
        refine ⟨_, rfl, _, rfl, _, _, rfl, rfl, ((at_ + 1 : Nat) : Int), rfl, _, rfl, ((at_ + 1 + (ns x).length : Nat) : Int), rfl, a, _, rfl, hSn, fun na hna => ?_⟩
        rw [eCut]
        have s2 := same_upd (o := .lst (nVs (ns x))) hna
        -- rows = []
        refine ⟨Nat.zero_le _, fun ra hra => ?_⟩
        have s3 := s2.trans (same_upd (o := .lst []) hra)
        have elen : (flat x).length = 1 + (ns x).length + (rowPart (rwO x)).length := by
          rw [flat_eq, List.length_cons, List.length_append]
          unfold nI
          rw [List.length_map]
          omega
        refine ⟨fun σ' H'' => ∃ (ra' : Addr) (be : Nat), σ' = [some (.ref a), some (.ref p), some (.ref fo), some (nV at_), some (nV (num x)), some (nV be), some (.ref na), some (.ref ra'), v8] ∧ be = at_ + (flat x).length ∧ Same H' H'' ∧ H'' na = some (.lst (nVs (ns x))) ∧ RowArg H'' ra' (rwO x), ?_, ?_⟩
        · refine ⟨_, rfl, aR, _, _, _, rfl, rfl, B.tR _, at_row x, rfl, _, rfl, ?_⟩
          have hS3 := (I.sm.trans s3).seq hS
          have hna3 := same_upd (o := .lst []) hra na (.lst (nVs (ns x))) upd_same
          cases er : rwO x with
          | none =>
            rw [er] at elen
            refine iteNe (by simp only [rowN]; decide) ?_
            refine ⟨ra, at_ + 1 + (ns x).length, rfl, ?_, s3, hna3, trivial⟩
            rw [elen]
            show _ = at_ + (1 + (ns x).length + 0)
            omega
          | some r =>
            rw [er] at elen eV
            refine iteEq (by simp only [rowN]; rfl) ?_
            have eV2 : (xs.flatMap flat).map V.int = ((done.flatMap flat).map V.int ++ (nV (num x) :: nVs (ns x))) ++ (nV r.length :: (nVs r ++ (rest.flatMap flat).map V.int)) := by
              rw [eV, List.append_assoc]
              show _ = _ ++ (nV (num x) :: (nVs (ns x) ++ (nV r.length :: (nVs r ++ (rest.flatMap flat).map V.int))))
              rw [← nVs_nI r]
              rfl
            have lenQ : ((done.flatMap flat).map V.int ++ (nV (num x) :: nVs (ns x))).length = at_ + 1 + (ns x).length := by
              rw [List.length_append, lenP, List.length_cons, nVs_len]
              omega
            have eAt2 : ((xs.flatMap flat).map V.int)[at_ + 1 + (ns x).length]? = some (nV r.length) := by
              rw [eV2]
              exact mid_at lenQ.symm
            have eCut2 : cutV ((xs.flatMap flat).map V.int) (some ((at_ + 1 + (ns x).length + 1 : Nat) : Int)) (some ((at_ + 1 + (ns x).length + 1 + r.length : Nat) : Int)) = nVs r := by
              have e : ((done.flatMap flat).map V.int ++ (nV (num x) :: nVs (ns x))) ++ (nV r.length :: (nVs r ++ (rest.flatMap flat).map V.int)) = (((done.flatMap flat).map V.int ++ (nV (num x) :: nVs (ns x))) ++ [nV r.length]) ++ (nVs r ++ (rest.flatMap flat).map V.int) := by
                rw [List.append_assoc _ [nV r.length]]
                rfl
              rw [eV2, e]
              exact cut_mid _ _ _ (by rw [List.length_append, lenQ]; rfl) (by rw [List.length_append, lenQ, nVs_len]; rfl)
            refine ⟨_, rfl, _, rfl, _, _, rfl, rfl, ((at_ + 1 + (ns x).length + 1 : Nat) : Int), rfl, _, rfl, _, _, rfl, rfl, _, rfl, _, rfl, a, _, ((at_ + 1 + (ns x).length : Nat) : Int), _, rfl, rfl, hS3, atI_nat eAt2, ((at_ + 1 + (ns x).length + 1 : Nat) : Int), _, rfl, rfl, ((at_ + 1 + (ns x).length + 1 + r.length : Nat) : Int), rfl, a, _, rfl, hS3, fun r0 hr0 => ?_⟩
            rw [eCut2]
            refine ⟨(by show 1 ≤ sizeLine; decide), fun ra2 hra2 => ?_⟩
            have s4 := s3.trans (same_upd (o := .lst (nVs r)) hr0)
            have s5 := s4.trans (same_upd (o := .lst [V.ref r0]) hra2)
            have hS5 := (I.sm.trans s5).seq hS
            refine ⟨_, rfl, _, _, rfl, rfl, _, rfl, _, rfl, a, _, ((at_ + 1 + (ns x).length : Nat) : Int), _, rfl, rfl, hS5, atI_nat eAt2, ((at_ + 1 + (ns x).length + 1 : Nat) : Int), _, rfl, rfl, ?_⟩
            refine ⟨ra2, at_ + 1 + (ns x).length + 1 + r.length, rfl, ?_, s5, ?_, r0, upd_same, ?_⟩
            · rw [elen]
              show _ = at_ + (1 + (ns x).length + ((nI r).length + 1))
              unfold nI
              rw [List.length_map]
              omega
            · exact same_upd hra2 _ _ (same_upd hr0 _ _ hna3)
            · exact same_upd hra2 _ _ upd_same
        · clear hra s3 ra
          rintro σ' H2 ⟨ra, be, rfl, ebe, s3, hna2, hra2⟩
          have hfo2 := s3 _ _ I.fo
          have sm2 := I.sm.trans s3
          -- some = [0]
          refine ⟨(by show 1 ≤ sizeLine; decide), fun sm hsm => ?_⟩
          have s4 := same_upd (o := .lst [V.int 0]) hsm
          have pl2 : plOf H2 p = plOf H' p := by
            obtain ⟨_, dx, pl, ts, h1, _⟩ := I.mp
            exact plOf_eq ((s3 _ _ h1).trans h1.symm)
          refine ⟨fun σ' H'' => ∃ (p' bl' r : Addr), σ' = [some (.ref a), some (.ref p'), some (.ref fo), some (nV at_), some (nV (num x)), some (nV be), some (.ref na), some (.ref ra), some (.ref r)] ∧ Same H H'' ∧ MapAt C H'' p' bl' (Uw47.step m x).1 ∧ H p' = none ∧ H bl' = none ∧ fo ≠ bl' ∧ plOf H'' p' ≠ some fo ∧ H'' fo = some (.lst (os.map V.int)) ∧ H'' r = some (.lst ((out (Uw47.step m x).2).map V.int)) ∧ r ≠ fo, ?_, ?_⟩
          · have smfo : sm ≠ fo := (ne_of_none hfo2 hsm).symm
            have hM4 := (I.mp.same s3).same s4
            have pl4 : plOf (upd H2 sm (.lst [V.int 0])) p = plOf H' p := by
              obtain ⟨_, dx, pl, ts, h1, _⟩ := I.mp
              exact plOf_eq (((s3.trans s4) _ _ h1).trans h1.symm)
            refine ⟨_, rfl, rfl, _, rfl, ?_⟩
            by_cases hz : num x = 0
            · refine iteNotEq (by omega) ?_
              cases x with
              | begins n =>
                have hna4 := s4 _ _ hna2
                have hna4 : upd H2 sm (.lst [V.int 0]) na = some (.lst [nV n]) := hna4
                refine ⟨_, rfl, na, _, _, _, rfl, rfl, SqL.of hna4, atI_nat (j := 0) rfl, _, _, rfl, rfl, _, rfl, ?_⟩
                by_cases c1 : 1 ≤ n
                · rw [if_pos (decide_eq_true (by omega))]
                  refine ⟨_, _, rfl, rfl, _, rfl, ?_⟩
                  by_cases c2 : n ≤ 6
                  · have est : Uw47.step m (.begins n) = (⟨n, [], List.replicate n 0⟩, ok 0) := by
                      unfold Uw47.step Uw47.COUNTRIES
                      dsimp only
                      rw [if_neg (by omega)]
                    refine iteDec (c := (n : Int) ≤ 6) (by omega) ?_
                    refine ⟨_, rfl, na, _, _, _, rfl, rfl, SqL.of hna4, atI_nat (j := 0) rfl, ?_⟩
                    intro qx qdx m1 m2 m3
                    refine ⟨qx, qdx, n, rfl, upd_same, c1, c2, fun H5 bl5 hM5 hbl5 hpl5 kp5 => ⟨rfl, ?_⟩⟩
                    have s5 : Same (upd H2 sm (.lst [V.int 0])) H5 := Same.made m1 m2 kp5
                    have s6 := (sm2.trans s4).trans s5
                    have hbl6 := upd_none (upd_none hbl5)
                    have hfo4 := s4 _ _ hfo2
                    refine ⟨qx, bl5, sm, rfl, s6, ?_, (sm2.trans s4).free m1, (sm2.trans s4).free hbl6, ne_of_none hfo4 hbl6, fun e => ?_, s5 _ _ hfo4, ?_, smfo⟩
                    · rw [est]
                      exact hM5
                    · have := upd_none (upd_none (hpl5 fo e))
                      rw [hfo4] at this
                      cases this
                    · rw [est]
                      exact s5 _ _ upd_same
                  · have est : Uw47.step m (.begins n) = (m, ok (-1)) := by
                      unfold Uw47.step Uw47.COUNTRIES
                      dsimp only
                      rw [if_pos (by omega)]
                    refine iteDecN (c := (n : Int) ≤ 6) (by omega) ?_
                    refine ⟨1, rfl, (by show 1 ≤ sizeLine; decide), fun r hr' => ?_⟩
                    have s5 := s4.trans (same_upd (o := .lst [V.int (-1)]) hr')
                    refine ⟨p, bl, r, rfl, sm2.trans s5, ?_, I.np, I.nb, I.ne, ?_, s5 _ _ hfo2, ?_, (ne_of_none (s4 _ _ hfo2) hr').symm⟩
                    · rw [est]
                      exact hM4.same (same_upd hr')
                    · obtain ⟨_, dx, pl, ts, h1, _⟩ := I.mp
                      rw [plOf_eq (((s3.trans s5) _ _ h1).trans h1.symm)]
                      exact I.pl
                    · rw [est]
                      exact upd_same
                · have est : Uw47.step m (.begins n) = (m, ok (-1)) := by
                    unfold Uw47.step Uw47.COUNTRIES
                    dsimp only
                    rw [if_pos (by omega)]
                  rw [if_neg (by rw [decide_eq_true_eq]; omega)]
                  refine ⟨_, rfl, iteF ?_⟩
                  refine ⟨1, rfl, (by show 1 ≤ sizeLine; decide), fun r hr' => ?_⟩
                  have s5 := s4.trans (same_upd (o := .lst [V.int (-1)]) hr')
                  refine ⟨p, bl, r, rfl, sm2.trans s5, ?_, I.np, I.nb, I.ne, ?_, s5 _ _ hfo2, ?_, (ne_of_none (s4 _ _ hfo2) hr').symm⟩
                  · rw [est]
                    exact hM4.same (same_upd hr')
                  · obtain ⟨_, dx, pl, ts, h1, _⟩ := I.mp
                    rw [plOf_eq (((s3.trans s5) _ _ h1).trans h1.symm)]
                    exact I.pl
                  · rw [est]
                    exact upd_same
              | _ => exact absurd hz (by simp only [num]; decide)
            · refine iteNotNe (by omega) ?_
              have hra4 : RowArg (upd H2 sm (.lst [V.int 0])) ra (rwO x) := by
                cases er : rwO x with
                | none => trivial
                | some r =>
                  rw [er] at hra2
                  obtain ⟨r0, e1, e2⟩ := hra2
                  exact ⟨r0, s4 _ _ e1, s4 _ _ e2⟩
              have hbo : m.borders.length ≤ 50000 := by
                have h1 := I.bo
                have h2 : done.length ≤ xs.length := by rw [exs, List.length_append]; omega
                omega
              refine ⟨_, rfl, _, rfl, _, rfl, _, rfl, p, bl, na, ra, m, x, rfl, hM4, s4 _ _ hna2, hra4, hokx, hbo, hz, fun H5 r hM5 kp5 hpl5 hr5 er5 => ?_⟩
              have hfo4 := s4 _ _ hfo2
              have fop : fo ≠ p := by
                obtain ⟨_, dx, pl, ts, h1, _⟩ := hM4
                exact ne_of hfo4 h1 (by intro z; cases z)
              refine ⟨p, bl, r, rfl, fun b o e => kp5 b o ((sm2.trans s4) b o e) (ne_of_none e I.np) (ne_of_none e I.nb), hM5, I.np, I.nb, I.ne, ?_, kp5 _ _ hfo4 fop I.ne, er5, (ne_of_none hfo4 hr5).symm⟩
              rcases hpl5 with e | e
              · rw [e, pl4]
                exact I.pl
              · intro q
                have := e fo q
                rw [hfo4] at this
                cases this
          · clear hsm s4 sm
            rintro σ' H3 ⟨p', bl', r, rfl, sm3, hM3, np, nb, ne, hpl, hfo3, hr3, hrf⟩
            have eo : outs Uw47.init xs = (os ++ (((out (Uw47.step m x).2).length : Int) :: out (Uw47.step m x).2)) ++ outs (Uw47.step m x).1 rest := by
              rw [I.eo, List.append_assoc]
              rfl
            have elo : os.length + (1 + (out (Uw47.step m x).2).length) ≤ 10000000 := by
              have h1 := congrArg List.length eo
              rw [List.length_append, List.length_append, List.length_cons] at h1
              omega
            -- found.append(len(some))
            refine ⟨_, rfl, .inl ⟨rfl, _, SqL.of hfo3⟩, _, rfl, r, _, rfl, .inl (SqL.of hr3), fo, _, _, rfl, rfl, hfo3, line7 (by rw [List.length_map]; omega), ?_⟩
            -- found.extend(some)
            refine ⟨_, rfl, .inl ⟨rfl, _, SqL.of upd_same⟩, _, rfl, fo, r, _, _, rfl, rfl, upd_same, (by rw [upd_ne hrf]; exact hr3), Nat.le_of_lt (line7 (by rw [List.length_append, List.length_map, List.length_map]; show os.length + 1 + _ ≤ _; omega)), ?_⟩
            rw [upd_upd]
            -- at = behind
            refine ⟨_, rfl, ?_⟩
            obtain ⟨hM6, hpl6⟩ := MapAt.upd (ys := os.map V.int ++ [V.int (((((out (Uw47.step m x).2).map V.int).length : Nat) : Int))] ++ (out (Uw47.step m x).2).map V.int) hM3 hfo3 ne hpl
            refine ⟨(Uw47.step m x).1, p', bl', os ++ (((out (Uw47.step m x).2).length : Int) :: out (Uw47.step m x).2), some (nV (num x)), some (nV be), some (.ref na), some (.ref ra), some (.ref r), ?_, ⟨same_grow hfo0 sm3, hM6, np, nb, ne, by rw [hpl6]; exact hpl, ?_, eo, ?_⟩⟩
            · have e : ((done ++ [x]).flatMap flat).length = be := by
                rw [List.flatMap_append, List.length_append, hat, ebe]
                show at_ + (flat x ++ []).length = _
                rw [List.append_nil]
              rw [e]
              rfl
            · rw [upd_same, List.map_append, List.length_map, List.append_assoc]
              rfl
            · have h1 := borders_step m x
              have h2 := I.bo
              rw [List.length_append]
              show _ ≤ done.length + 1
              omega
end
end Mc
namespace Mc
open PySem PySem.Spec PyProof.Rows L2
open PySem.W (Codec)
theorem tup_written {K : PySem.W.Frag} {a : Addr} {dN : Option Addr} {sl : Array (Option Value)} {us : List Value} {n : Nat} {xs : List V} (l : K.lookup a = some ⟨.type "tuple", dN, .seq us.toArray n, sl⟩) (r : Vals xs us) (hz : us.length ≤ sizeLine) : ∀ H, SqT K H a xs := fun H =>
  .inr ⟨_, us.toArray, n, l, rfl, rfl, (by rw [List.size_toArray]; exact hz), r⟩
theorem all_mk {P : Program} {w : World} {K : PySem.W.Frag} {h : Heap} {mg : Str → Option Value} {fa C aN aR : Addr} {dN dR : Option Addr} {slN slR : Array (Option Value)} {nN nR : Nat} {tB tC tL n0 n1 n2 n3 n4 n5 n6 n7 r0 r1 r2 r3 r4 r5 r6 r7 : Tok}
    {fmi : Addr} {odmi anmi : Option Addr} {slmi : Array (Option Value)} {ocmi kVmi dcmi pmmi cdmi ctmi : Value}
    {fmc : Addr} {odmc anmc : Option Addr} {slmc : Array (Option Value)} {ocmc kVmc dcmc pmmc cdmc ctmc : Value}
    {fmh : Addr} {odmh anmh : Option Addr} {slmh : Array (Option Value)} {ocmh kVmh dcmh pmmh cdmh ctmh : Value}
    {fmn : Addr} {odmn anmn : Option Addr} {slmn : Array (Option Value)} {ocmn kVmn dcmn pmmn cdmn ctmn : Value}
    {fml : Addr} {odml anml : Option Addr} {slml : Array (Option Value)} {ocml kVml dcml pmml cdml ctml : Value}
    {fmx : Addr} {odmx anmx : Option Addr} {slmx : Array (Option Value)} {ocmx kVmx dcmx pmmx cdmx ctmx : Value}
    {flo : Addr} {odlo anlo : Option Addr} {sllo : Array (Option Value)} {oclo kVlo dclo pmlo cdlo ctlo : Value}
    {fri : Addr} {odri anri : Option Addr} {slri : Array (Option Value)} {ocri kVri dcri pmri cdri ctri : Value}
    {ffe : Addr} {odfe anfe : Option Addr} {slfe : Array (Option Value)} {ocfe kVfe dcfe pmfe cdfe ctfe : Value}
    {fbc : Addr} {odbc anbc : Option Addr} {slbc : Array (Option Value)} {ocbc kVbc dcbc pmbc cdbc ctbc : Value}
    {flw : Addr} {odlw anlw : Option Addr} {sllw : Array (Option Value)} {oclw kVlw dclw pmlw cdlw ctlw : Value}
    {fon : Addr} {odon anon : Option Addr} {slon : Array (Option Value)} {ocon kVon dcon pmon cdon cton : Value}
    {fbo : Addr} {odbo anbo : Option Addr} {slbo : Array (Option Value)} {ocbo kVbo dcbo pmbo cdbo ctbo : Value}
    {fir : Addr} {odir anir : Option Addr} {slir : Array (Option Value)} {ocir kVir dcir pmir cdir ctir : Value}
    {fpr : Addr} {odpr anpr : Option Addr} {slpr : Array (Option Value)} {ocpr kVpr dcpr pmpr cdpr ctpr : Value}
    {fwa : Addr} {odwa anwa : Option Addr} {slwa : Array (Option Value)} {ocwa kVwa dcwa pmwa cdwa ctwa : Value}
    {fbe : Addr} {odbe anbe : Option Addr} {slbe : Array (Option Value)} {ocbe kVbe dcbe pmbe cdbe ctbe : Value}
    {fpl : Addr} {odpl anpl : Option Addr} {slpl : Array (Option Value)} {ocpl kVpl dcpl pmpl cdpl ctpl : Value}
    {fck : Addr} {odck anck : Option Addr} {slck : Array (Option Value)} {occk kVck dcck pmck cdck ctck : Value}
    {fan : Addr} {odan anan : Option Addr} {slan : Array (Option Value)} {ocan kVan dcan pman cdan ctan : Value}
    {fas : Addr} {odas anas : Option Addr} {slas : Array (Option Value)} {ocas kVas dcas pmas cdas ctas : Value}
    (X : K.In h) (G : h.Ns mainGlobals mg) (hfa : mg "answers" = some (.ref fa))
    (aC : PySem.W.nsIn K mainGlobals "Map" = some (some (.ref C)))
    (ami : PySem.W.findIn K (.ref C) "__init__" = some (some (.ref fmi))) (imi : PySem.W.isFn K (.ref fmi) = true) (lmi : K.lookup fmi = some ⟨ocmi, odmi, .func (PySem.W.fnOf "__init__" "Map.__init__" (defArgs sInit) (defBody sInit) (defScope sInit) .none kVmi dcmi pmmi anmi cdmi ctmi), slmi⟩) (cmi : PySem.W.codeIn K cdmi "Map.__init__" = true) (kmi : PySem.W.keepIn K (.ref fmi) = true)
    (amc : PySem.W.findIn K (.ref C) "is_country" = some (some (.ref fmc))) (imc : PySem.W.isFn K (.ref fmc) = true) (lmc : K.lookup fmc = some ⟨ocmc, odmc, .func (PySem.W.fnOf "is_country" "Map.is_country" (defArgs sIsC) (defBody sIsC) (defScope sIsC) .none kVmc dcmc pmmc anmc cdmc ctmc), slmc⟩) (cmc : PySem.W.codeIn K cdmc "Map.is_country" = true) (kmc : PySem.W.keepIn K (.ref fmc) = true)
    (amh : PySem.W.findIn K (.ref C) "have_border" = some (some (.ref fmh))) (imh : PySem.W.isFn K (.ref fmh) = true) (lmh : K.lookup fmh = some ⟨ocmh, odmh, .func (PySem.W.fnOf "have_border" "Map.have_border" (defArgs sHB) (defBody sHB) (defScope sHB) .none kVmh dcmh pmmh anmh cdmh ctmh), slmh⟩) (cmh : PySem.W.codeIn K cdmh "Map.have_border" = true) (kmh : PySem.W.keepIn K (.ref fmh) = true)
    (amn : PySem.W.findIn K (.ref C) "neighbours" = some (some (.ref fmn))) (imn : PySem.W.isFn K (.ref fmn) = true) (lmn : K.lookup fmn = some ⟨ocmn, odmn, .func (PySem.W.fnOf "neighbours" "Map.neighbours" (defArgs sNb) (defBody sNb) (defScope sNb) .none kVmn dcmn pmmn anmn cdmn ctmn), slmn⟩) (cmn : PySem.W.codeIn K cdmn "Map.neighbours" = true) (kmn : PySem.W.keepIn K (.ref fmn) = true)
    (aml : PySem.W.findIn K (.ref C) "clash" = some (some (.ref fml))) (iml : PySem.W.isFn K (.ref fml) = true) (lml : K.lookup fml = some ⟨ocml, odml, .func (PySem.W.fnOf "clash" "Map.clash" (defArgs sCl) (defBody sCl) (defScope sCl) .none kVml dcml pmml anml cdml ctml), slml⟩) (cml : PySem.W.codeIn K cdml "Map.clash" = true) (kml : PySem.W.keepIn K (.ref fml) = true)
    (amx : PySem.W.findIn K (.ref C) "changes" = some (some (.ref fmx))) (imx : PySem.W.isFn K (.ref fmx) = true) (lmx : K.lookup fmx = some ⟨ocmx, odmx, .func (PySem.W.fnOf "changes" "Map.changes" (defArgs sCh) (defBody sCh) (defScope sCh) .none kVmx dcmx pmmx anmx cdmx ctmx), slmx⟩) (cmx : PySem.W.codeIn K cdmx "Map.changes" = true) (kmx : PySem.W.keepIn K (.ref fmx) = true)
    (alo : PySem.W.nsIn K mainGlobals "longer" = some (some (.ref flo))) (llo : K.lookup flo = some ⟨oclo, odlo, .func (PySem.W.fnOf "longer" "longer" (defArgs sLong) (defBody sLong) (defScope sLong) .none kVlo dclo pmlo anlo cdlo ctlo), sllo⟩) (clo : PySem.W.codeIn K cdlo "longer" = true) (klo : PySem.W.keepIn K (.ref flo) = true)
    (ari : PySem.W.nsIn K mainGlobals "right_colourings" = some (some (.ref fri))) (lri : K.lookup fri = some ⟨ocri, odri, .func (PySem.W.fnOf "right_colourings" "right_colourings" (defArgs sRight) (defBody sRight) (defScope sRight) .none kVri dcri pmri anri cdri ctri), slri⟩) (cri : PySem.W.codeIn K cdri "right_colourings" = true) (kri : PySem.W.keepIn K (.ref fri) = true)
    (afe : PySem.W.nsIn K mainGlobals "fewest_colours" = some (some (.ref ffe))) (lfe : K.lookup ffe = some ⟨ocfe, odfe, .func (PySem.W.fnOf "fewest_colours" "fewest_colours" (defArgs sFew) (defBody sFew) (defScope sFew) .none kVfe dcfe pmfe anfe cdfe ctfe), slfe⟩) (cfe : PySem.W.codeIn K cdfe "fewest_colours" = true) (kfe : PySem.W.keepIn K (.ref ffe) = true)
    (abc : PySem.W.nsIn K mainGlobals "best_colouring" = some (some (.ref fbc))) (lbc : K.lookup fbc = some ⟨ocbc, odbc, .func (PySem.W.fnOf "best_colouring" "best_colouring" (defArgs sBestC) (defBody sBestC) (defScope sBestC) .none kVbc dcbc pmbc anbc cdbc ctbc), slbc⟩) (cbc : PySem.W.codeIn K cdbc "best_colouring" = true) (kbc : PySem.W.keepIn K (.ref fbc) = true)
    (alw : PySem.W.nsIn K mainGlobals "lowest_free" = some (some (.ref flw))) (llw : K.lookup flw = some ⟨oclw, odlw, .func (PySem.W.fnOf "lowest_free" "lowest_free" (defArgs sLow) (defBody sLow) (defScope sLow) .none kVlw dclw pmlw anlw cdlw ctlw), sllw⟩) (clw : PySem.W.codeIn K cdlw "lowest_free" = true) (klw : PySem.W.keepIn K (.ref flw) = true)
    (aon : PySem.W.nsIn K mainGlobals "one_after_another" = some (some (.ref fon))) (lon : K.lookup fon = some ⟨ocon, odon, .func (PySem.W.fnOf "one_after_another" "one_after_another" (defArgs sOne) (defBody sOne) (defScope sOne) .none kVon dcon pmon anon cdon cton), slon⟩) (con : PySem.W.codeIn K cdon "one_after_another" = true) (kon : PySem.W.keepIn K (.ref fon) = true)
    (abo : PySem.W.nsIn K mainGlobals "border_put" = some (some (.ref fbo))) (lbo : K.lookup fbo = some ⟨ocbo, odbo, .func (PySem.W.fnOf "border_put" "border_put" (defArgs sBord) (defBody sBord) (defScope sBord) .none kVbo dcbo pmbo anbo cdbo ctbo), slbo⟩) (cbo : PySem.W.codeIn K cdbo "border_put" = true) (kbo : PySem.W.keepIn K (.ref fbo) = true)
    (air : PySem.W.nsIn K mainGlobals "is_row" = some (some (.ref fir))) (lir : K.lookup fir = some ⟨ocir, odir, .func (PySem.W.fnOf "is_row" "is_row" (defArgs sIsRow) (defBody sIsRow) (defScope sIsRow) .none kVir dcir pmir anir cdir ctir), slir⟩) (cir : PySem.W.codeIn K cdir "is_row" = true) (kir : PySem.W.keepIn K (.ref fir) = true)
    (apr : PySem.W.nsIn K mainGlobals "printed" = some (some (.ref fpr))) (lpr : K.lookup fpr = some ⟨ocpr, odpr, .func (PySem.W.fnOf "printed" "printed" (defArgs sPrint) (defBody sPrint) (defScope sPrint) .none kVpr dcpr pmpr anpr cdpr ctpr), slpr⟩) (cpr : PySem.W.codeIn K cdpr "printed" = true) (kpr : PySem.W.keepIn K (.ref fpr) = true)
    (awa : PySem.W.nsIn K mainGlobals "ways" = some (some (.ref fwa))) (lwa : K.lookup fwa = some ⟨ocwa, odwa, .func (PySem.W.fnOf "ways" "ways" (defArgs sWays) (defBody sWays) (defScope sWays) .none kVwa dcwa pmwa anwa cdwa ctwa), slwa⟩) (cwa : PySem.W.codeIn K cdwa "ways" = true) (kwa : PySem.W.keepIn K (.ref fwa) = true)
    (abe : PySem.W.nsIn K mainGlobals "best" = some (some (.ref fbe))) (lbe : K.lookup fbe = some ⟨ocbe, odbe, .func (PySem.W.fnOf "best" "best" (defArgs sBest) (defBody sBest) (defScope sBest) .none kVbe dcbe pmbe anbe cdbe ctbe), slbe⟩) (cbe : PySem.W.codeIn K cdbe "best" = true) (kbe : PySem.W.keepIn K (.ref fbe) = true)
    (apl : PySem.W.nsIn K mainGlobals "plain" = some (some (.ref fpl))) (lpl : K.lookup fpl = some ⟨ocpl, odpl, .func (PySem.W.fnOf "plain" "plain" (defArgs sPlain) (defBody sPlain) (defScope sPlain) .none kVpl dcpl pmpl anpl cdpl ctpl), slpl⟩) (cpl : PySem.W.codeIn K cdpl "plain" = true) (kpl : PySem.W.keepIn K (.ref fpl) = true)
    (ack : PySem.W.nsIn K mainGlobals "checked" = some (some (.ref fck))) (lck : K.lookup fck = some ⟨occk, odck, .func (PySem.W.fnOf "checked" "checked" (defArgs sCheck) (defBody sCheck) (defScope sCheck) .none kVck dcck pmck anck cdck ctck), slck⟩) (cck : PySem.W.codeIn K cdck "checked" = true) (kck : PySem.W.keepIn K (.ref fck) = true)
    (aan : PySem.W.nsIn K mainGlobals "answer" = some (some (.ref fan))) (lan : K.lookup fan = some ⟨ocan, odan, .func (PySem.W.fnOf "answer" "answer" (defArgs sAnswer) (defBody sAnswer) (defScope sAnswer) .none kVan dcan pman anan cdan ctan), slan⟩) (can : PySem.W.codeIn K cdan "answer" = true) (kan : PySem.W.keepIn K (.ref fan) = true)
    (aas : PySem.W.nsIn K mainGlobals "answers" = some (some (.ref fas))) (las : K.lookup fas = some ⟨ocas, odas, .func (PySem.W.fnOf "answers" "answers" (defArgs sAnswers) (defBody sAnswers) (defScope sAnswers) .none kVas dcas pmas anas cdas ctas), slas⟩) (cas : PySem.W.codeIn K cdas "answers" = true) (kas : PySem.W.keepIn K (.ref fas) = true)
    (zlen : PySem.W.nsIn K mainGlobals "len" = some none) (zmin : PySem.W.nsIn K mainGlobals "min" = some none) (zmax : PySem.W.nsIn K mainGlobals "max" = some none) (zrange : PySem.W.nsIn K mainGlobals "range" = some none) (zsorted : PySem.W.nsIn K mainGlobals "sorted" = some none) (zlist : PySem.W.nsIn K mainGlobals "list" = some none) (zall : PySem.W.nsIn K mainGlobals "all" = some none)
    (pg : PySem.W.plainGet K C Str.empty = true) (hd : PySem.W.hasDictIn K C = true) (po : PySem.W.plainOver K C = true) (sa : PySem.W.findIn K (.ref C) "__setattr__" = some (some (.builtin "object.__setattr__"))) (mk : PySem.W.makesIn K C = true) (kc : PySem.W.keepIn K (.ref C) = true)
    (nM : PySem.W.findIn K (.ref C) "many" = some none) (nB : PySem.W.findIn K (.ref C) "borders" = some none) (nP : PySem.W.findIn K (.ref C) "printed" = some none)
    (gB : PySem.W.nsIn K mainGlobals "BEGINS" = some (some (.int 0 tB))) (gC : PySem.W.nsIn K mainGlobals "MOST_COUNTRIES" = some (some (.int 6 tC))) (gL : PySem.W.nsIn K mainGlobals "MOST_COLOURS" = some (some (.int 4 tL)))
    (gN : PySem.W.nsIn K mainGlobals "NUMBERS" = some (some (.ref aN))) (gR : PySem.W.nsIn K mainGlobals "ROWS" = some (some (.ref aR)))
    (lN : K.lookup aN = some ⟨.type "tuple", dN, .seq ([.int 1 n0, .int 2 n1, .int 0 n2, .int 1 n3, .int 0 n4, .int 1 n5, .int 0 n6, .int 1 n7] : List Value).toArray nN, slN⟩)
    (lR : K.lookup aR = some ⟨.type "tuple", dR, .seq ([.int 0 r0, .int 0 r1, .int 1 r2, .int 0 r3, .int 0 r4, .int 0 r5, .int 1 r6, .int 1 r7] : List Value).toArray nR, slR⟩) :
    ∃ fd : FuncData, (∀ (s : Shared) (us : List Value), us.length = (["calls"] : List Str).length → BindsTo s fd ⟨us, []⟩ ((["calls"] : List Str).zip us)) ∧ ∀ base : Heap, K.In base → base.Ns mainGlobals mg → FnOk P w K mg base CX0 6 fa fd ["calls"] (spAnswers K) := by
  have e := hfa.symm.trans (PySem.W.mg_of X G aas)
  cases e
  have T : Txt K mg C := ⟨⟨pg, hd, po, sa⟩, nM, nB, nP, PySem.W.mg_of X G aC, PySem.W.mg_none_of X G zlen, PySem.W.mg_none_of X G zmin, PySem.W.mg_none_of X G zmax, PySem.W.mg_none_of X G zrange, PySem.W.mg_none_of X G zsorted, PySem.W.mg_none_of X G zlist, PySem.W.mg_none_of X G zall, ⟨_, PySem.W.mg_of X G gB⟩, ⟨_, PySem.W.mg_of X G gC⟩, ⟨_, PySem.W.mg_of X G gL⟩⟩
  have B : Tbl K mg aN aR := ⟨PySem.W.mg_of X G gN, PySem.W.mg_of X G gR, tup_written lN (.cons ⟨_, rfl⟩ (.cons ⟨_, rfl⟩ (.cons ⟨_, rfl⟩ (.cons ⟨_, rfl⟩ (.cons ⟨_, rfl⟩ (.cons ⟨_, rfl⟩ (.cons ⟨_, rfl⟩ (.cons ⟨_, rfl⟩ .nil)))))))) (by show 8 ≤ sizeLine; decide), tup_written lR (.cons ⟨_, rfl⟩ (.cons ⟨_, rfl⟩ (.cons ⟨_, rfl⟩ (.cons ⟨_, rfl⟩ (.cons ⟨_, rfl⟩ (.cons ⟨_, rfl⟩ (.cons ⟨_, rfl⟩ (.cons ⟨_, rfl⟩ .nil)))))))) (by show 8 ≤ sizeLine; decide)⟩
  have Fmi := fun_mk (st := sInit) lmi cmi kmi
  have bmi := Fmi.binds (ps := ["self", "many"]) fun _ _ _ _ _ _ us hl => match us, hl with | [_, _], _ => rfl
  have Fmc := fun_mk (st := sIsC) lmc cmc kmc
  have bmc := Fmc.binds (ps := ["self", "number"]) fun _ _ _ _ _ _ us hl => match us, hl with | [_, _], _ => rfl
  have Fmh := fun_mk (st := sHB) lmh cmh kmh
  have bmh := Fmh.binds (ps := ["self", "one", "other"]) fun _ _ _ _ _ _ us hl => match us, hl with | [_, _, _], _ => rfl
  have Fmn := fun_mk (st := sNb) lmn cmn kmn
  have bmn := Fmn.binds (ps := ["self", "country"]) fun _ _ _ _ _ _ us hl => match us, hl with | [_, _], _ => rfl
  have Fml := fun_mk (st := sCl) lml cml kml
  have bml := Fml.binds (ps := ["self", "colouring"]) fun _ _ _ _ _ _ us hl => match us, hl with | [_, _], _ => rfl
  have Fmx := fun_mk (st := sCh) lmx cmx kmx
  have bmx := Fmx.binds (ps := ["self", "colouring"]) fun _ _ _ _ _ _ us hl => match us, hl with | [_, _], _ => rfl
  have Flo := fun_mk (st := sLong) llo clo klo
  have blo := Flo.binds (ps := ["rows", "colours", "near"]) fun _ _ _ _ _ _ us hl => match us, hl with | [_, _, _], _ => rfl
  have Fri := fun_mk (st := sRight) lri cri kri
  have bri := Fri.binds (ps := ["plan", "colours"]) fun _ _ _ _ _ _ us hl => match us, hl with | [_, _], _ => rfl
  have Ffe := fun_mk (st := sFew) lfe cfe kfe
  have bfe := Ffe.binds (ps := ["plan"]) fun _ _ _ _ _ _ us hl => match us, hl with | [_], _ => rfl
  have Fbc := fun_mk (st := sBestC) lbc cbc kbc
  have bbc := Fbc.binds (ps := ["plan", "rows"]) fun _ _ _ _ _ _ us hl => match us, hl with | [_, _], _ => rfl
  have Flw := fun_mk (st := sLow) llw clw klw
  have blw := Flw.binds (ps := ["used"]) fun _ _ _ _ _ _ us hl => match us, hl with | [_], _ => rfl
  have Fon := fun_mk (st := sOne) lon con kon
  have bon := Fon.binds (ps := ["plan", "order"]) fun _ _ _ _ _ _ us hl => match us, hl with | [_, _], _ => rfl
  have Fbo := fun_mk (st := sBord) lbo cbo kbo
  have bbo := Fbo.binds (ps := ["plan", "one", "other"]) fun _ _ _ _ _ _ us hl => match us, hl with | [_, _, _], _ => rfl
  have Fir := fun_mk (st := sIsRow) lir cir kir
  have bir := Fir.binds (ps := ["plan", "row", "colours"]) fun _ _ _ _ _ _ us hl => match us, hl with | [_, _, _], _ => rfl
  have Fpr := fun_mk (st := sPrint) lpr cpr kpr
  have bpr := Fpr.binds (ps := ["plan", "row"]) fun _ _ _ _ _ _ us hl => match us, hl with | [_, _], _ => rfl
  have Fwa := fun_mk (st := sWays) lwa cwa kwa
  have bwa := Fwa.binds (ps := ["plan", "colours"]) fun _ _ _ _ _ _ us hl => match us, hl with | [_, _], _ => rfl
  have Fbe := fun_mk (st := sBest) lbe cbe kbe
  have bbe := Fbe.binds (ps := ["plan", "colours"]) fun _ _ _ _ _ _ us hl => match us, hl with | [_, _], _ => rfl
  have Fpl := fun_mk (st := sPlain) lpl cpl kpl
  have bpl := Fpl.binds (ps := ["plan", "order"]) fun _ _ _ _ _ _ us hl => match us, hl with | [_, _], _ => rfl
  have Fck := fun_mk (st := sCheck) lck cck kck
  have bck := Fck.binds (ps := ["plan", "colours", "row"]) fun _ _ _ _ _ _ us hl => match us, hl with | [_, _, _], _ => rfl
  have Fan := fun_mk (st := sAnswer) lan can kan
  have ban := Fan.binds (ps := ["plan", "call", "numbers", "rows"]) fun _ _ _ _ _ _ us hl => match us, hl with | [_, _, _, _], _ => rfl
  have Fas := fun_mk (st := sAnswers) las cas kas
  refine ⟨PySem.W.fnOf "answers" "answers" (defArgs sAnswers) (defBody sAnswers) (defScope sAnswers) .none kVas dcas pmas anas cdas ctas, fun s us hu => match us, hu with | [_], _ => .of_eq rfl, fun base _ _ => ?_⟩
  have Mmc := Me.mk (P := P) (w := w) (mg := mg) (base := base) (ok_isC Fmc T) ⟨amc, imc, kmc⟩ bmc
  have Mmh := Me.mk (P := P) (w := w) (mg := mg) (base := base) (ok_HB Fmh T) ⟨amh, imh, kmh⟩ bmh
  have Mmn := Me.mk (P := P) (w := w) (mg := mg) (base := base) (ok_Nb Fmn T Mmh) ⟨amn, imn, kmn⟩ bmn
  have Mml := Me.mk (P := P) (w := w) (mg := mg) (base := base) (ok_Cl Fml T) ⟨aml, iml, kml⟩ bml
  have Mmx := Me.mk (P := P) (w := w) (mg := mg) (base := base) (ok_Ch Fmx T) ⟨amx, imx, kmx⟩ bmx
  have Dlo := Dn.mk (P := P) (w := w) (base := base) (x := "longer") (ok_long Flo T) (PySem.W.mg_of X G alo) klo blo
  have Dri := Dn.mk (P := P) (w := w) (base := base) (x := "right_colourings") (ok_right Fri T Mmn Dlo) (PySem.W.mg_of X G ari) kri bri
  have Dfe := Dn.mk (P := P) (w := w) (base := base) (x := "fewest_colours") (ok_few Ffe Dri) (PySem.W.mg_of X G afe) kfe bfe
  have Dbc := Dn.mk (P := P) (w := w) (base := base) (x := "best_colouring") (ok_bestC Fbc T Mmx) (PySem.W.mg_of X G abc) kbc bbc
  have Dlw := Dn.mk (P := P) (w := w) (base := base) (x := "lowest_free") (ok_low Flw) (PySem.W.mg_of X G alw) klw blw
  have Don := Dn.mk (P := P) (w := w) (base := base) (x := "one_after_another") (ok_one Fon T Mmn Dlw) (PySem.W.mg_of X G aon) kon bon
  have Dbo := Dn.mk (P := P) (w := w) (base := base) (x := "border_put") (ok_bord Fbo T Mmc Mmh) (PySem.W.mg_of X G abo) kbo bbo
  have Dir := Dn.mk (P := P) (w := w) (base := base) (x := "is_row") (ok_isRow Fir T) (PySem.W.mg_of X G air) kir bir
  have Dpr := Dn.mk (P := P) (w := w) (base := base) (x := "printed") (ok_print Fpr T Dir Mml) (PySem.W.mg_of X G apr) kpr bpr
  have Dwa := Dn.mk (P := P) (w := w) (base := base) (x := "ways") (ok_ways Fwa T Dri) (PySem.W.mg_of X G awa) kwa bwa
  have Dbe := Dn.mk (P := P) (w := w) (base := base) (x := "best") (ok_best Fbe T Dri Dbc) (PySem.W.mg_of X G abe) kbe bbe
  have Dpl := Dn.mk (P := P) (w := w) (base := base) (x := "plain") (ok_plain Fpl T Don) (PySem.W.mg_of X G apl) kpl bpl
  have Dck := Dn.mk (P := P) (w := w) (base := base) (x := "checked") (ok_check Fck T Dir Mml Mmx) (PySem.W.mg_of X G ack) kck bck
  have Dan := Dn.mk (P := P) (w := w) (base := base) (x := "answer") (ok_answer Fan Dbo Dpr Dwa Dfe Dbe Dpl Dck) (PySem.W.mg_of X G aan) kan ban
  exact ok_answers Fas T B ⟨mk, ami, imi, kc⟩ (ok_init Fmi T) bmi Dan
end Mc
open PySem PySem.W PyProof.Rows
set_option maxRecDepth 100000 in
set_option maxHeartbeats 0 in
theorem PySem.Challenge.cw_mapcolours_s01_answers_holds : PySem.Challenge.rw_mapcolours_s01_answers.Holds := by
  w_on; k_headS; (case hw => exact ⟨[.list [.int 0, .int 1]], by decide +kernel, by decide +kernel⟩)
  k_fillS
  refine L2.walk_specK (r := PySem.Challenge.rw_mapcolours_s01_answers) (k := 6) (CX := L2.CX0) (ps := ["calls"]) (sp := Mc.spAnswers) (by decide +kernel) rfl rfl ⟨rfl, by decide, by decide⟩ (fun w h Y => PySem.W.kIn_of Y) ?F ?S (fun _ _ _ _ z => z)
  case F =>
    intro w mg fa h Y KX G hmg
    refine' Mc.all_mk KX G hmg ?aC ?ami ?imi ?lmi ?cmi ?kmi ?amc ?imc ?lmc ?cmc ?kmc ?amh ?imh ?lmh ?cmh ?kmh ?amn ?imn ?lmn ?cmn ?kmn ?aml ?iml ?lml ?cml ?kml ?amx ?imx ?lmx ?cmx ?kmx ?alo ?llo ?clo ?klo ?ari ?lri ?cri ?kri ?afe ?lfe ?cfe ?kfe ?abc ?lbc ?cbc ?kbc ?alw ?llw ?clw ?klw ?aon ?lon ?con ?kon ?abo ?lbo ?cbo ?kbo ?air ?lir ?cir ?kir ?apr ?lpr ?cpr ?kpr ?awa ?lwa ?cwa ?kwa ?abe ?lbe ?cbe ?kbe ?apl ?lpl ?cpl ?kpl ?ack ?lck ?cck ?kck ?aan ?lan ?can ?kan ?aas ?las ?cas ?kas ?zlen ?zmin ?zmax ?zrange ?zsorted ?zlist ?zall ?pg ?hd ?po ?sa ?mk ?kc ?nM ?nB ?nP ?gB ?gC ?gL ?gN ?gR ?lN ?lR
    (case aC => k_is); (case ami => k_is); (case imi => k_is); (case lmi => k_is); (case cmi => k_is); (case kmi => k_is)
    (case amc => k_is); (case imc => k_is); (case lmc => k_is); (case cmc => k_is); (case kmc => k_is); (case amh => k_is)
    (case imh => k_is); (case lmh => k_is); (case cmh => k_is); (case kmh => k_is); (case amn => k_is); (case imn => k_is)
    (case lmn => k_is); (case cmn => k_is); (case kmn => k_is); (case aml => k_is); (case iml => k_is); (case lml => k_is)
    (case cml => k_is); (case kml => k_is); (case amx => k_is); (case imx => k_is); (case lmx => k_is); (case cmx => k_is)
    (case kmx => k_is); (case alo => k_is); (case llo => k_is); (case clo => k_is); (case klo => k_is); (case ari => k_is)
    (case lri => k_is); (case cri => k_is); (case kri => k_is); (case afe => k_is); (case lfe => k_is); (case cfe => k_is)
    (case kfe => k_is); (case abc => k_is); (case lbc => k_is); (case cbc => k_is); (case kbc => k_is); (case alw => k_is)
    (case llw => k_is); (case clw => k_is); (case klw => k_is); (case aon => k_is); (case lon => k_is); (case con => k_is)
    (case kon => k_is); (case abo => k_is); (case lbo => k_is); (case cbo => k_is); (case kbo => k_is); (case air => k_is)
    (case lir => k_is); (case cir => k_is); (case kir => k_is); (case apr => k_is); (case lpr => k_is); (case cpr => k_is)
    (case kpr => k_is); (case awa => k_is); (case lwa => k_is); (case cwa => k_is); (case kwa => k_is); (case abe => k_is)
    (case lbe => k_is); (case cbe => k_is); (case kbe => k_is); (case apl => k_is); (case lpl => k_is); (case cpl => k_is)
    (case kpl => k_is); (case ack => k_is); (case lck => k_is); (case cck => k_is); (case kck => k_is); (case aan => k_is)
    (case lan => k_is); (case can => k_is); (case kan => k_is); (case aas => k_is); (case las => k_is); (case cas => k_is)
    (case kas => k_is); (case zlen => k_is); (case zmin => k_is); (case zmax => k_is); (case zrange => k_is); (case zsorted => k_is)
    (case zlist => k_is); (case zall => k_is); (case pg => k_is); (case hd => k_is); (case po => k_is); (case sa => k_is)
    (case mk => k_is); (case kc => k_is); (case nM => k_is); (case nB => k_is); (case nP => k_is); (case gB => k_is)
    (case gC => k_is); (case gL => k_is); (case gN => k_is); (case gR => k_is); (case lN => k_is); (case lR => k_is)
  case S =>
    intro K H xs a hO hwi hask hx
    cases hx with
    | cons h1 h2 =>
      cases h2
      cases h1 with
      | lst hs ha =>
        have e := L2.ints_dw a.1 _ ha
        subst e
        have q : PyUw47.answers_asked a.1 = true := hask
        obtain ⟨cs, e1, e2, e3, e4, e5⟩ := Mc.asked_calls q
        refine ⟨_, cs, rfl, by rw [← e1]; exact hs, e2, e3, e5, fun H' p hp => ?_⟩
        rw [← e4] at hp
        exact .lst (L2.SqL.of hp) (L2.dw_ints _)
#print axioms PySem.Challenge.cw_mapcolours_s01_answers_holds
