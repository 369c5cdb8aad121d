import PyProof.Rows.All
import Wide.All
import OpenK.AllK
import Wide.FinOn
import HandS.ForMost
import HandS.ForExc
import HandS.IsInst
import HandS.TupAny
import HandS.Conv
import HandS.Deep
import HandS.DictComp
import HandS.DictTup
import HandS.TupLen
import KE.DataMinMax
import KE.SortData
import HandS.ExcInit
import HandS.ExcField
import HandS.Codes
import PySem.Challenge.RW_quiremarks_k02_whole_reflections_and_ren
set_option Elab.async false
set_option linter.all false
set_option maxRecDepth 100000
set_option maxHeartbeats 4000000
/-! Quiremarks k02: the mathematics, no program in sight. -/
namespace Qm
abbrev Row := List Nat
/-- the item at a place -/
def g (r : List Nat) (m : Nat) : Nat := r.getD m 0
/-- a sequence renamed -/
def ren (r s : List Nat) : List Nat := s.map (g r)
def refl (p s : List Nat) : List Nat := s.reverse.map (g p)
def keepsM (p r : List Nat) : Bool :=
  if (r.take (r.length - 1)).contains (g r (r.length - 1)) then false
  else decide (r.length - 1 < g p (r.length - 1)) || (g p (g r (r.length - 1)) == g r (g p (r.length - 1)))
/-- the rows that are made of one row: one more mark -/
def extR1 (p r : List Nat) : List Row := ((List.range p.length).map fun m => r ++ [m]).filter (keepsM p)
def extR (p : List Nat) (rows : List Row) : List Row := rows.flatMap (extR1 p)
def renLoop (p : List Nat) : Nat → List Row
  | 0 => [[]]
  | k + 1 => extR p (renLoop p k)
def renamings (p : List Nat) : List Row := renLoop p p.length
def extO1 (n : Nat) (r : List Nat) : List Row := ((List.range n).filter fun m => !r.contains m).map fun m => r ++ [m]
def extO (n : Nat) (rows : List Row) : List Row := rows.flatMap (extO1 n)
def ordLoop (n : Nat) : Nat → List Row
  | 0 => [[]]
  | k + 1 => extO n (ordLoop n k)
def orders (n : Nat) : List Row := ordLoop n n
def commutes (p r : List Nat) : Bool := (List.range p.length).all fun m => g p (g r m) == g r (g p m)
def rowsM (p : List Nat) : List Row := (orders p.length).filter (commutes p)
def ownM (p : List Nat) : List Nat := (List.range p.length).filter fun m => g p m == m
def pairsM (p : List Nat) : List Nat := (List.range p.length).filter fun m => decide (m < g p m)
/-- law's due -/
def due1 : Nat → Nat
  | 0 => 1
  | k + 1 => due1 k * (k + 1)
def due2 (d : Nat) : Nat → Nat
  | 0 => d
  | k + 1 => due2 d k * 2 * (k + 1)
/-- first occurrences -/
def put1 (acc : List Row) (x : Row) : List Row := if acc.contains x then acc else acc ++ [x]
def ddp (l : List Row) : List Row := l.foldl put1 []

structure Paper (p : List Nat) : Prop where
  pos : 1 ≤ p.length
  le5 : p.length ≤ 5
  lt : ∀ m ∈ p, m < p.length
  inv : ∀ m, m < p.length → g p (g p m) = m

/-! ### all papers -/
def allLists (n : Nat) : Nat → List (List Nat)
  | 0 => [[]]
  | k + 1 => (allLists n k).flatMap fun l => (List.range n).map fun m => m :: l
theorem mem_allLists (n : Nat) : ∀ (k : Nat) (l : List Nat), l.length = k → (∀ m ∈ l, m < n) → l ∈ allLists n k
  | 0, l, hl, _ => by
    have : l = [] := List.eq_nil_of_length_eq_zero hl
    subst this
    exact List.mem_singleton.mpr rfl
  | k + 1, [], hl, _ => by cases hl
  | k + 1, m :: l, hl, h => by
    refine List.mem_flatMap.mpr ⟨l, mem_allLists n k l (by simpa using hl) (fun x hx => h x (List.mem_cons_of_mem _ hx)), ?_⟩
    exact List.mem_map.mpr ⟨m, List.mem_range.mpr (h m (List.mem_cons_self ..)), rfl⟩
def involB (p : List Nat) : Bool := (List.range p.length).all fun m => g p (g p m) == m
def papers : List (List Nat) := [1, 2, 3, 4, 5].flatMap fun n => (allLists n n).filter involB
theorem mem_papers {p : List Nat} (h : Paper p) : p ∈ papers := by
  have hb : involB p = true := List.all_eq_true.mpr fun m hm => beq_iff_eq.mpr (h.inv m (List.mem_range.mp hm))
  refine List.mem_flatMap.mpr ⟨p.length, ?_, List.mem_filter.mpr ⟨mem_allLists _ _ _ rfl h.lt, hb⟩⟩
  have h1 := h.pos
  have h2 := h.le5
  simp only [List.mem_cons, List.not_mem_nil, or_false]
  omega
/-- what is decided paper by paper -/
def paperFacts (p : List Nat) : Bool :=
  (renamings p == rowsM p) && (due2 (due1 (ownM p).length) (pairsM p).length == (rowsM p).length) && decide (1 ≤ (rowsM p).length ∧ (rowsM p).length ≤ 120)
set_option maxRecDepth 100000 in
theorem papers_facts : papers.all paperFacts = true := by decide +kernel
theorem facts_of {p : List Nat} (h : Paper p) : paperFacts p = true := List.all_eq_true.mp papers_facts p (mem_papers h)
theorem ren_rows {p : List Nat} (h : Paper p) : renamings p = rowsM p := by
  have := facts_of h
  unfold paperFacts at this
  simp only [Bool.and_eq_true] at this
  exact beq_iff_eq.mp this.1.1
theorem due_rows {p : List Nat} (h : Paper p) : due2 (due1 (ownM p).length) (pairsM p).length = (rowsM p).length := by
  have := facts_of h
  unfold paperFacts at this
  simp only [Bool.and_eq_true] at this
  exact beq_iff_eq.mp this.1.2
theorem rows_len {p : List Nat} (h : Paper p) : 1 ≤ (rowsM p).length ∧ (rowsM p).length ≤ 120 := by
  have := facts_of h
  unfold paperFacts at this
  simp only [Bool.and_eq_true] at this
  exact of_decide_eq_true this.2
end Qm

namespace Qm
/-! ### orders -/
theorem mem_extO {n : Nat} {rows : List Row} {r : Row} : r ∈ extO n rows ↔ ∃ q ∈ rows, ∃ m, m < n ∧ m ∉ q ∧ r = q ++ [m] := by
  unfold extO extO1
  simp only [List.mem_flatMap, List.mem_map, List.mem_filter, List.mem_range, List.contains_eq_mem]
  constructor
  · rintro ⟨q, hq, m, ⟨hm, hn⟩, rfl⟩
    exact ⟨q, hq, m, hm, by simpa using hn, rfl⟩
  · rintro ⟨q, hq, m, hm, hn, rfl⟩
    exact ⟨q, hq, m, ⟨hm, by simpa using hn⟩, rfl⟩
theorem mem_ordLoop (n : Nat) : ∀ (k : Nat) (r : Row), r ∈ ordLoop n k ↔ r.length = k ∧ r.Nodup ∧ ∀ m ∈ r, m < n
  | 0, r => by
    show r ∈ [[]] ↔ _
    rw [List.mem_singleton]
    constructor
    · rintro rfl
      exact ⟨rfl, List.nodup_nil, fun m hm => by cases hm⟩
    · rintro ⟨h, _, _⟩
      exact List.eq_nil_of_length_eq_zero h
  | k + 1, r => by
    show r ∈ extO n (ordLoop n k) ↔ _
    rw [mem_extO]
    constructor
    · rintro ⟨q, hq, m, hm, hn, rfl⟩
      obtain ⟨h1, h2, h3⟩ := (mem_ordLoop n k q).mp hq
      refine ⟨by simp [h1], ?_, fun x hx => ?_⟩
      · rw [List.nodup_append]
        refine ⟨h2, by simp, fun a ha b hb => ?_⟩
        have : b = m := by simpa using hb
        subst this
        exact fun e => hn (e ▸ ha)
      · rcases List.mem_append.mp hx with h | h
        · exact h3 x h
        · have : x = m := by simpa using h
          subst this
          exact hm
    · rintro ⟨h1, h2, h3⟩
      have hne : r ≠ [] := fun e => by subst e; cases h1
      have hr : r = r.dropLast ++ [r.getLast hne] := (List.dropLast_concat_getLast hne).symm
      rw [hr] at h2 h3
      rw [List.nodup_append] at h2
      refine ⟨r.dropLast, (mem_ordLoop n k _).mpr ⟨by simp [h1], h2.1, fun m hm => h3 m (List.mem_append_left _ hm)⟩, r.getLast hne, h3 _ (by simp), fun hm => h2.2.2 _ hm _ (by simp) rfl, hr⟩
theorem mem_orders {n : Nat} {r : Row} : r ∈ orders n ↔ r.length = n ∧ r.Nodup ∧ ∀ m ∈ r, m < n := mem_ordLoop n n r
theorem g_of {r : List Nat} {m : Nat} (h : m < r.length) : g r m = r[m] := by unfold g; simp [List.getD, h]
theorem g_lt {n : Nat} {r : List Nat} (hl : r.length = n) (h : ∀ m ∈ r, m < n) {m : Nat} (hm : m < n) : g r m < n := by
  rw [g_of (by omega)]
  exact h _ (List.getElem_mem _)
theorem g_inj {r : List Nat} (hn : r.Nodup) {a b : Nat} (ha : a < r.length) (hb : b < r.length) (e : g r a = g r b) : a = b := by
  rw [g_of ha, g_of hb] at e
  exact (List.getElem_inj hn).mp e
theorem g_map {f : Nat → Nat} {s : List Nat} {m : Nat} (h : m < s.length) : g (s.map f) m = f (g s m) := by
  rw [g_of (by simpa using h), g_of h]
  simp
structure IsRow (p r : List Nat) : Prop where
  len : r.length = p.length
  nd : r.Nodup
  lt : ∀ m ∈ r, m < p.length
  cm : ∀ m, m < p.length → g p (g r m) = g r (g p m)
theorem mem_rows {p r : List Nat} : r ∈ rowsM p ↔ IsRow p r := by
  unfold rowsM commutes
  rw [List.mem_filter, mem_orders, List.all_eq_true]
  constructor
  · rintro ⟨⟨h1, h2, h3⟩, h4⟩
    exact ⟨h1, h2, h3, fun m hm => beq_iff_eq.mp (h4 m (List.mem_range.mpr hm))⟩
  · rintro ⟨h1, h2, h3, h4⟩
    exact ⟨⟨h1, h2, h3⟩, fun m hm => beq_iff_eq.mpr (h4 m (List.mem_range.mp hm))⟩
theorem IsRow.g_lt {p r : List Nat} (h : IsRow p r) {m : Nat} (hm : m < p.length) : g r m < p.length := Qm.g_lt h.len h.lt hm
theorem Paper.g_lt {p : List Nat} (h : Paper p) {m : Nat} (hm : m < p.length) : g p m < p.length := Qm.g_lt rfl h.lt hm
theorem nodup_map {f : Nat → Nat} {s : List Nat} (hn : s.Nodup) (hf : ∀ a ∈ s, ∀ b ∈ s, f a = f b → a = b) : (s.map f).Nodup := by
  unfold List.Nodup at hn ⊢
  rw [List.pairwise_map]
  exact hn.imp_of_mem fun ha hb hne e => hne (hf _ ha _ hb e)
theorem comp_row {p r s : List Nat} (hp : Paper p) (hr : IsRow p r) (hs : IsRow p s) : IsRow p (ren r s) := by
  unfold ren
  refine ⟨by simp [hs.len], nodup_map hs.nd fun a ha b hb e => g_inj hr.nd (by rw [hr.len]; exact hs.lt a ha) (by rw [hr.len]; exact hs.lt b hb) e, fun m hm => ?_, fun m hm => ?_⟩
  · obtain ⟨x, hx, rfl⟩ := List.mem_map.mp hm
    exact hr.g_lt (hs.lt x hx)
  · rw [g_map (by rw [hs.len]; exact hm), g_map (by rw [hs.len]; exact hp.g_lt hm), hr.cm _ (hs.g_lt hm), hs.cm m hm]
/-! ### the inverse -/
def invR (n : Nat) (r : List Nat) : List Nat := (List.range n).map fun m => r.idxOf m
def invB (n : Nat) : Bool := (orders n).all fun r => (orders n).contains (invR n r) && (List.range n).all fun m => (g r (g (invR n r) m) == m) && (g (invR n r) (g r m) == m)
set_option maxRecDepth 100000 in
theorem inv_all : ([1, 2, 3, 4, 5].all invB) = true := by decide +kernel
theorem inv_row {p r : List Nat} (hp : Paper p) (hr : IsRow p r) : ∃ s, IsRow p s ∧ (∀ m, m < p.length → g r (g s m) = m) ∧ ∀ m, m < p.length → g s (g r m) = m := by
  have hn : p.length ∈ [1, 2, 3, 4, 5] := by
    have h1 := hp.pos
    have h2 := hp.le5
    simp only [List.mem_cons, List.not_mem_nil, or_false]
    omega
  have h1 := List.all_eq_true.mp inv_all _ hn
  unfold invB at h1
  have h2 := List.all_eq_true.mp h1 r (mem_orders.mpr ⟨hr.len, hr.nd, hr.lt⟩)
  rw [Bool.and_eq_true] at h2
  have h3 : invR p.length r ∈ orders p.length := List.contains_iff_mem.mp h2.1
  obtain ⟨l1, l2, l3⟩ := mem_orders.mp h3
  have h4 := List.all_eq_true.mp h2.2
  have ha : ∀ m, m < p.length → g r (g (invR p.length r) m) = m := fun m hm => by
    have := h4 m (List.mem_range.mpr hm)
    rw [Bool.and_eq_true] at this
    exact beq_iff_eq.mp this.1
  have hb : ∀ m, m < p.length → g (invR p.length r) (g r m) = m := fun m hm => by
    have := h4 m (List.mem_range.mpr hm)
    rw [Bool.and_eq_true] at this
    exact beq_iff_eq.mp this.2
  refine ⟨invR p.length r, ⟨l1, l2, l3, fun m hm => ?_⟩, ha, hb⟩
  have hs : g (invR p.length r) m < p.length := Qm.g_lt l1 l3 hm
  have e1 : g p m = g r (g p (g (invR p.length r) m)) := by rw [← hr.cm _ hs, ha m hm]
  rw [e1, hb _ (hp.g_lt hs)]
/-! ### images -/
def Seq (p s : List Nat) : Prop := ∀ m ∈ s, m < p.length
def imgs (p s : List Nat) : List Row := (rowsM p).map fun r => ren r s
theorem mem_imgs {p s x : List Nat} : x ∈ imgs p s ↔ ∃ r, IsRow p r ∧ ren r s = x := by
  unfold imgs
  rw [List.mem_map]
  constructor
  · rintro ⟨r, hr, e⟩
    exact ⟨r, mem_rows.mp hr, e⟩
  · rintro ⟨r, hr, e⟩
    exact ⟨r, mem_rows.mpr hr, e⟩
theorem seq_ren {p r s : List Nat} (hr : IsRow p r) (hs : Seq p s) : Seq p (ren r s) := fun m hm => by
  obtain ⟨x, hx, rfl⟩ := List.mem_map.mp hm
  exact hr.g_lt (hs x hx)
theorem ren_ren {p r c s : List Nat} (hc : IsRow p c) (hs : Seq p s) : ren r (ren c s) = ren (ren r c) s := by
  unfold ren
  rw [List.map_map]
  refine List.map_congr_left fun m hm => ?_
  show g r (g c m) = g (c.map (g r)) m
  rw [g_map (by rw [hc.len]; exact hs m hm)]
theorem ren_inv {p r q s : List Nat} (hr : IsRow p r) (hs : Seq p s) (h : ∀ m, m < p.length → g q (g r m) = m) : ren q (ren r s) = s := by
  unfold ren
  rw [List.map_map]
  refine (List.map_congr_left fun m hm => ?_).trans (List.map_id s)
  exact h m (hs m hm)
theorem imgs_comp {p c s : List Nat} (hp : Paper p) (hc : IsRow p c) (hs : Seq p s) (x : List Nat) : x ∈ imgs p (ren c s) ↔ x ∈ imgs p s := by
  rw [mem_imgs, mem_imgs]
  constructor
  · rintro ⟨r, hr, rfl⟩
    exact ⟨ren r c, comp_row hp hr hc, (ren_ren hc hs).symm⟩
  · rintro ⟨r, hr, rfl⟩
    obtain ⟨q, hq, h1, h2⟩ := inv_row hp hc
    refine ⟨ren r q, comp_row hp hr hq, ?_⟩
    rw [← ren_ren hq (seq_ren hc hs), ren_inv hc hs h2]
theorem imgs_meet {p a b x : List Nat} (hp : Paper p) (ha : Seq p a) (hb : Seq p b) (h1 : x ∈ imgs p a) (h2 : x ∈ imgs p b) : ∃ c, IsRow p c ∧ ren c a = b := by
  obtain ⟨r, hr, rfl⟩ := mem_imgs.mp h1
  obtain ⟨s, hs, e⟩ := mem_imgs.mp h2
  obtain ⟨q, hq, q1, q2⟩ := inv_row hp hs
  refine ⟨ren q r, comp_row hp hq hr, ?_⟩
  rw [← ren_ren hr ha, ← e, ren_inv hs hb q2]
/-! ### the least one -/
def lexN : List Nat → List Nat → Bool
  | [], [] => false
  | [], _ :: _ => true
  | _ :: _, [] => false
  | x :: xs, y :: ys => if x = y then lexN xs ys else decide (x < y)
theorem lexN_tri : ∀ a b : List Nat, lexN a b = false → lexN b a = false → a = b
  | [], [], _, _ => rfl
  | [], _ :: _, h, _ => by cases h
  | _ :: _, [], _, h => by cases h
  | x :: xs, y :: ys, h1, h2 => by
    unfold lexN at h1 h2
    by_cases e : x = y
    · subst e
      rw [if_pos rfl] at h1 h2
      rw [lexN_tri xs ys h1 h2]
    · rw [if_neg e] at h1
      rw [if_neg (Ne.symm e)] at h2
      have a1 := of_decide_eq_false h1
      have a2 := of_decide_eq_false h2
      omega
def Least (l : List Row) (m : Row) : Prop := m ∈ l ∧ ∀ x ∈ l, lexN x m = false
theorem least_unique {l l' : List Row} {m m' : Row} (h : Least l m) (h' : Least l' m') (e : ∀ x, x ∈ l ↔ x ∈ l') : m = m' :=
  lexN_tri m m' (h'.2 m ((e m).mp h.1)) (h.2 m' ((e m').mpr h'.1))
/-! ### first occurrences -/
theorem mem_put1 {acc : List Row} {x y : Row} : y ∈ put1 acc x ↔ y ∈ acc ∨ y = x := by
  unfold put1
  split
  · rename_i h
    have hx : x ∈ acc := List.contains_iff_mem.mp h
    constructor
    · exact .inl
    · rintro (h | rfl)
      · exact h
      · exact hx
  · simp
theorem mem_foldl_put1 : ∀ (l acc : List Row) (y : Row), y ∈ l.foldl put1 acc ↔ y ∈ acc ∨ y ∈ l
  | [], acc, y => by simp
  | x :: l, acc, y => by
    rw [List.foldl_cons, mem_foldl_put1 l, mem_put1, List.mem_cons, or_assoc]
theorem mem_ddp {l : List Row} {y : Row} : y ∈ ddp l ↔ y ∈ l := by
  unfold ddp
  rw [mem_foldl_put1]
  simp
theorem put1_len {acc : List Row} {x : Row} : (put1 acc x).length ≤ acc.length + 1 := by
  unfold put1
  split <;> simp
theorem foldl_put1_len : ∀ (l acc : List Row), (l.foldl put1 acc).length ≤ acc.length + l.length
  | [], acc => by simp
  | x :: l, acc => by
    rw [List.foldl_cons]
    have h1 := foldl_put1_len l (put1 acc x)
    have h2 := put1_len (acc := acc) (x := x)
    simp only [List.length_cons]
    omega
theorem ddp_len (l : List Row) : (ddp l).length ≤ l.length := by
  have h := foldl_put1_len l []
  rw [List.length_nil, Nat.zero_add] at h
  exact h
theorem ddp_take {l : List Row} {i : Nat} {x : Row} (h : l[i]? = some x) : ddp (l.take (i + 1)) = put1 (ddp (l.take i)) x := by
  unfold ddp
  have e : l.take (i + 1) = l.take i ++ [x] := by
    rw [List.take_add_one, h]
    rfl
  rw [e, List.foldl_append]
  rfl
/-- the number of first occurrences hangs on what equals what -/
theorem ddp_congr_go {f h : Row → Row} : ∀ (l pre : List Row), (∀ a ∈ pre ++ l, ∀ b ∈ pre ++ l, f a = f b ↔ h a = h b) → ∀ acc : List Row, (∀ a ∈ acc, a ∈ pre) →
    ((l.map f).foldl put1 (acc.map f)).length = ((l.map h).foldl put1 (acc.map h)).length
  | [], pre, _, acc, _ => by simp
  | x :: l, pre, e, acc, ha => by
    rw [List.map_cons, List.map_cons, List.foldl_cons, List.foldl_cons]
    have hx : x ∈ pre ++ x :: l := by simp
    have hc : (acc.map f).contains (f x) = (acc.map h).contains (h x) := by
      rw [Bool.eq_iff_iff, List.contains_iff_mem, List.contains_iff_mem, List.mem_map, List.mem_map]
      constructor
      · rintro ⟨a, h1, h2⟩
        exact ⟨a, h1, (e a (List.mem_append_left _ (ha a h1)) x hx).mp h2⟩
      · rintro ⟨a, h1, h2⟩
        exact ⟨a, h1, (e a (List.mem_append_left _ (ha a h1)) x hx).mpr h2⟩
    have e2 : ∀ a ∈ (pre ++ [x]) ++ l, ∀ b ∈ (pre ++ [x]) ++ l, f a = f b ↔ h a = h b := fun a h1 b h2 => e a (by simpa using h1) b (by simpa using h2)
    unfold put1
    rw [hc]
    split
    · exact ddp_congr_go l (pre ++ [x]) e2 acc fun a h1 => List.mem_append_left _ (ha a h1)
    · have q := ddp_congr_go l (pre ++ [x]) e2 (acc ++ [x]) fun a h1 => by
        rcases List.mem_append.mp h1 with h1 | h1
        · exact List.mem_append_left _ (ha a h1)
        · exact List.mem_append_right _ h1
      rw [List.map_append, List.map_append] at q
      exact q
theorem ddp_congr {f h : Row → Row} {l : List Row} (e : ∀ a ∈ l, ∀ b ∈ l, f a = f b ↔ h a = h b) : (ddp (l.map f)).length = (ddp (l.map h)).length :=
  ddp_congr_go l [] (by simpa using e) [] (by simp)
/-- the marks of a sequence -/
def marksOf (n : Nat) (s : List Nat) : List Nat := (List.range n).filter fun m => s.contains m
theorem ren_eq_iff {r r' s : List Nat} : ren r s = ren r' s ↔ ∀ m ∈ s, g r m = g r' m := by
  unfold ren
  exact List.map_inj_left
theorem ren_marks {p s r r' : List Nat} (hs : Seq p s) : ren r s = ren r' s ↔ ren r (marksOf p.length s) = ren r' (marksOf p.length s) := by
  rw [ren_eq_iff, ren_eq_iff]
  unfold marksOf
  constructor
  · intro h m hm
    exact h m (List.contains_iff_mem.mp (List.mem_filter.mp hm).2)
  · intro h m hm
    exact h m (List.mem_filter.mpr ⟨List.mem_range.mpr (hs m hm), List.contains_iff_mem.mpr hm⟩)
def subs : List Nat → List (List Nat)
  | [] => [[]]
  | x :: l => subs l ++ (subs l).map (x :: ·)
theorem filter_subs (f : Nat → Bool) : ∀ l : List Nat, l.filter f ∈ subs l
  | [] => by simp [subs]
  | x :: l => by
    have ih := filter_subs f l
    unfold subs
    rw [List.filter_cons]
    split
    · exact List.mem_append_right _ (List.mem_map.mpr ⟨_, ih, rfl⟩)
    · exact List.mem_append_left _ ih
def divB (p : List Nat) : Bool := (subs (List.range p.length)).all fun u => (rowsM p).length % (ddp ((rowsM p).map fun r => ren r u)).length == 0
set_option maxRecDepth 100000 in
theorem div_all : papers.all divB = true := by decide +kernel
theorem div_rows {p s : List Nat} (hp : Paper p) (hs : Seq p s) : (rowsM p).length % (ddp (imgs p s)).length = 0 := by
  have h := List.all_eq_true.mp div_all p (mem_papers hp)
  unfold divB at h
  have h1 := List.all_eq_true.mp h (marksOf p.length s) (filter_subs _ _)
  unfold imgs
  rw [ddp_congr (f := fun r => ren r s) (h := fun r => ren r (marksOf p.length s)) fun a _ b _ => ren_marks hs]
  exact beq_iff_eq.mp h1
/-! ### who leads -/
def leads (p a b : List Nat) : List Row := (rowsM p).filter fun r => ren r a == b
theorem leads_iff {p a b : List Nat} : leads p a b ≠ [] ↔ ∃ c, IsRow p c ∧ ren c a = b := by
  constructor
  · intro h
    obtain ⟨c, hc⟩ := List.exists_mem_of_ne_nil _ h
    obtain ⟨h1, h2⟩ := List.mem_filter.mp hc
    exact ⟨c, mem_rows.mp h1, beq_iff_eq.mp h2⟩
  · rintro ⟨c, hc, e⟩ h
    have : c ∈ leads p a b := List.mem_filter.mpr ⟨mem_rows.mpr hc, beq_iff_eq.mpr e⟩
    rw [h] at this
    cases this
theorem least_leads {p a b m k : List Nat} (hp : Paper p) (ha : Seq p a) (hb : Seq p b) (h1 : Least (imgs p a) m) (h2 : Least (imgs p b) k) : k = m ↔ leads p a b ≠ [] := by
  rw [leads_iff]
  constructor
  · rintro rfl
    exact imgs_meet hp ha hb h1.1 h2.1
  · rintro ⟨c, hc, rfl⟩
    exact least_unique h2 h1 fun x => imgs_comp hp hc ha x
theorem refl_inj {p a b : List Nat} (hp : Paper p) (ha : Seq p a) (hb : Seq p b) (h : refl p a = refl p b) : a = b := by
  unfold refl at h
  have h1 : ∀ s, Seq p s → (s.reverse.map (g p)).map (g p) = s.reverse := fun s hs => by
    rw [List.map_map]
    exact (List.map_congr_left fun m hm => hp.inv m (hs m (List.mem_reverse.mp hm))).trans (List.map_id _)
  have h2 := congrArg (List.map (g p)) h
  rw [h1 a ha, h1 b hb] at h2
  exact List.reverse_inj.mp h2
theorem seq_refl {p s : List Nat} (hp : Paper p) (hs : Seq p s) : Seq p (refl p s) := fun m hm => by
  obtain ⟨x, hx, rfl⟩ := List.mem_map.mp hm
  exact hp.g_lt (hs x (List.mem_reverse.mp hx))
theorem ren_refl {p r s : List Nat} (hr : IsRow p r) (hs : Seq p s) : ren r (refl p s) = refl p (ren r s) := by
  unfold ren refl
  rw [List.map_map, ← List.map_reverse, List.map_map]
  exact List.map_congr_left fun m hm => (hr.cm m (hs m (List.mem_reverse.mp hm))).symm
theorem leads_refl {p a b : List Nat} (hp : Paper p) (ha : Seq p a) (hb : Seq p b) : leads p (refl p a) (refl p b) = leads p a b := by
  unfold leads
  refine List.filter_congr fun r hr => ?_
  have hr := mem_rows.mp hr
  rw [ren_refl hr ha, Bool.eq_iff_iff, beq_iff_eq, beq_iff_eq]
  constructor
  · exact refl_inj hp (seq_ren hr ha) hb
  · exact fun e => by rw [e]
theorem refl_map {p s : List Nat} : (s.map (g p)).reverse = refl p s := by
  unfold refl
  rw [List.map_reverse]
/-- the first that leads -/
def lead1 (p a b : List Nat) : Option Row := (rowsM p).find? fun r => ren r a == b
theorem lead1_head {p a b : List Nat} : lead1 p a b = (leads p a b).head? := by
  unfold lead1 leads
  rw [List.head?_filter]
end Qm

namespace Qm
/-! ### a paper that is being drawn -/
structure Half (n : Nat) (l p : List Nat) : Prop where
  len : p.length = n
  lt : ∀ m ∈ p, m < n
  inv : ∀ m, m < n → g p (g p m) = m
  nd : l.Nodup
  fix : ∀ m ∈ l, m < n ∧ g p m = m
  ll : l.length ≤ n
theorem g_range {n m : Nat} (h : m < n) : g (List.range n) m = m := by
  rw [g_of (by rw [List.length_range]; exact h)]
  exact List.getElem_range ..
theorem Half.start (n : Nat) : Half n (List.range n) (List.range n) where
  len := List.length_range
  lt := fun m hm => List.mem_range.mp hm
  inv := fun m hm => by rw [g_range hm, g_range hm]
  nd := List.nodup_range
  fix := fun m hm => ⟨List.mem_range.mp hm, g_range (List.mem_range.mp hm)⟩
  ll := by rw [List.length_range]; exact Nat.le_refl _
theorem g_set {p : List Nat} {a v m : Nat} (ha : a < p.length) : g (p.set a v) m = if m = a then v else g p m := by
  unfold g
  by_cases h : m = a
  · subst h
    rw [if_pos rfl]
    simp [List.getD, ha]
  · rw [if_neg h]
    simp [List.getD, List.getElem?_set_ne (Ne.symm h)]
theorem erase_parts {l : List Nat} {i : Nat} (h : i < l.length) (hn : l.Nodup) : l[i] ∉ l.eraseIdx i ∧ (l.eraseIdx i).Nodup ∧ (∀ m ∈ l.eraseIdx i, m ∈ l) := by
  have e : l = l.take i ++ l[i] :: l.drop (i + 1) := by
    rw [← List.drop_eq_getElem_cons h, List.take_append_drop]
  have e2 : l.eraseIdx i = l.take i ++ l.drop (i + 1) := List.eraseIdx_eq_take_drop_succ ..
  have hn2 := hn
  rw [e, List.nodup_append] at hn2
  obtain ⟨n1, n2, n3⟩ := hn2
  rw [List.nodup_cons] at n2
  rw [e2]
  refine ⟨fun hm => ?_, ?_, fun m hm => ?_⟩
  · rcases List.mem_append.mp hm with hm | hm
    · exact n3 _ hm _ (List.mem_cons_self ..) rfl
    · exact n2.1 hm
  · rw [List.nodup_append]
    exact ⟨n1, n2.2, fun a ha b hb => n3 a ha b (List.mem_cons_of_mem _ hb)⟩
  · rcases List.mem_append.mp hm with hm | hm
    · exact List.mem_of_mem_take hm
    · exact List.mem_of_mem_drop hm
theorem erase_len {l : List Nat} {i : Nat} (h : i < l.length) : (l.eraseIdx i).length = l.length - 1 := List.length_eraseIdx_of_lt h
theorem Half.pair {n : Nat} {l p : List Nat} (h : Half n l p) {i j : Nat} (hi : i < l.length) (hj : j < (l.eraseIdx i).length) :
    Half n ((l.eraseIdx i).eraseIdx j) ((p.set l[i] (l.eraseIdx i)[j]).set (l.eraseIdx i)[j] l[i]) := by
  obtain ⟨a1, a2, a3⟩ := erase_parts hi h.nd
  obtain ⟨b1, b2, b3⟩ := erase_parts hj a2
  generalize ea : l[i] = a at a1 ⊢
  have hb : (l.eraseIdx i)[j] ∈ l.eraseIdx i := List.getElem_mem _
  generalize eb : (l.eraseIdx i)[j] = b at b1 hb ⊢
  have ha' : a ∈ l := by rw [← ea]; exact List.getElem_mem _
  have hb' : b ∈ l := a3 b hb
  obtain ⟨an, af⟩ := h.fix a ha'
  obtain ⟨bn, bf⟩ := h.fix b hb'
  have ne : a ≠ b := fun e => a1 (e ▸ hb)
  have hpa : a < p.length := by rw [h.len]; exact an
  have hpb : b < (p.set a b).length := by rw [List.length_set, h.len]; exact bn
  have G : ∀ m, g ((p.set a b).set b a) m = if m = b then a else if m = a then b else g p m := fun m => by rw [g_set hpb, g_set hpa]
  refine ⟨by rw [List.length_set, List.length_set]; exact h.len, fun m hm => ?_, fun m hm => ?_, b2, fun m hm => ?_, by have := h.ll; have e1 := erase_len hi; have e2 := erase_len hj; omega⟩
  · rcases List.mem_or_eq_of_mem_set hm with hm | hm
    · rcases List.mem_or_eq_of_mem_set hm with hm | hm
      · exact h.lt m hm
      · rw [hm]; exact bn
    · rw [hm]; exact an
  · rw [G m]
    by_cases e1 : m = b
    · rw [if_pos e1, G, if_neg ne, if_pos rfl, e1]
    · rw [if_neg e1]
      by_cases e2 : m = a
      · rw [if_pos e2, G, if_pos rfl, e2]
      · rw [if_neg e2, G]
        have hi1 := h.inv m hm
        have f1 : g p m ≠ b := fun z => by rw [z, bf] at hi1; exact e1 hi1.symm
        have f2 : g p m ≠ a := fun z => by rw [z, af] at hi1; exact e2 hi1.symm
        rw [if_neg f1, if_neg f2]
        exact hi1
  · have m1 := b3 m hm
    have mb : m ≠ b := fun e => b1 (e ▸ hm)
    have ma : m ≠ a := fun e => a1 (e ▸ m1)
    obtain ⟨x, y⟩ := h.fix m (a3 m m1)
    refine ⟨x, ?_⟩
    rw [G, if_neg mb, if_neg ma]
    exact y
theorem Half.paper {n : Nat} {l p : List Nat} (h : Half n l p) (h1 : 1 ≤ n) (h5 : n ≤ 5) : Paper p := by
  have e := h.len
  subst e
  exact ⟨h1, h5, h.lt, h.inv⟩
end Qm

/-! Rules that the layer lacks: t[::-1] of a tuple. -/
namespace QmR
open PySem PySem.Spec PyProof.Rows L2 HT
section
variable {prog : Program} {w : World} {A : Around} {E : Value → Shared → Prop} {s : Shared}
theorem back_adjust (n : Nat) : Builtin.Slice.sliceAdjust none none (-1) (n : Int) = ((n : Int) - 1, -1) := by
  unfold Builtin.Slice.sliceAdjust
  rfl
theorem back_places (n : Nat) : Builtin.Slice.slicePlaces ((n : Int) - 1) (-1) (-1) = n := by
  unfold Builtin.Slice.slicePlaces
  rw [if_neg (by decide)]
  by_cases h : (n : Int) - 1 > -1
  · rw [if_pos h]
    have e : (-(-1) : Int) = 1 := by decide
    rw [e, Int.ediv_one]
    omega
  · rw [if_neg h]
    omega
theorem back_pick (xs : Array Value) : ((List.range xs.size).filterMap fun (k : Nat) => xs[((xs.size : Int) - 1 + (k : Int) * (-1)).toNat]?) = xs.toList.reverse := by
  have e : ((List.range xs.size).filterMap fun (k : Nat) => xs[((xs.size : Int) - 1 + (k : Int) * (-1)).toNat]?) = (((List.range xs.size).map fun k => xs.size - 1 - k).filterMap (xs[·]?)) := by
    rw [List.filterMap_map]
    refine congrArg (fun f => (List.range xs.size).filterMap f) (funext fun k => ?_)
    show xs[((xs.size : Int) - 1 + (k : Int) * (-1)).toNat]? = xs[xs.size - 1 - k]?
    have e2 : ((xs.size : Int) - 1 + (k : Int) * (-1)).toNat = xs.size - 1 - k := by omega
    rw [e2]
  rw [e, PySem.W.krv_range, List.filterMap_reverse, PySem.W.krv_all]
theorem applied_back {sl : Addr} {vl vu vs : Value} {n : Nat} {Q : Int × Int × Nat → Shared → Prop} (hs : s.heap.IsSliceOf sl vl vu vs) (pl : IsPart vl none) (pu : IsPart vu none) (ps : IsPart vs (some (-1)))
    (h : Q ((n : Int) - 1, -1, n) s) : wpAny (model prog w) A (Builtin.Slice.sliceApplied (.ref sl) (pure (n : Int))) Q E s := by
  obtain ⟨ob, hob, _, hdt⟩ := id hs
  unfold Builtin.Slice.sliceApplied Builtin.Slice.sliceFields
  refine wpAny_bind (wpAny_bind (wpAny_field hob hdt (x := vl) rfl ?_))
  refine wpAny_bind (wpAny_field hob hdt (x := vu) rfl ?_)
  refine wpAny_bind (wpAny_field hob hdt (x := vs) rfl (wpAny_pure ?_))
  refine wpAny_bind (slicePart_ ps ?_)
  show wpAny _ _ (if ((-1 : Int) == 0) = true then _ else _) _ _ s
  rw [if_neg (by decide)]
  refine wpAny_bind (slicePart_ pl ?_)
  refine wpAny_bind (slicePart_ pu (wpAny_bind (wpAny_pure ?_)))
  show wpAny _ _ (match Builtin.Slice.sliceAdjust none none (-1) (n : Int) with | (lo, hi) => pure (lo, (-1 : Int), Builtin.Slice.slicePlaces lo hi (-1))) _ _ s
  rw [back_adjust]
  show wpAny _ _ (pure ((n : Int) - 1, (-1 : Int), Builtin.Slice.slicePlaces ((n : Int) - 1) (-1) (-1))) _ _ s
  rw [back_places]
  exact wpAny_pure h
theorem getItem_tuple_back {t sl : Addr} {items : Array Value} {vl vu vs : Value} {Q : Value → Shared → Prop} (ht : IsTup s.heap t items) (hs : s.heap.IsSliceOf sl vl vu vs) (pl : IsPart vl none) (pu : IsPart vu none) (ps : IsPart vs (some (-1)))
    (h : Q (.ref s.heap.objs.size) { s with heap := s.heap.push { cls := .type "tuple", data := .seq items.toList.reverse.toArray } }) (hsz : items.size ≤ sizeLine) :
    wpAny (model prog w) A (getItem (.ref t) (.ref sl)) Q E s := by
  have fit : sizeOk (.seq items.toList.reverse.toArray) := by
    show items.toList.reverse.toArray.size ≤ sizeLine
    rw [List.size_toArray, List.length_reverse, Array.length_toList]
    exact hsz
  obtain ⟨ob, hob, hoc, _⟩ := id hs
  have isSl : s.TypeIs (.ref sl) "slice" := ⟨ob, hob, hoc⟩
  unfold getItem
  try with_reducible refine wpAny_holding ?_
  first | refine wpAny_bind (wpAny_pure ?_) | skip
  refine wpAny_bind (wpAny_sequenceKey ht.typeIs (by decide) ?_)
  refine wpAny_bind (wpAny_callSpecial?_slot (name := Str.ofString "__getitem__") ht.typeIs
    PyProof.Rows.slot_tuple_getitem ?_)
  refine wpAny_call_entry PyProof.Rows.slot_tuple_getitem ht.typeIs entry_tuple_getitem ?_
    (args_tuple_getitem _ _)
  show wpAny _ _ (Builtin.Tuple.tupleItemsOf (.ref t) >>= _) _ _ s
  refine wpAny_bind (tupleItemsOf_ ht (wpAny_bind (wpAny_typeOf isSl ?_)))
  rw [if_pos (by decide)]
  refine wpAny_bind (applied_back hs pl pu ps ?_)
  have hno : ¬ ((((items.size : Int) - 1) == 0 && (-1 : Int) == 1 && items.size == items.size) = true) := by
    rw [show ((-1 : Int) == 1) = false from rfl, Bool.and_false, Bool.false_and]
    exact Bool.false_ne_true
  show wpAny _ _ (if (((items.size : Int) - 1) == 0 && (-1 : Int) == 1 && items.size == items.size) = true then _ else _) _ _ s
  rw [if_neg hno, back_pick]
  first
    | exact wpAny_bind (m := Builtin.Tuple.tupleExact _)
        (wpAny_newObj_type (wpAny_pure ⟨_, rfl, wpAny_pure h⟩) fit)
    | exact wpAny_bind (m := Builtin.Tuple.tupleExact _)
        (wpAny_newObj_type (wpAny_bind (wpAny_pure (wpAny_pure ⟨_, rfl, wpAny_pure h⟩))) fit)
    | exact wpAny_bind (wpAny_bind (m := Builtin.Tuple.tupleExact _)
        (wpAny_newObj_type (wpAny_pure (wpAny_pure ⟨_, rfl, wpAny_pure h⟩)) fit))
    | exact wpAny_bind (wpAny_bind (m := Builtin.Tuple.tupleExact _)
        (wpAny_newObj_type (wpAny_pure ⟨_, rfl, wpAny_pure h⟩) fit))
end
section
variable {X : Cx}
/-- t[::-1], t a tuple -/
def tBackT (K : PySem.W.Frag) (te : TE) : TE := fun σ H Q => te σ H fun x H1 =>
  ∃ a xs, x = .ref a ∧ SqT K H1 a xs ∧ ∀ p, H1 p = none → Q (.ref p) (upd H1 p (.tup xs.reverse))
theorem pe_backT {e : Expr} {te : TE} {k : Nat} {p1 p2 p3 pos : Pos} (he : PE X e te) :
    PE X (.Subscript e (.Slice none none (some (.UnaryOp .USub (.Constant (.int 1) k p1) p2)) p3) pos) (tBackT X.K te) := by
  refine ⟨fun pins s σ H Q I h => Subscript_ (thn (he.run pins s σ H _ I h) fun v s1 hv => ?_)⟩
  obtain ⟨x, H1, I1, r1, a, xs, ex, hx, q⟩ := hv
  subst ex
  cases r1
  have step : PO X (some (.UnaryOp .USub (.Constant (.int 1) k p1) p2)) (tPart (tUn (rU fun i => .int (-i)) (tC (.int 1)))) :=
    po_some (pe_un un_neg pe_int)
  refine wpAny_Slice (thn (po_none.run pins s1 σ H1 (fun o G => o = none ∧ G = H1) I1 ⟨rfl, rfl⟩) fun vl s2 h2 => ?_)
  obtain ⟨l, G2, I2, pl, rfl, rfl⟩ := h2
  refine thn (po_none.run pins s2 σ G2 (fun o G => o = none ∧ G = G2) I2 ⟨rfl, rfl⟩) fun vu s3 h3 => ?_
  obtain ⟨u, G3, I3, pu, rfl, rfl⟩ := h3
  refine thn (step.run pins s3 σ G3 (fun o G => o = some (-1) ∧ G = G3) I3 ⟨1, rfl, -1, rfl, rfl, rfl⟩) fun vs s4 h4 => ?_
  obtain ⟨o, G4, I4, ps, rfl, rfl⟩ := h4
  have I5 : Inv X pins σ G4 { s4 with heap := s4.heap.push { cls := .type "slice", data := .fields #[vl, vu, vs] } } :=
    I4.kept (t' := s4.toks) fun b ob q => Heap.get?_push_of_some _ q
  obtain ⟨its, r, ht, hz⟩ := I5.tuple hx
  have hlen := r.length
  show wpAny (model X.prog X.w) X.A (subscriptTail e (.Slice none none (some (.UnaryOp .USub (.Constant (.int 1) k p1) p2)) p3)
    (.ref a) (.ref s4.heap.objs.size)) (EP X pins σ Q) X.xe { s4 with heap := s4.heap.push { cls := .type "slice", data := .fields #[vl, vu, vs] } }
  refine tail_any (ops := [.ref a, .ref s4.heap.objs.size]) ht.typeIs (PyProof.Rows.slot_tuple_getitem.lookup) ?_
    (by with_unfolding_all rfl)
  refine getItem_tuple_back ht (Heap.IsSliceOf.new _ vl vu vs) pl pu ps ?_ (by rw [List.size_toArray]; omega)
  refine ⟨.ref _, _, I5.laid (t' := s4.toks) (o := .tup xs.reverse) (fun b ob q => Heap.get?_push_of_some _ q) (Nat.le_refl _) ?_, rfl,
    q _ (I5.hok.fresh (Nat.le_refl _))⟩
  exact ⟨by rw [List.length_reverse]; exact hz, its.reverse, r.reverse, _, Heap.get?_push_size _ rfl, rfl, _, rfl⟩
end
end QmR

/-! The least of a list of tuples of numbers. -/
namespace QmR
open PySem PySem.Spec PyProof.Rows L2
/-- a tuple's items -/
abbrev nV (n : Nat) : V := .int (n : Int)
abbrev nD (n : Nat) : PyData := .int (n : Int)
abbrev tn (r : List Nat) : List V := r.map nV
/-- the tuples at the addresses, one by one -/
abbrev RowsAt (H : Hp) (as : List Addr) (rows : List (List Nat)) : Prop := Paired (fun a r => H a = some (.tup (tn r))) as rows
def dT (r : List Nat) : PyData := .tuple (r.map nD)
theorem dpAll_tn {K : PySem.W.Frag} {H : Hp} : ∀ r : List Nat, DpAll K H (tn r) (r.map nD)
  | [] => .nil
  | n :: r => .cons (.int _) (dpAll_tn r)
theorem dp_row {K : PySem.W.Frag} {H : Hp} {a : Addr} {r : List Nat} (h : H a = some (.tup (tn r))) : Dp K H (.ref a) (dT r) := .tup (SqT.of h) (dpAll_tn r)
theorem dpAll_rows {K : PySem.W.Frag} {H : Hp} : ∀ {as : List Addr} {rows : List (List Nat)}, RowsAt H as rows → DpAll K H (as.map V.ref) (rows.map dT)
  | _, _, .nil => .nil
  | _, _, .cons h t => .cons (dp_row h) (dpAll_rows t)
theorem toks_lex : ∀ a b : List Nat, PyProof.Rows.lexLt itemOrd (PySem.W.keyToksAll (a.map nD)) (PySem.W.keyToksAll (b.map nD)) = Qm.lexN a b
  | [], [] => lex_irrefl _
  | [], y :: ys => by
    show PyProof.Rows.lexLt itemOrd (PySem.W.keyToksAll []) (PySem.W.keyToksAll (nD y :: _)) = true
    rw [PySem.W.toks_all_cons]
    simp only [PySem.W.keyToksAll]
    rw [lex_diff (O := itemOrd) (by simp)]
    rfl
  | x :: xs, [] => by
    show PyProof.Rows.lexLt itemOrd (PySem.W.keyToksAll (nD x :: _)) (PySem.W.keyToksAll []) = false
    rw [PySem.W.toks_all_cons]
    simp only [PySem.W.keyToksAll]
    rw [lex_diff (O := itemOrd) (by simp)]
    rfl
  | x :: xs, y :: ys => by
    rw [List.map_cons, List.map_cons, PySem.W.dataLt_cons (by simp [PySem.W.alike]), toks_lex xs ys, PySem.W.dataLt_int]
    unfold Qm.lexN
    by_cases e : x = y
    · subst e
      rw [if_pos (by simp [PyData.eqv]), if_pos rfl]
      cases xs <;> cases ys <;> rfl
    · rw [if_neg (by simp only [PyData.eqv, beq_iff_eq]; omega), if_neg e]
      rw [decide_eq_decide]
      omega
theorem lt_dT (a b : List Nat) : PySem.W.dataLt (dT a) (dT b) = Qm.lexN a b := by
  unfold dT
  rw [PySem.W.dataLt_tuple]
  exact toks_lex a b
theorem lexN_self : ∀ a : List Nat, Qm.lexN a a = false
  | [] => rfl
  | x :: xs => by
    unfold Qm.lexN
    rw [if_pos rfl]
    exact lexN_self xs
theorem lexN_trans : ∀ a b c : List Nat, Qm.lexN a b = false → Qm.lexN b c = false → Qm.lexN a c = false
  | [], [], c, _, h => h
  | [], _ :: _, _, h, _ => by cases h
  | _ :: _, [], [], h, _ => rfl
  | _ :: _, [], _ :: _, _, h => by cases h
  | _ :: _, _ :: _, [], _, _ => rfl
  | x :: xs, y :: ys, z :: zs, h1, h2 => by
    unfold Qm.lexN at h1 h2 ⊢
    by_cases e1 : x = y
    · subst e1
      rw [if_pos rfl] at h1
      by_cases e2 : x = z
      · subst e2
        rw [if_pos rfl] at h2 ⊢
        exact lexN_trans xs ys zs h1 h2
      · rw [if_neg e2] at h2 ⊢
        exact h2
    · rw [if_neg e1] at h1
      have k1 := of_decide_eq_false h1
      by_cases e2 : y = z
      · subst e2
        rw [if_neg e1]
        exact h1
      · rw [if_neg e2] at h2
        have k2 := of_decide_eq_false h2
        rw [if_neg (by omega)]
        exact decide_eq_false (by omega)
/-- min's fold finds a least one -/
theorem min_fold : ∀ (rows : List (List Nat)) (x : List Nat), ∃ m, (rows.map dT).foldl (fun a y => if PySem.W.dataLt y a then y else a) (dT x) = dT m ∧ Qm.Least (x :: rows) m
  | [], x => ⟨x, rfl, List.mem_cons_self .., fun y hy => by
      have e : y = x := by simpa using hy
      rw [e]
      exact lexN_self x⟩
  | y :: rows, x => by
    rw [List.map_cons, List.foldl_cons, lt_dT]
    cases h : Qm.lexN y x with
    | true =>
      obtain ⟨m, e, h1, h2⟩ := min_fold rows y
      refine ⟨m, by simpa using e, List.mem_cons_of_mem _ h1, fun z hz => ?_⟩
      rcases List.mem_cons.mp hz with rfl | hz
      · refine lexN_trans _ y _ ?_ (h2 y (List.mem_cons_self ..))
        cases k : Qm.lexN z y with
        | false => rfl
        | true =>
          -- z < y and y < z
          exact absurd (lexN_asymm_ h k) (by simp)
      · exact h2 z hz
    | false =>
      obtain ⟨m, e, h1, h2⟩ := min_fold rows x
      refine ⟨m, by simpa using e, ?_, fun z hz => ?_⟩
      · rcases List.mem_cons.mp h1 with rfl | h1
        · exact List.mem_cons_self ..
        · exact List.mem_cons_of_mem _ (List.mem_cons_of_mem _ h1)
      · rcases List.mem_cons.mp hz with rfl | hz
        · exact h2 z (List.mem_cons_self ..)
        · rcases List.mem_cons.mp hz with rfl | hz
          · exact lexN_trans _ x _ h (h2 x (List.mem_cons_self ..))
          · exact h2 z (List.mem_cons_of_mem _ hz)
where
  lexN_asymm_ : ∀ {a b : List Nat}, Qm.lexN a b = true → Qm.lexN b a = true → False
  | [], [], h, _ => by cases h
  | [], _ :: _, _, h => by cases h
  | _ :: _, [], h, _ => by cases h
  | x :: xs, y :: ys, h1, h2 => by
    unfold Qm.lexN at h1 h2
    by_cases e : x = y
    · subst e
      rw [if_pos rfl] at h1 h2
      exact lexN_asymm_ h1 h2
    · rw [if_neg e] at h1
      rw [if_neg (Ne.symm e)] at h2
      have := of_decide_eq_true h1
      have := of_decide_eq_true h2
      omega
theorem alike_ints : ∀ a b : List Nat, PySem.W.alikeAll (a.map nD) (b.map nD) = true
  | [], _ => by simp [PySem.W.alikeAll]
  | _ :: _, [] => by simp [PySem.W.alikeAll]
  | x :: xs, y :: ys => by
    rw [List.map_cons, List.map_cons, PySem.W.alikeAll, alike_ints xs ys]
    simp [PySem.W.alike]
theorem alike_rows (rows : List (List Nat)) : PySem.W.AlikeAll (rows.map dT) := by
  refine ⟨fun x hx y hy => ?_, fun x hx e => ?_⟩
  · obtain ⟨a, _, rfl⟩ := List.mem_map.mp hx
    obtain ⟨b, _, rfl⟩ := List.mem_map.mp hy
    unfold dT
    rw [PySem.W.alike]
    exact alike_ints a b
  · obtain ⟨a, _, rfl⟩ := List.mem_map.mp hx
    cases e
theorem depth_ints : ∀ r : List Nat, PyData.depthAll (r.map nD) = 0
  | [] => by simp [PyData.depthAll]
  | n :: r => by
    rw [List.map_cons, PyData.depthAll, depth_ints r]
    simp [PyData.depth]
theorem depth_rows : ∀ rows : List (List Nat), PyData.depthAll (rows.map dT) ≤ 1
  | [] => by simp [PyData.depthAll]
  | r :: rows => by
    rw [List.map_cons, PyData.depthAll]
    refine Nat.max_le.mpr ⟨?_, depth_rows rows⟩
    unfold dT
    rw [PyData.depth, depth_ints]
    decide
theorem dT_inj {a b : List Nat} (h : dT a = dT b) : a = b := by
  unfold dT at h
  injection h with h
  have : ∀ a b : List Nat, (a.map nD) = (b.map nD) → a = b := by
    intro a
    induction a with
    | nil =>
      intro b h
      cases b with
      | nil => rfl
      | cons _ _ => cases h
    | cons x xs ih =>
      intro b h
      cases b with
      | nil => cases h
      | cons y ys =>
        rw [List.map_cons, List.map_cons] at h
        injection h with h1 h2
        injection h1 with h1
        rw [ih ys h2, Int.ofNat_inj.mp h1]
  exact this a b h
theorem rows_get {H : Hp} {as : List Addr} {rows : List (List Nat)} (h : RowsAt H as rows) {i : Nat} {b : Addr} (hb : as[i]? = some b) : ∃ r, rows[i]? = some r ∧ H b = some (.tup (tn r)) := by
  induction h generalizing i with
  | nil => cases hb
  | cons h1 _ ih =>
    cases i with
    | zero =>
      have e := Option.some.inj (show some _ = some b from hb)
      subst e
      exact ⟨_, rfl, h1⟩
    | succ i => exact ih hb
def rMinT (K : PySem.W.Frag) : List V → Hp → VK → Prop := fun vs H Q => ∃ (l : Addr) (as : List Addr) (rows : List (List Nat)), vs = [V.ref l] ∧ SqL K H l (as.map V.ref) ∧ RowsAt H as rows ∧ rows ≠ [] ∧
  ∀ (b : Addr) (r : List Nat), b ∈ as → H b = some (.tup (tn r)) → Qm.Least rows r → Q (.ref b) H
theorem cr_minT {X : Cx} (hc : X.calm = true) (hu : X.A.units + 64 < cLine) : CallR X (.builtin "min") (rMinT X.K) := by
  intro pins s σ H vs us Q I r h
  obtain ⟨l, as, rows, rfl, hl, hrows, hne, q⟩ := h
  rw [Vals.ref1 r]
  obtain ⟨its, rv, hL, hsz⟩ := I.list hl
  obtain ⟨ads, hread⟩ := Dp.readsAll I (rows.map dT) (as.map V.ref) its (dpAll_rows hrows) rv
  cases rows with
  | nil => exact absurd rfl hne
  | cons x rest =>
    have hd := depth_rows (x :: rest)
    refine PySem.W.min_list_data (x := dT x) (xs := rest.map dT) (as := ads) (I.ok.hd hc) hL.isList hread (alike_rows (x :: rest)) (by
      have : PyData.depthAll (dT x :: rest.map dT) ≤ 1 := hd
      omega) fun i v h' tk bs hv hr hk => ?_
    obtain ⟨m, em, hm⟩ := min_fold rest x
    have em' : PySem.W.minD (dT x) (rest.map dT) = dT m := em
    rw [em'] at hr
    have hi : its[i]? = some v := by simpa using hv
    have hlen : (as.map V.ref).length = its.length := rv.length
    have hlt : i < as.length := by
      have := (List.getElem?_eq_some_iff.mp hi).1
      rw [List.length_map] at hlen
      omega
    have hb : as[i]? = some as[i] := List.getElem?_eq_getElem hlt
    obtain ⟨u, hu1, hu2⟩ := rv.get (i := i) (x := V.ref as[i]) (by rw [List.getElem?_map, hb]; rfl)
    rw [hi] at hu1
    have hvu : v = u := Option.some.inj hu1
    subst hvu
    obtain ⟨row, hrow, hrb⟩ := rows_get hrows hb
    obtain ⟨bs2, hr2⟩ := Dp.reads I (dT row) (V.ref as[i]) v (dp_row hrb) hu2
    have e : dT row = dT m := (Reads.unique (PySem.W.reads_keeps hk hr2) _ _ hr).1
    have e2 := dT_inj e
    subst e2
    exact ⟨.ref as[i], H, I.kept (t' := tk) hk, hu2, q _ row (List.getElem_mem _) hrb hm⟩
end QmR

/-! A dict comprehension whose keys are tuples. -/
namespace QmR
open PySem PySem.Spec PyProof.Rows L2
/-- a tuple key is put into the dict that is being made -/
theorem put_tuple {X : Cx} {pins : List (Addr × Obj)} {σ : L2.St} {H : Hp} {s : Shared} {E : Value → Shared → Prop} {D a : Addr} {kvs : List (List Key × V)}
    {k : List Key} {v : V} {r : Value} {Q : Unit → Shared → Prop} (hu : X.A.units + 1 < cLine) (I : Inv X pins σ H s) (hD : H D = some (.dT kvs)) (ha : H a = some (.tup (k.map kV)))
    (hz : kvs.length < sizeLine) (rv : RelV v r) (h : ∀ s', Inv X pins σ (upd H D (.dT (putK kvs k v))) s' → Q () s') :
    wpAny (model X.prog X.w) X.A (dictSet D (.ref a) r) Q E s := by
  obtain ⟨lz, nsys, items, rel, dict⟩ := dt_of I.hok hD
  have lz2 : items.length ≤ sizeLine := (Paired.length rel) ▸ lz
  have grown := length_putK kvs k v
  refine wpAny_dictSet_heap (hsz := lz2) (show X.A.units < cLine by omega) (key_of I.hok ha) dict fun h' dd hs => h _ ?_
  obtain ⟨ob, es, ep, h1, h2, h3, h4, _, h5⟩ := dd
  refine d_write I (by rw [hD]; exact True.intro) hs ⟨ob, h1⟩
    ⟨by omega, nsys, _, (rel.put k ha rv).keeps fun c ys hc => ?_, ob, es, ep, h1, h2, h3, h4, h5⟩
  rw [upd_ne (ne_of hc hD (fun z => nomatch z))]
  exact hc

section
variable {X : Cx}
/-- one turn of such a comprehension: D the new dict, Nx what the turn is to reach -/
def turnT (D : Addr) (g : TG) (tt : TT) (tk tv : TE) (vs : List Nat) (σ : L2.St) (Nx : Hp → Prop) (x : V) (H : Hp) : Prop :=
  g x (wipe σ vs) H fun σ2 H2 => wipe σ2 vs = wipe σ vs ∧ tt σ2 H2 fun b H3 =>
    if b = true then tk σ2 H3 fun y H4 => tv σ2 H4 fun z H5 => ∃ (a : Addr) (k : List Key) (kvs : List (List Key × V)),
      y = .ref a ∧ H5 a = some (.tup (k.map kV)) ∧ H5 D = some (.dT kvs) ∧ kvs.length < sizeLine ∧ Nx (upd H5 D (.dT (putK kvs k z)))
    else Nx H3
/-- {k: v for target in iter if ..}, the keys tuples -/
def tDcT (wi : TI) (g : TG) (tt : TT) (tk tv : TE) (vs : List Nat) : TE := fun σ H Q => wi σ H fun J H1 => ∀ D, H1 D = none →
  ∃ W : Nat → Nat → Hp → Prop, (∃ m, W 0 m (upd H1 D (.dT []))) ∧ ∀ i m H, W i m H →
    (J.stop i H ∧ Q (.ref D) H) ∨
    (J.go i H ∧ ∃ Nx : Hp → Prop, (∀ H', Nx H' → ∃ m', m' < m ∧ W (i + 1) m' H') ∧ ∀ x H', J.yld i H x H' → turnT D g tt tk tv vs σ Nx x H')
abbrev Blk (P : Cx → Prop) (X : Cx) (scope : Scope) : Prop :=
  ∀ (s : Shared) (H : Hp) (C : Addr) (cl : List (Str × Addr)) (fp : List Addr), P (X.blk s H scope (compEnvC scope cl C X.env) fp)
theorem pe_dcT {kx vx tg iter : Expr} {ifs : List Expr} {scope : Scope} {own : List (Str × Nat)} {pos : Pos} {wi : TI} {g : TG} {tt : TT} {tk tv : TE}
    (hu : X.A.units + 1 < cLine) (hc : X.calm = true) (hN : X.N.Nodup) (hi : PI X tg iter wi) (ok : BlkOk X.N X.env.scope scope own)
    (hg : Blk (fun Y => PG Y tg g) X scope) (ht : Blk (fun Y => PTs Y ifs tt) X scope) (hk : Blk (fun Y => PE Y kx tk) X scope) (he : Blk (fun Y => PE Y vx tv) X scope)
    (hs : ∀ x, foldedSetIterable iter X.env x = pure x := by intro _; rfl) :
    PE X (.DictComp kx vx [⟨tg, iter, ifs, 0⟩] scope pos) (tDcT wi g tt tk tv (own.map (·.2))) := by
  refine ⟨fun pins s σ H Q I hq => ?_⟩
  rw [arm_eval_DictComp]
  have captured : ∀ y ∈ scope.names, y.2 = .free → ∃ c, X.env.cells.lookup y.1 = some c := by
    intro y hy e
    exact (ok.free y hy e).elim (fun k => I.ok.has _ (.inl k)) (fun k => I.ok.has _ (.inr k))
  refine wpAny_comprehension_free rfl hs (closure_ok captured) ok.kind (fun y hy e => by rw [ok.uniq y hy, e]) ?_
  refine thn (hi.run pins s σ H _ I hq) fun xv s1 hx => thn hx fun itv s2 h2 => ?_
  obtain ⟨it, fp, tn, J, G2, rfl, I2, T, at2, far2, rest⟩ := h2
  refine wpAny_newObj_type (newEnv_comp ?_)
  obtain ⟨D, eD⟩ : ∃ D, D = s2.heap.objs.size := ⟨_, rfl⟩
  rw [← eD]
  have freeD : G2 D = none := I2.hok.fresh (Nat.le_of_eq eD.symm)
  obtain ⟨W, ⟨m0, start⟩, turns⟩ := rest D freeD
  -- the state with the new dict
  obtain ⟨s3, e3⟩ : ∃ s3 : Shared, s3 = { s2 with heap := s2.heap.push { cls := .type "dict", data := .dict #[] } } := ⟨_, rfl⟩
  have hp3 : s3.heap = s2.heap.push { cls := .type "dict", data := .dict #[] } := by rw [e3]
  obtain ⟨G3, eG3⟩ : ∃ G3 : Hp, G3 = upd G2 D (.dT []) := ⟨_, rfl⟩
  have I3 : Inv X pins σ G3 s3 := by
    rw [e3, eG3, eD]
    exact I2.laid (t' := s2.toks) (fun b o z => Heap.get?_push_of_some _ z) (Nat.le_refl _) (dt_empty s2.heap I2.big)
  have low : ∀ b ∈ fp, b < s2.heap.objs.size := fun b hb => let ⟨_, z, _⟩ := T.obj _ _ at2 b hb; Heap.lt_size z
  have far3 : ∀ b ∈ fp, FpOk X pins G3 b ∧ b < s3.heap.objs.size := fun b hb => by
    have hlt := low b hb
    have hne : b ≠ D := by rw [eD]; exact Nat.ne_of_lt hlt
    refine ⟨⟨?_, (far2 b hb).2⟩, ?_⟩
    · rw [eG3, upd_ne hne]
      exact (far2 b hb).1
    · rw [hp3, Heap.size_push]
      exact Nat.lt_succ_of_lt hlt
  have at3 : tn 0 s3.heap := T.keep _ _ _ at2 fun b _ o z => by
    rw [hp3]
    exact Heap.get?_push_of_some _ z
  rw [← eG3] at start
  -- the block
  have I4 := block_start I3 ok hN far3
  have rg := hg s3 G3 s3.heap.objs.size (cellsFrom (s3.heap.objs.size + 1) scope.names (cloFrom X.env.cells scope.names [])) fp
  have rt := ht s3 G3 s3.heap.objs.size (cellsFrom (s3.heap.objs.size + 1) scope.names (cloFrom X.env.cells scope.names [])) fp
  have rk := hk s3 G3 s3.heap.objs.size (cellsFrom (s3.heap.objs.size + 1) scope.names (cloFrom X.env.cells scope.names [])) fp
  have re := he s3 G3 s3.heap.objs.size (cellsFrom (s3.heap.objs.size + 1) scope.names (cloFrom X.env.cells scope.names [])) fp
  obtain ⟨cenv, ecenv⟩ : ∃ cenv : Env, cenv = compEnvC scope (cellsFrom (s3.heap.objs.size + 1) scope.names (cloFrom X.env.cells scope.names [])) s3.heap.objs.size X.env := ⟨_, rfl⟩
  obtain ⟨s4, e4⟩ : ∃ s4 : Shared, s4 = { s3 with heap := pushCells (s3.heap.push { cls := .type "dict", data := .dict #[] }) scope.names } := ⟨_, rfl⟩
  rw [← e3]
  rw [← ecenv] at I4 rg rt rk re
  show codeAny (model X.prog X.w) X.A (.compStart (.DictComp kx vx [⟨tg, iter, ifs, 0⟩] scope pos) 0 (.ref it) (.ref D)
      (compEnvC scope (cellsFrom (s3.heap.objs.size + 1) scope.names (cloFrom X.env.cells scope.names [])) s3.heap.objs.size X.env))
    (compPost (model X.prog X.w) X.A X.xe none (EP X pins σ Q) (.ref D) s3.heap.objs.size)
    { s3 with heap := pushCells (s3.heap.push { cls := .type "dict", data := .dict #[] }) scope.names }
  rw [← ecenv, ← e4]
  rw [← e4] at I4
  have locC : cenv.locals = s3.heap.objs.size := by rw [ecenv]; rfl
  have at4 : tn 0 s4.heap := T.keep _ _ _ at3 fun b _ o z => by
    rw [e4]
    exact pushCells_keeps _ _ _ _ (Heap.get?_push_of_some _ z)
  have off3 : ∀ b ∈ fp, G3 b = none := fun b hb => (far3 b hb).1.1
  have static : ∀ {σ' : L2.St} {G : Hp} {s' : Shared}, Inv (X.blk s3 G3 scope cenv fp) [] σ' G s' → (∀ b ∈ fp, G b = none) → ∀ b ∈ fp, FpOk (X.blk s3 G3 scope cenv fp) [] G b := by
    intro σ' G s' J1 off b hb
    refine ⟨off b hb, (J1.ok.exf b hb).1, J1.ok.exfs b hb, .inl hb, (J1.ok.exf b hb).2, fun p hp => ?_⟩
    exact absurd (show p ∈ ([] : List (Addr × Obj)) ++ [] from hp) (by simp)
  have loop : codeAny (model X.prog X.w) X.A (.compLoop (.DictComp kx vx [⟨tg, iter, ifs, 0⟩] scope pos) 0 (.ref it) (.ref D) cenv)
      (compPost (model X.prog X.w) X.A X.xe none (EP X pins σ Q) (.ref D) s3.heap.objs.size) s4 := by
    refine compLoop_anyD (fun n s' => ∃ i G, Inv (X.blk s3 G3 scope cenv fp) [] (wipe σ (own.map (·.2))) G s' ∧ tn i s'.heap ∧ (∀ b ∈ fp, G b = none) ∧ W i n G) ?_ m0 ⟨0, G3, I4, at4, off3, start⟩
    intro n s5 h5
    obtain ⟨i, G5, I5, at5, off5, w5⟩ := h5
    rcases turns i n G5 w5 with ⟨stop, last⟩ | ⟨go, Nx, hNx, step⟩
    · -- the walk ends: back in the def
      refine thnF (T.done (X.blk s3 G3 scope cenv fp) rfl rfl rfl hc i [] s5 _ G5 (fun _ _ => False) I5 (static I5 off5) at5 stop) fun r s6 h6 => ?_
      obtain ⟨rfl, I6⟩ := h6
      have back : Inv X pins σ G5 s6 := I3.call' (ch := fp) I6.os I6.base I6.hok I6.bare fun b hb =>
        let z := (far3 b hb).1.2
        ⟨z.2.2.1, z.1, z.2.2.2.1, z.2.2.2.2⟩
      have freeC : G5 s3.heap.objs.size = none := locC ▸ (show G5 cenv.locals = none from I6.free)
      obtain ⟨m, hn, _⟩ := I6.loc
      have hn' : s6.heap.Ns s3.heap.objs.size m := locC ▸ (show s6.heap.Ns cenv.locals m from hn)
      obtain ⟨f0, f1, f2, f3, f4, f5⟩ := I3.fpOk (Nat.le_refl _) freeC
      refine ⟨m, hn', fun h'' sb => ?_⟩
      exact ⟨.ref D, G5, back.turned (t' := s6.toks) (fun b o hb z => (sb.2 b hb).trans z) f0 f1 f3 f4 f5, rfl, last⟩
    · -- one more turn
      refine thnF (T.item (X.blk s3 G3 scope cenv fp) rfl rfl rfl hc i [] s5 _ G5 (fun _ _ => False) I5 (static I5 off5) at5 go) fun r s6 h6 => ?_
      obtain ⟨u, rfl, h6⟩ := h6
      refine thnF h6 fun _ s7 h7 => ?_
      obtain ⟨x, G7, I7, r7, y7, at7, off7⟩ := h7
      have pinned := I7.pinned (static I7 off7) (T.obj _ _ at7)
      refine thnF (rg.run _ s7 _ G7 x u _ pinned r7 (step x G7 y7)) fun _ s8 h8 => ?_
      obtain ⟨σ8, G8, I8, same8, q8⟩ := h8
      have next : ∀ {s' : Shared} {G : Hp}, Inv (X.blk s3 G3 scope cenv fp) ([] ++ pinsAt fp s7.heap) σ8 G s' → Nx G →
          ∃ m, m < n ∧ ∃ i G, Inv (X.blk s3 G3 scope cenv fp) [] (wipe σ (own.map (·.2))) G s' ∧ tn i s'.heap ∧ (∀ b ∈ fp, G b = none) ∧ W i m G := by
        intro s' G J1 nx
        obtain ⟨m', hm, w'⟩ := hNx G nx
        have pin : ∀ b ∈ fp, ∀ o, s7.heap.get? b = some o → s'.heap.get? b = some o ∧ G b = none := fun b hb o z =>
          let y := J1.pin (b, o) (List.mem_append_right _ (List.mem_append_right _ (mem_pinsAt hb z)))
          ⟨y.1, y.2.1⟩
        have len : (wipe σ (own.map (·.2))).length = σ8.length := by rw [← same8, wipe_length]
        refine ⟨m', hm, i + 1, G, (J1.unpinned (pins := [])).weak len ?_, T.keep _ _ _ at7 (fun b hb o z => (pin b hb o z).1), ?_, w'⟩
        · intro j v z
          rw [← same8] at z
          exact (wipe_some z).1
        · intro b hb
          obtain ⟨o, z, _⟩ := T.obj _ _ at7 b hb
          exact (pin b hb o z).2
      refine thnF (rt.run _ s8 σ8 G8 _ I8 q8) fun b s9 h9 => ?_
      obtain ⟨G9, I9, q9⟩ := h9
      cases b with
      | false =>
        simp only [Bool.false_eq_true, if_false] at q9 ⊢
        exact next I9 q9
      | true =>
        simp only [if_true] at q9 ⊢
        refine thnF (rk.run _ s9 σ8 G9 _ I9 q9) fun z s10 h10 => ?_
        obtain ⟨yk, G10, I10, r10, q10⟩ := h10
        refine thnF (re.run _ s10 σ8 G10 _ I10 q10) fun z2 s11 h11 => ?_
        obtain ⟨yv, G11, I11, r11, a, k, kvs, rfl, ha, hD, hz, nx⟩ := h11
        cases r10
        exact put_tuple (X := X.blk s3 G3 scope cenv fp) hu I11 hD ha hz r11 fun s12 I12 => next I12 nx
  exact codeAny_compStart_dict loop (T.self X.A 0 _ _ _ at4 loop)
/-- over a list that stays -/
theorem dcT_list {K : PySem.W.Frag} {a : Addr} {xs : List V} {g : TG} {tt : TT} {tk tv : TE} {vs : List Nat} {σ : L2.St} {H1 : Hp} {D : Addr} {Qd : Hp → Prop}
    (Pv : Nat → Hp → Prop) (h0 : Pv 0 (upd H1 D (.dT []))) (hl : ∀ i H, i ≤ xs.length → Pv i H → SqL K H a xs)
    (hs : ∀ i x H, xs[i]? = some x → Pv i H → turnT D g tt tk tv vs σ (Pv (i + 1)) x H) (hd : ∀ H, Pv xs.length H → Qd H) :
    ∃ W : Nat → Nat → Hp → Prop, (∃ m, W 0 m (upd H1 D (.dT []))) ∧ ∀ i m H, W i m H →
      ((Itl K a).stop i H ∧ Qd H) ∨
      ((Itl K a).go i H ∧ ∃ Nx : Hp → Prop, (∀ H', Nx H' → ∃ m', m' < m ∧ W (i + 1) m' H') ∧ ∀ x H', (Itl K a).yld i H x H' → turnT D g tt tk tv vs σ Nx x H') := by
  refine ⟨fun i m H => m + i = xs.length ∧ Pv i H, ⟨xs.length, rfl, h0⟩, fun i m H w => ?_⟩
  obtain ⟨em, p⟩ := w
  have q := hl i H (by omega) p
  rcases Nat.lt_or_ge i xs.length with hlt | hge
  · refine .inr ⟨⟨xs, xs[i], q, List.getElem?_eq_getElem hlt⟩, Pv (i + 1), fun H' p' => ⟨m - 1, by omega, by omega, p'⟩, fun x H' y => ?_⟩
    obtain ⟨rfl, y⟩ := y
    exact hs i x _ (y xs q) p
  · have ei : i = xs.length := by omega
    subst ei
    exact .inl ⟨⟨xs, q, Nat.le_refl _⟩, hd H p⟩
end
end QmR

/-! The text by places; what a def is to its callers. -/
namespace QmD
open PySem L2 QmR
def top (i : Nat) : Stmt := PySem.Challenge.pw_quiremarks_k02_whole_reflections_and_ren.main.body.getD i (.Pass ⟨0, 0, 0, 0⟩)
/-- a def of the text: where it stands, how its arguments bind -/
structure Dfn (K : PySem.W.Frag) (mg : Str → Option Value) (x : Str) (st : Stmt) (ps : List Str) : Prop where
  ex : ∃ f fd, Fun K x x st f fd ∧ mg x = some (.ref f) ∧ Binds K fd ps []
/-- a def and its promise, for a caller -/
structure Has (P : Program) (w : World) (K : PySem.W.Frag) (mg : Str → Option Value) (base : Heap) (CX : CXT) (k : Nat) (x : Str) (ps : List Str) (sp : Sp) : Prop where
  ex : ∃ f fd, mg x = some (.ref f) ∧ PySem.W.keepIn K (.ref f) = true ∧ Binds K fd ps [] ∧ FnOk P w K mg base CX k f fd ps sp
/-- the built-ins that the text leaves as they are -/
structure Blt (mg : Str → Option Value) : Prop where
  isi : mg "isinstance" = none
  int : mg "int" = none
  bool : mg "bool" = none
  tuple : mg "tuple" = none
  list : mg "list" = none
  str : mg "str" = none
  len : mg "len" = none
  all : mg "all" = none
  range : mg "range" = none
  min : mg "min" = none
  abs : mg "abs" = none
  marks : ∃ t, mg "MOST_MARKS" = some (.int 6 t)
  leaves : ∃ t, mg "MOST_LEAVES" = some (.int 16 t)
section
variable {P : Program} {w : World} {K : PySem.W.Frag} {mg : Str → Option Value} {base : Heap}
theorem Dfn.has {CX : CXT} {k : Nat} {x : Str} {st : Stmt} {ps : List Str} {sp : Sp} (D : Dfn K mg x st ps)
    (h : ∀ f fd, Fun K x x st f fd → FnOk P w K mg base CX k f fd ps sp) : Has P w K mg base CX k x ps sp := by
  obtain ⟨f, fd, F, m, b⟩ := D.ex
  exact ⟨f, fd, m, F.kp, b, h f fd F⟩
theorem Has.mono {CX : CXT} {j k : Nat} {x : Str} {ps : List Str} {sp : Sp} (h : Has P w K mg base CX j x ps sp) (le : j ≤ k) : Has P w K mg base CX k x ps sp := by
  obtain ⟨f, fd, m, kp, b, G⟩ := h.ex
  exact ⟨f, fd, m, kp, b, G.mono le⟩
end
/-! ### is_whole -/
abbrev sWhole : Stmt := top 6
def spWhole : Sp := fun vs H Q _ => ∃ v lo hi : Int, vs = [.int v, .int lo, .int hi] ∧ Q (.bl (decide (lo ≤ v ∧ v ≤ hi))) H
theorem scWhole : FnScope ["value", "low", "high"] ["value", "low", "high"] (defScope sWhole) := ⟨rfl, rfl, rfl, by decide +kernel, rfl, by decide +kernel, by decide +kernel⟩
section
variable {P : Program} {w : World} {K : PySem.W.Frag} {mg : Str → Option Value} {base : Heap}
theorem ok_whole (B : Blt mg) (D : Dfn K mg "is_whole" sWhole ["value", "low", "high"]) : Has P w K mg base CX0 1 "is_whole" ["value", "low", "high"] spWhole := D.has fun f fd F => by
  refine F.ok scWhole (fun vs H Q E h => ?_) (fun cdv A outer s H vs Q E hr h => ?_)
  · obtain ⟨v, lo, hi, rfl, _⟩ := h
    rfl
  · obtain ⟨v, lo, hi, rfl, k⟩ := h
    refine ⟨_, pss_one (ps_ret (pe_and (pe_callB call_isi (by rfl) B.isi (by decide +kernel) (pa_cons (pv 0) (pa_cons (pe_bltn (v := .ty "int") (by rfl) B.int (by decide +kernel) rfl) pa_nil)))
      (pe_and (pe_not (pe_callB call_isi (by rfl) B.isi (by decide +kernel) (pa_cons (pv 0) (pa_cons (pe_bltn (v := .ty "bool") (by rfl) B.bool (by decide +kernel) rfl) pa_nil))))
        (pe_one (pe_chain op_le op_le (pv 1) (pv 0) (pv 2)))))), ?_⟩
    refine ⟨_, rfl, _, _, _, _, true, rfl, .ty _, .base (.int v), kit_ty (by decide +kernel), true, rfl, iteT ?_⟩
    refine ⟨_, rfl, _, _, _, _, false, rfl, .ty _, .base (.int v), kit_ty (by decide +kernel), false, rfl, true, rfl, iteT ?_⟩
    refine ⟨_, rfl, _, rfl, lo, v, rfl, rfl, _, rfl, ?_⟩
    by_cases c : lo ≤ v
    · rw [decide_eq_true c]
      refine iteT ⟨_, rfl, v, hi, rfl, rfl, ?_⟩
      have e : decide (lo ≤ v ∧ v ≤ hi) = decide (v ≤ hi) := by simp [c]
      rw [e] at k
      exact k
    · rw [decide_eq_false c]
      refine iteF ?_
      have e : decide (lo ≤ v ∧ v ≤ hi) = false := by simp [c]
      rw [e] at k
      exact k
end
/-! ### a comprehension's list -/
def Tups (H H' : Hp) : Prop := ∀ a xs, H a = some (.tup xs) → H' a = some (.tup xs)
theorem _root_.L2.Same.tups {H H' : Hp} (h : Same H H') : Tups H H' := fun a xs e => h a _ e
theorem _root_.L2.Same.put {H H' : Hp} {D : Addr} {o : HO} (h : Same H H') (hD : H D = none) : Same H (upd H' D o) := fun b u e => by
  rw [upd_ne (ne_of_none e hD)]
  exact h b u e
theorem _root_.L2.Same.new {H : Hp} {p : Addr} {o : HO} (hp : H p = none) : Same H (upd H p o) := (Same.refl H).put hp
theorem tups_put {H : Hp} {D : Addr} {l l' : List V} (hD : H D = some (.lst l)) : Tups H (upd H D (.lst l')) := fun a xs e => by
  have ne : a ≠ D := ne_of e hD (fun z => nomatch z)
  rw [upd_ne ne]
  exact e
/-- D holds what the turns so far have made, R tells what that is -/
def PvL (H1 : Hp) (D : Addr) (R : Nat → List V → Hp → Prop) (i : Nat) (H : Hp) : Prop := Same H1 H ∧ ∃ l, H D = some (.lst l) ∧ R i l H
def Stays (R : Nat → List V → Hp → Prop) : Prop := (∀ i l H H', Tups H H' → R i l H → R i l H') ∧ ∀ i l H, R i l H → l.length ≤ 100000
theorem PvL.start {H1 : Hp} {D : Addr} {R : Nat → List V → Hp → Prop} (hD : H1 D = none) (st : Stays R) (h : R 0 [] H1) : PvL H1 D R 0 (upd H1 D (.lst [])) :=
  ⟨Same.new hD, [], upd_same, st.1 _ _ _ _ (Same.tups (Same.new hD)) h⟩
theorem PvL.put {H1 H H4 : Hp} {D : Addr} {R : Nat → List V → Hp → Prop} {i : Nat} {l : List V} {y : V} (hD1 : H1 D = none) (st : Stays R) (s1 : Same H1 H) (hD : H D = some (.lst l)) (s4 : Same H H4)
    (h : R (i + 1) (l ++ [y]) H4) : ∃ acc, H4 D = some (.lst acc) ∧ acc.length < sizeLine ∧ PvL H1 D R (i + 1) (upd H4 D (.lst (acc ++ [y]))) := by
  have h4 := s4 _ _ hD
  have hl := st.2 _ _ _ h
  rw [List.length_append, List.length_singleton] at hl
  exact ⟨l, h4, Nat.lt_of_lt_of_le hl (by rw [sizeLine_eq]; decide), (s1.trans s4).put hD1, _, upd_same, st.1 _ _ _ _ (tups_put h4) h⟩
theorem PvL.skip {H1 H H3 : Hp} {D : Addr} {R : Nat → List V → Hp → Prop} {i : Nat} {l : List V} (s1 : Same H1 H) (hD : H D = some (.lst l)) (s3 : Same H H3) (h : R (i + 1) l H3) : PvL H1 D R (i + 1) H3 :=
  ⟨s1.trans s3, l, s3 _ _ hD, h⟩
theorem _root_.L2.Same.sqT {K : PySem.W.Frag} {H H' : Hp} {a : Addr} {xs : List V} (e : Same H H') (h : SqT K H a xs) : SqT K H' a xs := by
  rcases h with (h | ⟨o, h⟩) | h
  · exact .inl (.inl (e _ _ h))
  · exact .inl (.inr ⟨o, e _ _ h⟩)
  · exact .inr h
/-- a list of values that is known beforehand -/
def RKnown (f : Nat → List V) : Nat → List V → Hp → Prop := fun i l _ => l = f i
theorem RKnown.stays {f : Nat → List V} (h : ∀ i, (f i).length ≤ 100000) : Stays (RKnown f) := ⟨fun _ _ _ _ _ h => h, fun i l _ e => by rw [e]; exact h i⟩
end QmD

namespace QmD
open PySem L2 QmR Qm
section
variable {P : Program} {w : World} {K : PySem.W.Frag} {mg : Str → Option Value} {base : Heap}
/-! ### numbers and their places -/
theorem tn_len (r : List Nat) : (tn r).length = r.length := List.length_map ..
theorem tn_at {r : List Nat} {m : Nat} (h : m < r.length) : atI (tn r) (m : Int) = some (V.int ((g r m : Nat) : Int)) := by
  refine atI_nat ?_
  rw [List.getElem?_map, List.getElem?_eq_getElem h, Option.map_some, g_of h]
theorem tn_get {r : List Nat} {i : Nat} {x : V} (h : (tn r)[i]? = some x) : ∃ m, r[i]? = some m ∧ x = .int ((m : Nat) : Int) := by
  rw [List.getElem?_map] at h
  obtain ⟨m, e1, e2⟩ := Option.map_eq_some_iff.mp h
  exact ⟨m, e1, e2.symm⟩
/-- all true -/
def allTrue (i : Nat) : List V := (List.replicate i true).map V.bl
theorem allTrue_succ (i : Nat) : allTrue (i + 1) = allTrue i ++ [.bl true] := by
  unfold allTrue
  rw [List.replicate_succ', List.map_append]
  rfl
theorem all_replicate (i : Nat) : (List.replicate i true).all id = true := by
  rw [List.all_eq_true]
  intro x hx
  rw [(List.mem_replicate.mp hx).2]
  rfl
theorem stays_true {n : Nat} (hn : n ≤ 1000) : Stays (fun i l _ => l = allTrue i ∧ i ≤ n) :=
  ⟨fun _ _ _ _ _ h => h, fun i l _ e => by
    rw [e.1]
    unfold allTrue
    rw [List.length_map, List.length_replicate]
    have := e.2
    omega⟩
def rLen (K : PySem.W.Frag) : List V → Hp → VK → Prop := fun xs H Q => ∃ p ys, xs = [.ref p] ∧ (SqL K H p ys ∨ SqT K H p ys) ∧ Q (.int ys.length) H
theorem callLen {X : Cx} : CallR X (.builtin "len") (rLen X.K) := call_len_seq
theorem yesT {σ : L2.St} {H : Hp} {A B : Hp → Prop} (h : A H) : tYes σ H fun b H3 => if b = true then A H3 else B H3 := iteT (A := A H) (B := B H) h
/-! ### is_paper -/
abbrev sPaper : Stmt := top 7
def spPaper : Sp := fun vs H Q _ => ∃ (a : Addr) (p : List Nat), vs = [.ref a] ∧ H a = some (.tup (tn p)) ∧ Paper p ∧ ∀ H', Same H H' → Q (.bl true) H'
theorem scPaper : FnScope ["value", "mark"] ["value"] (defScope sPaper) := ⟨rfl, rfl, rfl, by decide +kernel, rfl, by decide +kernel, by decide +kernel⟩
theorem ok_paper (B : Blt mg) (D : Dfn K mg "is_paper" sPaper ["value"]) (hW : Has P w K mg base CX0 1 "is_whole" ["value", "low", "high"] spWhole) :
    Has P w K mg base CX0 2 "is_paper" ["value"] spPaper := D.has fun f fd F => by
  obtain ⟨fW, fdW, mW, kW, bW, GW⟩ := hW.ex
  obtain ⟨tM, eM⟩ := B.marks
  refine F.ok scPaper (fun vs H Q E h => ?_) (fun cdv A outer s H vs Q E hr h => ?_)
  · obtain ⟨a, p, rfl, _⟩ := h
    rfl
  · obtain ⟨a, p, rfl, ha, hp, k⟩ := h
    have nd := scPaper.nd
    refine ⟨_, pss_cons (ps_if (PW.pt (pw_or (pt_not (pt_val (pe_callB call_isi (by rfl) B.isi (by decide +kernel) (pa_cons (pv 0) (pa_cons (pe_bltn (v := .ty "tuple") (by rfl) B.tuple (by decide +kernel) rfl) pa_nil)))))
          (pw_or1 (pt_not (pt_chain op_le op_le pe_int (pe_callB (r := rLen K) callLen (by rfl) B.len PySem.boot_len (pa_cons (pv 0) pa_nil)) (pe_glob (v := .int 6) rfl eM ⟨_, rfl⟩))))))
        (pss_one (ps_ret pe_bl)) pss_nil)
      (pss_cons (ps_if (pt_not (pt_val (pe_callB (cr_all rfl) (by rfl) B.all (by decide +kernel) (pa_cons
          (pe_lc (own := [("mark", 1)]) (g := gName 1) (tt := tYes) rfl nd (pi_tup (pv 0)) (blkOk_by (N := ["value", "mark"]) (sc := defScope sPaper) (by decide +kernel))
            (fun _ _ _ _ _ => pg_name (i := 1) nd rfl (Or.inl rfl)) (fun _ _ _ _ _ => pts_nil)
            (fun _ _ _ _ _ => pe_call GW hr rfl mW kW bW .nil pass0 (pa_cons (pv 1) (pa_cons pe_int (pa_cons (pe_op op_sub (pe_callB (r := rLen K) callLen (by rfl) B.len PySem.boot_len (pa_cons (pv 0) pa_nil)) pe_int) pa_nil))))) pa_nil))))
        (pss_one (ps_ret pe_bl)) pss_nil)
      (pss_one (ps_ret (pe_callB (cr_all rfl) (by rfl) B.all (by decide +kernel) (pa_cons
          (pe_lc (own := [("mark", 1)]) (g := gName 1) (tt := tYes) rfl nd (pi_range1 rfl B.range (pa_cons (pe_callB (r := rLen K) callLen (by rfl) B.len PySem.boot_len (pa_cons (pv 0) pa_nil)) pa_nil)) (blkOk_by (N := ["value", "mark"]) (sc := defScope sPaper) (by decide +kernel))
            (fun _ _ _ _ _ => pg_name (i := 1) nd rfl (Or.inl rfl)) (fun _ _ _ _ _ => pts_nil)
            (fun _ _ _ _ _ => pe_cmpR op_eq (pe_ix (r := rIxT K) ix_tup (pv 0) (pe_ix (r := rIxT K) ix_tup (pv 0) (pv 1) (fun _ _ => rfl)) (fun _ _ => rfl)) (pv 1) (nomark _))) pa_nil))))), ?_⟩
    -- the kind and the number of the marks
    refine ⟨_, rfl, _, _, _, _, true, rfl, .ty _, .base (.tup ha), kit_ty (by decide +kernel), true, rfl, iteF ?_⟩
    have h1 : (1 : Int) ≤ ((tn p).length : Int) := by
      have := hp.pos
      rw [tn_len]
      omega
    have h6 : ((tn p).length : Int) ≤ 6 := by
      have := hp.le5
      rw [tn_len]
      omega
    refine ⟨_, rfl, a, _, rfl, .inr (SqT.of ha), _, _, rfl, rfl, _, rfl, ?_⟩
    rw [decide_eq_true h1]
    refine iteT ⟨_, _, rfl, rfl, true, (by show V.bl (decide _) = _; rw [decide_eq_true h6]), iteF ?_⟩
    -- every mark is one of the paper's
    refine ⟨_, rfl, a, rfl, ⟨_, SqT.of ha⟩, fun D hD => ?_⟩
    refine lc_tup (PvL H D fun i l _ => l = allTrue i ∧ i ≤ p.length) (PvL.start hD (stays_true (by have := hp.le5; omega)) ⟨rfl, Nat.zero_le _⟩) (fun i H' _ q => q.1.sqT (SqT.of ha)) ?_ ?_
    · intro i x H' hx q
      obtain ⟨s1, l, hl, el, hi⟩ := q
      obtain ⟨m, hm, rfl⟩ := tn_get hx
      have hmlt : m < p.length := hp.lt m (List.mem_of_getElem? hm)
      have hilt : i < p.length := (List.getElem?_eq_some_iff.mp hm).1
      have ha' := s1 _ _ ha
      refine ⟨rfl, yesT ?_⟩
      refine ⟨_, rfl, _, rfl, a, _, rfl, .inr (SqT.of ha'), _, _, rfl, rfl, _, _, _, rfl, ?_⟩
      rw [decide_eq_true (by rw [tn_len]; omega)]
      exact PvL.put hD (stays_true (by have := hp.le5; omega)) s1 hl (Same.refl _) ⟨by rw [el, allTrue_succ], hilt⟩
    · intro H' q
      obtain ⟨s1, l, hl, el, hi⟩ := q
      refine ⟨D, List.replicate (tn p).length true, rfl, SqL.of (by rw [hl, el]; rfl), true, (by rw [all_replicate]), iteF ?_⟩
      -- each is the counterpart of its counterpart
      have ha' := s1 _ _ ha
      refine ⟨_, rfl, a, _, rfl, .inr (SqT.of ha'), _, rfl, by omega, by omega, fun D2 hD2 => ?_⟩
      have en : (((tn p).length : Nat) : Int).toNat = p.length := by rw [tn_len]; rfl
      rw [en]
      refine lc_range (lo := 0) (PvL H' D2 fun i l _ => l = allTrue i ∧ i ≤ p.length) (PvL.start hD2 (stays_true (by have := hp.le5; omega)) ⟨rfl, Nat.zero_le _⟩) ?_ ?_
      · intro i H2 hi q
        obtain ⟨s2, l2, hl2, el2, hi2⟩ := q
        have ha2 := s2 _ _ ha'
        have ei : (0 : Int) + (i : Int) = ((i : Nat) : Int) := by omega
        rw [ei]
        refine ⟨rfl, yesT ?_⟩
        refine ⟨_, rfl, _, rfl, _, rfl, a, _, _, _, rfl, rfl, SqT.of ha2, tn_at hi, a, _, _, _, rfl, rfl, SqT.of ha2, tn_at (hp.g_lt hi), _, rfl, rfl, ?_⟩
        rw [hp.inv i hi, decide_eq_true rfl]
        exact PvL.put hD2 (stays_true (by have := hp.le5; omega)) s2 hl2 (Same.refl _) ⟨by rw [el2, allTrue_succ], hi⟩
      · intro H2 q
        obtain ⟨s2, l2, hl2, el2, hi2⟩ := q
        refine ⟨D2, List.replicate p.length true, rfl, SqL.of (by rw [hl2, el2]; rfl), ?_⟩
        rw [all_replicate]
        exact k _ (s1.trans s2)
end
end QmD

namespace QmD
open PySem L2 QmR Qm
theorem take_snoc {α : Type} {l : List α} {i : Nat} {x : α} (h : l[i]? = some x) : l.take (i + 1) = l.take i ++ [x] := by
  rw [List.take_add_one, h]
  rfl
theorem tn_snoc (r : List Nat) (m : Nat) : tn (r ++ [m]) = tn r ++ [.int ((m : Nat) : Int)] := by
  unfold tn
  rw [List.map_append]
  rfl
/-- the list so far is the beginning of a known one -/
abbrev RTake (r : List Nat) : Nat → List V → Hp → Prop := fun i l _ => l = tn (r.take i)
theorem RTake.stays {r : List Nat} (h : r.length ≤ 1000) : Stays (RTake r) := ⟨fun _ _ _ _ _ h => h, fun i l _ e => by
  rw [e, tn_len, List.length_take]
  omega⟩
theorem RTake.more {r : List Nat} {i m : Nat} {l : List V} {H : Hp} (hm : r[i]? = some m) {H' : Hp} (h : RTake r i l H) : RTake r (i + 1) (l ++ [.int ((m : Nat) : Int)]) H' := by
  show _ = tn (r.take (i + 1))
  rw [take_snoc hm, tn_snoc, ← (show l = tn (r.take i) from h)]
section
variable {P : Program} {w : World} {K : PySem.W.Frag} {mg : Str → Option Value} {base : Heap}
/-! ### are_marks -/
abbrev sMarks : Stmt := top 8
def spMarks : Sp := fun vs H Q _ => ∃ (a b : Addr) (p s : List Nat), vs = [.ref a, .ref b] ∧ H a = some (.tup (tn p)) ∧ H b = some (.tup (tn s)) ∧ Seq p s ∧ s.length ≤ 16 ∧ ∀ H', Same H H' → Q (.bl true) H'
theorem scMarks : FnScope ["paper", "value", "mark"] ["paper", "value"] (defScope sMarks) := ⟨rfl, rfl, rfl, by decide +kernel, rfl, by decide +kernel, by decide +kernel⟩
theorem ok_marks (B : Blt mg) (D : Dfn K mg "are_marks" sMarks ["paper", "value"]) (hW : Has P w K mg base CX0 1 "is_whole" ["value", "low", "high"] spWhole) :
    Has P w K mg base CX0 2 "are_marks" ["paper", "value"] spMarks := D.has fun f fd F => by
  obtain ⟨fW, fdW, mW, kW, bW, GW⟩ := hW.ex
  refine F.ok scMarks (fun vs H Q E h => ?_) (fun cdv A outer s H vs Q E hr h => ?_)
  · obtain ⟨a, b, p, s, rfl, _⟩ := h
    rfl
  · obtain ⟨a, b, p, s, rfl, ha, hb, hs, hl16, k⟩ := h
    have nd := scMarks.nd
    refine ⟨_, pss_one (ps_ret (pe_and (pe_callB call_isi (by rfl) B.isi (by decide +kernel) (pa_cons (pv 1) (pa_cons (pe_bltn (v := .ty "tuple") (by rfl) B.tuple (by decide +kernel) rfl) pa_nil)))
      (pe_one (pe_callB (cr_all rfl) (by rfl) B.all (by decide +kernel) (pa_cons
          (pe_lc (own := [("mark", 2)]) (g := gName 2) (tt := tYes) rfl nd (pi_tup (pv 1)) (blkOk_by (N := ["paper", "value", "mark"]) (sc := defScope sMarks) (by decide +kernel))
            (fun _ _ _ _ _ => pg_name (i := 2) nd rfl (Or.inl rfl)) (fun _ _ _ _ _ => pts_nil)
            (fun _ _ _ _ _ => pe_call GW hr rfl mW kW bW .nil pass0 (pa_cons (pv 2) (pa_cons pe_int (pa_cons (pe_op op_sub (pe_callB (r := rLen K) callLen (by rfl) B.len PySem.boot_len (pa_cons (pv 0) pa_nil)) pe_int) pa_nil))))) pa_nil))))), ?_⟩
    refine ⟨_, rfl, _, _, _, _, true, rfl, .ty _, .base (.tup hb), kit_ty (by decide +kernel), true, rfl, iteT ?_⟩
    refine ⟨_, rfl, b, rfl, ⟨_, SqT.of hb⟩, fun D hD => ?_⟩
    refine lc_tup (PvL H D fun i l _ => l = allTrue i ∧ i ≤ s.length) (PvL.start hD (stays_true (by omega)) ⟨rfl, Nat.zero_le _⟩) (fun i H' _ q => q.1.sqT (SqT.of hb)) ?_ ?_
    · intro i x H' hx q
      obtain ⟨s1, l, hl, el, hi⟩ := q
      obtain ⟨m, hm, rfl⟩ := tn_get hx
      have hmlt : m < p.length := hs m (List.mem_of_getElem? hm)
      have hilt : i < s.length := (List.getElem?_eq_some_iff.mp hm).1
      have ha' := s1 _ _ ha
      refine ⟨rfl, yesT ?_⟩
      refine ⟨_, rfl, _, rfl, a, _, rfl, .inr (SqT.of ha'), _, _, rfl, rfl, _, _, _, rfl, ?_⟩
      rw [decide_eq_true (by rw [tn_len]; omega)]
      exact PvL.put hD (stays_true (by omega)) s1 hl (Same.refl _) ⟨by rw [el, allTrue_succ], hilt⟩
    · intro H' q
      obtain ⟨s1, l, hl, el, hi⟩ := q
      refine ⟨D, List.replicate (tn s).length true, rfl, SqL.of (by rw [hl, el]; rfl), ?_⟩
      rw [all_replicate]
      exact k _ s1
/-! ### is_sequence -/
abbrev sSeq : Stmt := top 9
theorem scSeq : FnScope ["paper", "value"] ["paper", "value"] (defScope sSeq) := ⟨rfl, rfl, rfl, by decide +kernel, rfl, by decide +kernel, by decide +kernel⟩
theorem ok_seq (B : Blt mg) (D : Dfn K mg "is_sequence" sSeq ["paper", "value"]) (hM : Has P w K mg base CX0 2 "are_marks" ["paper", "value"] spMarks) :
    Has P w K mg base CX0 3 "is_sequence" ["paper", "value"] spMarks := D.has fun f fd F => by
  obtain ⟨fM, fdM, mM, kM, bM, GM⟩ := hM.ex
  obtain ⟨tL, eL⟩ := B.leaves
  refine F.ok scSeq (fun vs H Q E h => ?_) (fun cdv A outer s H vs Q E hr h => ?_)
  · obtain ⟨a, b, p, s, rfl, _⟩ := h
    rfl
  · obtain ⟨a, b, p, s, rfl, ha, hb, hs, hl16, k⟩ := h
    refine ⟨_, pss_one (ps_ret (pe_and (pe_call GM hr rfl mM kM bM .nil pass0 (pa_cons (pv 0) (pa_cons (pv 1) pa_nil)))
      (pe_one (pe_cmpR op_le (pe_callB (r := rLen K) callLen (by rfl) B.len PySem.boot_len (pa_cons (pv 1) pa_nil)) (pe_glob (v := .int 16) rfl eL ⟨_, rfl⟩) (nomark _))))), ?_⟩
    refine ⟨_, rfl, _, rfl, a, b, p, s, rfl, ha, hb, hs, hl16, fun H1 s1 => ⟨true, rfl, iteT ?_⟩⟩
    refine ⟨_, rfl, b, _, rfl, .inr (SqT.of (s1 _ _ hb)), _, _, rfl, rfl, ?_⟩
    have e : decide (((tn s).length : Int) ≤ 16) = true := decide_eq_true (by rw [tn_len]; omega)
    show Q (.bl (decide (((tn s).length : Int) ≤ 16))) H1
    rw [e]
    exact k _ s1
/-! ### check_paper, check_sequence -/
abbrev sChkP : Stmt := top 10
def spChkP : Sp := fun vs H Q _ => ∃ (a : Addr) (p : List Nat), vs = [.ref a] ∧ H a = some (.tup (tn p)) ∧ Paper p ∧ ∀ H', Same H H' → Q .non H'
theorem scChkP : FnScope ["paper"] ["paper"] (defScope sChkP) := ⟨rfl, rfl, rfl, by decide +kernel, rfl, by decide +kernel, by decide +kernel⟩
theorem ok_chkP (D : Dfn K mg "check_paper" sChkP ["paper"]) (hP : Has P w K mg base CX0 2 "is_paper" ["value"] spPaper) : Has P w K mg base CX0 3 "check_paper" ["paper"] spChkP := D.has fun f fd F => by
  obtain ⟨fP, fdP, mP, kP, bP, GP⟩ := hP.ex
  refine F.ok scChkP (fun vs H Q E h => ?_) (fun cdv A outer s H vs Q E hr h => ?_)
  · obtain ⟨a, p, rfl, _⟩ := h
    rfl
  · obtain ⟨a, p, rfl, ha, hp, k⟩ := h
    refine ⟨_, pss_one (ps_if (pt_not (pt_val (pe_call GP hr rfl mP kP bP .nil pass0 (pa_cons (pv 0) pa_nil)))) (pss_one ps_never) pss_nil), ?_⟩
    exact ⟨_, rfl, a, p, rfl, ha, hp, fun H1 s1 => ⟨true, rfl, iteF (k _ s1)⟩⟩
abbrev sChkS : Stmt := top 11
def spChkS : Sp := fun vs H Q _ => ∃ (a b : Addr) (p s : List Nat), vs = [.ref a, .ref b] ∧ H a = some (.tup (tn p)) ∧ H b = some (.tup (tn s)) ∧ Paper p ∧ Seq p s ∧ s.length ≤ 16 ∧ ∀ H', Same H H' → Q .non H'
theorem scChkS : FnScope ["paper", "sequence"] ["paper", "sequence"] (defScope sChkS) := ⟨rfl, rfl, rfl, by decide +kernel, rfl, by decide +kernel, by decide +kernel⟩
theorem ok_chkS (D : Dfn K mg "check_sequence" sChkS ["paper", "sequence"]) (hP : Has P w K mg base CX0 3 "check_paper" ["paper"] spChkP) (hS : Has P w K mg base CX0 3 "is_sequence" ["paper", "value"] spMarks) :
    Has P w K mg base CX0 4 "check_sequence" ["paper", "sequence"] spChkS := D.has fun f fd F => by
  obtain ⟨fP, fdP, mP, kP, bP, GP⟩ := hP.ex
  obtain ⟨fS, fdS, mS, kS, bS, GS⟩ := hS.ex
  refine F.ok scChkS (fun vs H Q E h => ?_) (fun cdv A outer s H vs Q E hr h => ?_)
  · obtain ⟨a, b, p, s, rfl, _⟩ := h
    rfl
  · obtain ⟨a, b, p, s, rfl, ha, hb, hp, hs, hl, k⟩ := h
    refine ⟨_, pss_cons (ps_expr (pe_call GP hr rfl mP kP bP .nil pass0 (pa_cons (pv 0) pa_nil)))
      (pss_one (ps_if (pt_not (pt_val (pe_call GS hr rfl mS kS bS .nil pass0 (pa_cons (pv 0) (pa_cons (pv 1) pa_nil))))) (pss_one ps_never) pss_nil)), ?_⟩
    refine ⟨_, rfl, a, p, rfl, ha, hp, fun H1 s1 => ?_⟩
    exact ⟨_, rfl, _, rfl, a, b, p, s, rfl, s1 _ _ ha, s1 _ _ hb, hs, hl, fun H2 s2 => ⟨true, rfl, iteF (k _ (s1.trans s2))⟩⟩
/-! ### reflected_of, reflected -/
abbrev sReflO : Stmt := top 12
def spRefl : Sp := fun vs H Q _ => ∃ (a b : Addr) (p s : List Nat), vs = [.ref a, .ref b] ∧ H a = some (.tup (tn p)) ∧ H b = some (.tup (tn s)) ∧ Paper p ∧ Seq p s ∧ s.length ≤ 16 ∧
  ∀ (H' : Hp) (q : Addr), Same H H' → H' q = some (.tup (tn (refl p s))) → Q (.ref q) H'
theorem scReflO : FnScope ["paper", "sequence", "mark"] ["paper", "sequence"] (defScope sReflO) := ⟨rfl, rfl, rfl, by decide +kernel, rfl, by decide +kernel, by decide +kernel⟩
theorem ok_reflO (B : Blt mg) (D : Dfn K mg "reflected_of" sReflO ["paper", "sequence"]) : Has P w K mg base CX0 1 "reflected_of" ["paper", "sequence"] spRefl := D.has fun f fd F => by
  refine F.ok scReflO (fun vs H Q E h => ?_) (fun cdv A outer s H vs Q E hr h => ?_)
  · obtain ⟨a, b, p, s, rfl, _⟩ := h
    rfl
  · obtain ⟨a, b, p, s, rfl, ha, hb, hp, hs, hl, k⟩ := h
    have nd := scReflO.nd
    refine ⟨_, pss_one (ps_ret (pe_callTy call_tuple_of (by rfl) B.tuple (by decide +kernel) (pa_cons
          (pe_lc (own := [("mark", 2)]) (g := gName 2) (tt := tYes) rfl nd (pi_tup (pe_backT (pv 1))) (blkOk_by (N := ["paper", "sequence", "mark"]) (sc := defScope sReflO) (by decide +kernel))
            (fun _ _ _ _ _ => pg_name (i := 2) nd rfl (Or.inl rfl)) (fun _ _ _ _ _ => pts_nil)
            (fun _ _ _ _ _ => pe_ix (r := rIxT K) ix_tup (pv 0) (pv 2) (fun _ _ => rfl))) pa_nil))), ?_⟩
    refine ⟨_, rfl, b, _, rfl, SqT.of hb, fun c hc => ?_⟩
    have er : (tn s).reverse = tn s.reverse := by unfold tn; rw [List.map_reverse]
    rw [er]
    have s0 : Same H (upd H c (.tup (tn s.reverse))) := Same.new hc
    refine ⟨c, rfl, ⟨_, SqT.of upd_same⟩, fun D hD => ?_⟩
    have len : (refl p s).length = s.length := by unfold refl; rw [List.length_map, List.length_reverse]
    refine lc_tup (xs := tn s.reverse) (PvL _ D (RTake (refl p s))) (PvL.start hD (RTake.stays (by omega)) rfl) (fun i H' _ q => q.1.sqT (SqT.of upd_same)) ?_ ?_
    · intro i x H' hx q
      obtain ⟨s1, l, hl, el⟩ := q
      obtain ⟨m, hm, rfl⟩ := tn_get hx
      have hmlt : m < p.length := hs m (List.mem_reverse.mp (List.mem_of_getElem? hm))
      have ha' := (s0.trans s1) _ _ ha
      refine ⟨rfl, yesT ?_⟩
      refine ⟨_, rfl, _, rfl, a, _, _, _, rfl, rfl, SqT.of ha', tn_at hmlt, ?_⟩
      have hg : (refl p s)[i]? = some (g p m) := by unfold refl; rw [List.getElem?_map, hm]; rfl
      exact PvL.put hD (RTake.stays (by omega)) s1 hl (Same.refl _) (RTake.more (H := H') hg el)
    · intro H' q
      obtain ⟨s1, l, hl, el⟩ := q
      have el' : l = tn (refl p s) := by
        rw [el, List.take_of_length_le]
        rw [len, tn_len, List.length_reverse]
        exact Nat.le_refl _
      refine ⟨D, l, rfl, .inl ⟨SqL.of hl, fun q hq => ?_⟩⟩
      rw [el']
      exact k _ _ ((s0.trans s1).put (s0.trans s1 |>.free hq)) upd_same
abbrev sRefl : Stmt := top 13
theorem scRefl : FnScope ["paper", "sequence"] ["paper", "sequence"] (defScope sRefl) := ⟨rfl, rfl, rfl, by decide +kernel, rfl, by decide +kernel, by decide +kernel⟩
theorem ok_refl (D : Dfn K mg "reflected" sRefl ["paper", "sequence"]) (hS : Has P w K mg base CX0 4 "check_sequence" ["paper", "sequence"] spChkS) (hR : Has P w K mg base CX0 1 "reflected_of" ["paper", "sequence"] spRefl) :
    Has P w K mg base CX0 5 "reflected" ["paper", "sequence"] spRefl := D.has fun f fd F => by
  obtain ⟨fS, fdS, mS, kS, bS, GS⟩ := hS.ex
  obtain ⟨fR, fdR, mR, kR, bR, GR⟩ := hR.ex
  refine F.ok scRefl (fun vs H Q E h => ?_) (fun cdv A outer s H vs Q E hr h => ?_)
  · obtain ⟨a, b, p, s, rfl, _⟩ := h
    rfl
  · obtain ⟨a, b, p, s, rfl, ha, hb, hp, hs, hl, k⟩ := h
    have hr1 : Room 1 _ := hr.mono (by decide)
    refine ⟨_, pss_cons (ps_expr (pe_call GS hr rfl mS kS bS .nil pass0 (pa_cons (pv 0) (pa_cons (pv 1) pa_nil))))
      (pss_one (ps_ret (pe_call GR hr1 rfl mR kR bR .nil pass0 (pa_cons (pv 0) (pa_cons (pv 1) pa_nil))))), ?_⟩
    refine ⟨_, rfl, _, rfl, a, b, p, s, rfl, ha, hb, hp, hs, hl, fun H1 s1 => ?_⟩
    exact ⟨_, rfl, _, rfl, a, b, p, s, rfl, s1 _ _ ha, s1 _ _ hb, hp, hs, hl, fun H2 q s2 hq => k _ _ (s1.trans s2) hq⟩
end
end QmD

namespace QmD
open PySem L2 QmR Qm
theorem filter_range_succ (f : Nat → Bool) (i : Nat) : (List.range (i + 1)).filter f = (List.range i).filter f ++ if f i = true then [i] else [] := by
  rw [List.range_succ, List.filter_append, List.filter_cons]
  rfl
theorem filter_range_len (f : Nat → Bool) (i : Nat) : ((List.range i).filter f).length ≤ i := by
  have := List.length_filter_le f (List.range i)
  rw [List.length_range] at this
  exact this
theorem rows_tups {H H' : Hp} {as : List Addr} {rows : List (List Nat)} (t : Tups H H') (h : RowsAt H as rows) : RowsAt H' as rows := Paired.mapP h fun a r e => t a _ e
theorem rows_same {H H' : Hp} {as : List Addr} {rows : List (List Nat)} (t : Same H H') (h : RowsAt H as rows) : RowsAt H' as rows := rows_tups t.tups h
/-- the pairs of counterparts, as rows -/
def pairRows (p : List Nat) : List (List Nat) := (pairsM p).map fun m => [m, g p m]
section
variable {P : Program} {w : World} {K : PySem.W.Frag} {mg : Str → Option Value} {base : Heap}
/-! ### own_marks -/
abbrev sOwn : Stmt := top 14
def spOwn : Sp := fun vs H Q _ => ∃ (a : Addr) (p : List Nat), vs = [.ref a] ∧ H a = some (.tup (tn p)) ∧ Paper p ∧ ∀ (H' : Hp) (q : Addr), Same H H' → H' q = some (.tup (tn (ownM p))) → Q (.ref q) H'
theorem scOwn : FnScope ["paper", "mark"] ["paper"] (defScope sOwn) := ⟨rfl, rfl, rfl, by decide +kernel, rfl, by decide +kernel, by decide +kernel⟩
theorem ok_own (B : Blt mg) (D : Dfn K mg "own_marks" sOwn ["paper"]) (hC : Has P w K mg base CX0 3 "check_paper" ["paper"] spChkP) : Has P w K mg base CX0 4 "own_marks" ["paper"] spOwn := D.has fun f fd F => by
  obtain ⟨fC, fdC, mC, kC, bC, GC⟩ := hC.ex
  refine F.ok scOwn (fun vs H Q E h => ?_) (fun cdv A outer s H vs Q E hr h => ?_)
  · obtain ⟨a, p, rfl, _⟩ := h
    rfl
  · obtain ⟨a, p, rfl, ha, hp, k⟩ := h
    have nd := scOwn.nd
    refine ⟨_, pss_cons (ps_expr (pe_call GC hr rfl mC kC bC .nil pass0 (pa_cons (pv 0) pa_nil)))
      (pss_one (ps_ret (pe_callTy call_tuple_of (by rfl) B.tuple (by decide +kernel) (pa_cons
          (pe_lc (own := [("mark", 1)]) (g := gName 1) (tt := tTest (tOp rEq (tOp (rIxT K) (tVar 0) (tVar 1)) (tVar 1))) rfl nd
            (pi_range1 rfl B.range (pa_cons (pe_callB (r := rLen K) callLen (by rfl) B.len PySem.boot_len (pa_cons (pv 0) pa_nil)) pa_nil)) (blkOk_by (N := ["paper", "mark"]) (sc := defScope sOwn) (by decide +kernel))
            (fun _ _ _ _ _ => pg_name (i := 1) nd rfl (Or.inl rfl)) (fun _ _ _ _ _ => pts_one (pt_cmpR op_eq (pe_ix (r := rIxT K) ix_tup (pv 0) (pv 1) (fun _ _ => rfl)) (pv 1) (nomark _)))
            (fun _ _ _ _ _ => pv 1)) pa_nil)))), ?_⟩
    refine ⟨_, rfl, a, p, rfl, ha, hp, fun H1 s0 => ?_⟩
    have ha1 := s0 _ _ ha
    have h5 := hp.le5
    refine ⟨_, rfl, a, _, rfl, .inr (SqT.of ha1), _, rfl, by rw [tn_len]; omega, by rw [tn_len]; omega, fun D hD => ?_⟩
    have en : (((tn p).length : Nat) : Int).toNat = p.length := by rw [tn_len]; rfl
    rw [en]
    have st : Stays (fun i l (_ : Hp) => l = tn ((List.range i).filter fun m => g p m == m) ∧ i ≤ p.length) := ⟨fun _ _ _ _ _ h => h, fun i l _ e => by
      rw [e.1, tn_len]
      have := filter_range_len (fun m => g p m == m) i
      have := e.2
      omega⟩
    refine lc_range (lo := 0) (PvL H1 D _) (PvL.start hD st ⟨rfl, Nat.zero_le _⟩) ?_ ?_
    · intro i H2 hi q
      obtain ⟨s2, l, hl, el, hi2⟩ := q
      have ei : (0 : Int) + (i : Int) = ((i : Nat) : Int) := by omega
      rw [ei]
      have ha2 := s2 _ _ ha1
      refine ⟨rfl, _, rfl, _, rfl, a, _, _, _, rfl, rfl, SqT.of ha2, tn_at hi, _, rfl, rfl, _, rfl, ?_⟩
      have fs := filter_range_succ (fun m => g p m == m) i
      by_cases c : g p i = i
      · have cb : (g p i == i) = true := beq_iff_eq.mpr c
        rw [decide_eq_true (by rw [c])]
        refine iteT ⟨_, rfl, ?_⟩
        refine PvL.put hD st s2 hl (Same.refl _) ⟨?_, hi⟩
        rw [fs]
        simp only [cb, if_true]
        rw [tn_snoc, el]
      · have cb : (g p i == i) = false := beq_eq_false_iff_ne.mpr c
        rw [decide_eq_false (fun e => c (Int.ofNat_inj.mp (V.int.inj e)))]
        refine iteF ?_
        refine PvL.skip s2 hl (Same.refl _) ⟨?_, hi⟩
        rw [fs]
        simp only [cb, Bool.false_eq_true, if_false, List.append_nil]
        exact el
    · intro H2 q
      obtain ⟨s2, l, hl, el, _⟩ := q
      refine ⟨D, l, rfl, .inl ⟨SqL.of hl, fun q hq => ?_⟩⟩
      rw [el]
      exact k _ _ ((s0.trans s2).put ((s0.trans s2).free hq)) upd_same
/-! ### mark_pairs -/
abbrev sPairs : Stmt := top 15
def spPairs : Sp := fun vs H Q _ => ∃ (a : Addr) (p : List Nat), vs = [.ref a] ∧ H a = some (.tup (tn p)) ∧ Paper p ∧
  ∀ (H' : Hp) (q : Addr) (as : List Addr), Same H H' → H' q = some (.tup (as.map V.ref)) → RowsAt H' as (pairRows p) → Q (.ref q) H'
theorem scPairs : FnScope ["paper", "mark"] ["paper"] (defScope sPairs) := ⟨rfl, rfl, rfl, by decide +kernel, rfl, by decide +kernel, by decide +kernel⟩
/-- a list of the addresses of rows -/
abbrev RRows (n : Nat) (rows : Nat → List (List Nat)) : Nat → List V → Hp → Prop := fun i l H => i ≤ n ∧ ∃ as : List Addr, l = as.map V.ref ∧ RowsAt H as (rows i)
theorem RRows.stays {n : Nat} {rows : Nat → List (List Nat)} (h : ∀ i, i ≤ n → (rows i).length ≤ 100000) : Stays (RRows n rows) :=
  ⟨fun i l H H' t ⟨hi, as, e, r⟩ => ⟨hi, as, e, rows_tups t r⟩, fun i l H ⟨hi, as, e, r⟩ => by
    rw [e, List.length_map, r.length]
    exact h i hi⟩
theorem RRows.more {n : Nat} {rows : Nat → List (List Nat)} {i : Nat} {l : List V} {H H' : Hp} {a : Addr} {row : List Nat} (h : RRows n rows i l H) (hi : i < n) (s : Same H H') (ha : H' a = some (.tup (tn row)))
    (e : rows (i + 1) = rows i ++ [row]) : RRows n rows (i + 1) (l ++ [.ref a]) H' := by
  obtain ⟨_, as, el, r⟩ := h
  refine ⟨hi, as ++ [a], by rw [el, List.map_append]; rfl, ?_⟩
  rw [e]
  exact Paired.snoc (rows_same s r) ha
theorem ok_pairs (B : Blt mg) (D : Dfn K mg "mark_pairs" sPairs ["paper"]) (hC : Has P w K mg base CX0 3 "check_paper" ["paper"] spChkP) : Has P w K mg base CX0 4 "mark_pairs" ["paper"] spPairs := D.has fun f fd F => by
  obtain ⟨fC, fdC, mC, kC, bC, GC⟩ := hC.ex
  refine F.ok scPairs (fun vs H Q E h => ?_) (fun cdv A outer s H vs Q E hr h => ?_)
  · obtain ⟨a, p, rfl, _⟩ := h
    rfl
  · obtain ⟨a, p, rfl, ha, hp, k⟩ := h
    have nd := scPairs.nd
    refine ⟨_, pss_cons (ps_expr (pe_call GC hr rfl mC kC bC .nil pass0 (pa_cons (pv 0) pa_nil)))
      (pss_one (ps_ret (pe_callTy call_tuple_of (by rfl) B.tuple (by decide +kernel) (pa_cons
          (pe_lc (own := [("mark", 1)]) (g := gName 1) (tt := tTest (tOp (rI0 fun i j => .bl (decide (i < j))) (tVar 1) (tOp (rIxT K) (tVar 0) (tVar 1)))) rfl nd
            (pi_range1 rfl B.range (pa_cons (pe_callB (r := rLen K) callLen (by rfl) B.len PySem.boot_len (pa_cons (pv 0) pa_nil)) pa_nil)) (blkOk_by (N := ["paper", "mark"]) (sc := defScope sPairs) (by decide +kernel))
            (fun _ _ _ _ _ => pg_name (i := 1) nd rfl (Or.inl rfl)) (fun _ _ _ _ _ => pts_one (pt_cmpR op_lt (pv 1) (pe_ix (r := rIxT K) ix_tup (pv 0) (pv 1) (fun _ _ => rfl)) (nomark _)))
            (fun _ _ _ _ _ => pe_tup (pa_cons (pv 1) (pa_cons (pe_ix (r := rIxT K) ix_tup (pv 0) (pv 1) (fun _ _ => rfl)) pa_nil)))) pa_nil)))), ?_⟩
    refine ⟨_, rfl, a, p, rfl, ha, hp, fun H1 s0 => ?_⟩
    have ha1 := s0 _ _ ha
    have h5 := hp.le5
    refine ⟨_, rfl, a, _, rfl, .inr (SqT.of ha1), _, rfl, by rw [tn_len]; omega, by rw [tn_len]; omega, fun D hD => ?_⟩
    have en : (((tn p).length : Nat) : Int).toNat = p.length := by rw [tn_len]; rfl
    rw [en]
    have st : Stays (RRows p.length fun i => ((List.range i).filter fun m => decide (m < g p m)).map fun m => [m, g p m]) := RRows.stays fun i hi => by
      rw [List.length_map]
      have := filter_range_len (fun m => decide (m < g p m)) i
      omega
    refine lc_range (lo := 0) (PvL H1 D _) (PvL.start hD st ⟨Nat.zero_le _, [], rfl, .nil⟩) ?_ ?_
    · intro i H2 hi q
      obtain ⟨s2, l, hl, hR⟩ := q
      have ei : (0 : Int) + (i : Int) = ((i : Nat) : Int) := by omega
      rw [ei]
      have ha2 := s2 _ _ ha1
      refine ⟨rfl, _, rfl, _, rfl, _, rfl, a, _, _, _, rfl, rfl, SqT.of ha2, tn_at hi, _, _, rfl, rfl, _, rfl, ?_⟩
      have fs := filter_range_succ (fun m => decide (m < g p m)) i
      by_cases c : i < g p i
      · have cb : decide (i < g p i) = true := decide_eq_true c
        rw [decide_eq_true (by omega)]
        refine iteT ⟨_, rfl, _, rfl, _, rfl, a, _, _, _, rfl, rfl, SqT.of ha2, tn_at hi, by show 2 ≤ sizeLine; rw [sizeLine_eq]; decide, fun t ht => ?_⟩
        refine PvL.put hD st s2 hl (Same.new ht) (hR.more hi (Same.new ht) (row := [i, g p i]) upd_same ?_)
        rw [fs, List.map_append]
        simp only [cb, if_true, List.map_cons, List.map_nil]
      · have cb : decide (i < g p i) = false := decide_eq_false c
        rw [decide_eq_false (by omega)]
        refine iteF (PvL.skip s2 hl (Same.refl _) ?_)
        obtain ⟨_, as, el, r⟩ := hR
        refine ⟨hi, as, el, ?_⟩
        dsimp only
        rw [fs, List.map_append]
        simp only [cb, Bool.false_eq_true, if_false, List.map_nil, List.append_nil]
        exact r
    · intro H2 q
      obtain ⟨s2, l, hl, _, as, el, r⟩ := q
      refine ⟨D, l, rfl, .inl ⟨SqL.of hl, fun q hq => ?_⟩⟩
      have sq : Same H2 (upd H2 q (.tup l)) := Same.new hq
      exact k _ _ as ((s0.trans s2).trans sq) (by rw [upd_same, el]) (rows_same sq r)
/-! ### renamed_by -/
abbrev sRby : Stmt := top 21
def spRby : Sp := fun vs H Q _ => ∃ (b r : Addr) (s row : List Nat), vs = [.ref b, .ref r] ∧ H b = some (.tup (tn s)) ∧ H r = some (.tup (tn row)) ∧ (∀ m ∈ s, m < row.length) ∧ s.length ≤ 16 ∧
  ∀ (H' : Hp) (q : Addr), Same H H' → H' q = some (.tup (tn (ren row s))) → Q (.ref q) H'
theorem scRby : FnScope ["sequence", "names", "mark"] ["sequence", "names"] (defScope sRby) := ⟨rfl, rfl, rfl, by decide +kernel, rfl, by decide +kernel, by decide +kernel⟩
theorem ok_rby (B : Blt mg) (D : Dfn K mg "renamed_by" sRby ["sequence", "names"]) : Has P w K mg base CX0 1 "renamed_by" ["sequence", "names"] spRby := D.has fun f fd F => by
  refine F.ok scRby (fun vs H Q E h => ?_) (fun cdv A outer s H vs Q E hr h => ?_)
  · obtain ⟨a, b, p, s, rfl, _⟩ := h
    rfl
  · obtain ⟨b, r, s, row, rfl, hb, hrow, hs, hl16, k⟩ := h
    have nd := scRby.nd
    refine ⟨_, pss_one (ps_ret (pe_callTy call_tuple_of (by rfl) B.tuple (by decide +kernel) (pa_cons
          (pe_lc (own := [("mark", 2)]) (g := gName 2) (tt := tYes) rfl nd (pi_tup (pv 0)) (blkOk_by (N := ["sequence", "names", "mark"]) (sc := defScope sRby) (by decide +kernel))
            (fun _ _ _ _ _ => pg_name (i := 2) nd rfl (Or.inl rfl)) (fun _ _ _ _ _ => pts_nil)
            (fun _ _ _ _ _ => pe_ix (r := rIxT K) ix_tup (pv 1) (pv 2) (fun _ _ => rfl))) pa_nil))), ?_⟩
    refine ⟨_, rfl, b, rfl, ⟨_, SqT.of hb⟩, fun D hD => ?_⟩
    have len : (ren row s).length = s.length := by unfold ren; rw [List.length_map]
    refine lc_tup (xs := tn s) (PvL _ D (RTake (ren row s))) (PvL.start hD (RTake.stays (by omega)) rfl) (fun i H' _ q => q.1.sqT (SqT.of hb)) ?_ ?_
    · intro i x H' hx q
      obtain ⟨s1, l, hl, el⟩ := q
      obtain ⟨m, hm, rfl⟩ := tn_get hx
      have hmlt : m < row.length := hs m (List.mem_of_getElem? hm)
      refine ⟨rfl, yesT ?_⟩
      refine ⟨_, rfl, _, rfl, r, _, _, _, rfl, rfl, SqT.of (s1 _ _ hrow), tn_at hmlt, ?_⟩
      have hg : (ren row s)[i]? = some (g row m) := by unfold ren; rw [List.getElem?_map, hm]; rfl
      exact PvL.put hD (RTake.stays (by omega)) s1 hl (Same.refl _) (RTake.more (H := H') hg el)
    · intro H' q
      obtain ⟨s1, l, hl, el⟩ := q
      have el' : l = tn (ren row s) := by
        rw [el, List.take_of_length_le]
        rw [len, tn_len]
        exact Nat.le_refl _
      refine ⟨D, l, rfl, .inl ⟨SqL.of hl, fun q hq => ?_⟩⟩
      rw [el']
      exact k _ _ (s1.put (s1.free hq)) upd_same
end
end QmD

namespace QmD
open PySem L2 QmR Qm
theorem inV_tn (m : Nat) : ∀ r : List Nat, inV (.int ((m : Nat) : Int)) (tn r) = r.contains m
  | [] => rfl
  | x :: r => by
    have ih := inV_tn m r
    show (eqV (.int ((x : Nat) : Int)) (.int ((m : Nat) : Int)) || inV (.int ((m : Nat) : Int)) (tn r)) = _
    rw [ih, List.contains_cons]
    congr 1
    show ((x : Int) == (m : Int)) = (m == x)
    rw [Bool.eq_iff_iff, beq_iff_eq, beq_iff_eq]
    omega
theorem flat_tn : ∀ r : List Nat, (tn r).all flatV = true
  | [] => rfl
  | x :: r => flat_tn r
theorem cut_tn (r : List Nat) (k : Nat) (h : k ≤ r.length) : cutV (tn r) none (some (k : Int)) = tn (r.take k) := by
  unfold cutV
  rw [HT.sIx_none, HT.sIx_nat, tn_len, List.drop_zero, Nat.min_eq_left h, Nat.sub_zero]
  unfold tn
  rw [List.map_take]
/-! ### the rows that are made -/
theorem mem_renLoop (p : List Nat) : ∀ (k : Nat) (r : List Nat), r ∈ renLoop p k → r.length = k ∧ ∀ m ∈ r, m < p.length
  | 0, r, h => by
    have e : r = [] := by simpa [renLoop] using h
    subst e
    exact ⟨rfl, fun m hm => by cases hm⟩
  | k + 1, r, h => by
    obtain ⟨q, hq, hr⟩ := List.mem_flatMap.mp (show r ∈ (renLoop p k).flatMap (extR1 p) from h)
    obtain ⟨h1, h2⟩ := mem_renLoop p k q hq
    obtain ⟨hr1, _⟩ := List.mem_filter.mp hr
    obtain ⟨m, hm, rfl⟩ := List.mem_map.mp hr1
    refine ⟨by simp [h1], fun x hx => ?_⟩
    rcases List.mem_append.mp hx with hx | hx
    · exact h2 x hx
    · have e : x = m := by simpa using hx
      rw [e]
      exact List.mem_range.mp hm
theorem extR1_len (p r : List Nat) : (extR1 p r).length ≤ p.length := by
  unfold extR1
  have := List.length_filter_le (keepsM p) ((List.range p.length).map fun m => r ++ [m])
  rw [List.length_map, List.length_range] at this
  exact this
theorem extR_len (p : List Nat) : ∀ rows : List (List Nat), (extR p rows).length ≤ rows.length * p.length
  | [] => by simp [extR]
  | r :: rows => by
    have h1 := extR1_len p r
    have h2 := extR_len p rows
    have e : extR p (r :: rows) = extR1 p r ++ extR p rows := rfl
    rw [e, List.length_append, List.length_cons, Nat.succ_mul]
    omega
theorem renLoop_len {p : List Nat} (h : p.length ≤ 5) : ∀ k, (renLoop p k).length ≤ 5 ^ k
  | 0 => by simp [renLoop]
  | k + 1 => by
    have h1 := renLoop_len h k
    have h2 := extR_len p (renLoop p k)
    have h3 : (renLoop p k).length * p.length ≤ 5 ^ k * 5 := Nat.mul_le_mul h1 h
    rw [Nat.pow_succ]
    exact Nat.le_trans h2 h3
theorem renLoop_small {p : List Nat} (h : p.length ≤ 5) {k : Nat} (hk : k ≤ p.length) : (renLoop p k).length ≤ 3125 :=
  Nat.le_trans (renLoop_len h k) (Nat.pow_le_pow_right (by decide) (Nat.le_trans hk h))
theorem extR_snoc {p : List Nat} {rows : List (List Nat)} {j : Nat} {r : List Nat} (h : rows[j]? = some r) : extR p (rows.take (j + 1)) = extR p (rows.take j) ++ extR1 p r := by
  rw [take_snoc h]
  unfold extR
  rw [List.flatMap_append]
  simp
theorem extR_take_len {p : List Nat} (h : p.length ≤ 5) {k j : Nat} (hk : k ≤ p.length) : (extR p ((renLoop p k).take j)).length ≤ 20000 := by
  have h1 := extR_len p ((renLoop p k).take j)
  have h2 := renLoop_small h hk
  have h3 : ((renLoop p k).take j).length ≤ 3125 := by
    rw [List.length_take]
    omega
  have h4 := Nat.mul_le_mul h3 h
  omega
theorem rows_len_as {H : Hp} {as : List Addr} {rows : List (List Nat)} (h : RowsAt H as rows) : as.length = rows.length := Paired.length h
theorem rows_app {H : Hp} : ∀ {as bs : List Addr} {r1 r2 : List (List Nat)}, RowsAt H as r1 → RowsAt H bs r2 → RowsAt H (as ++ bs) (r1 ++ r2)
  | _, _, _, _, .nil, h => h
  | _, _, _, _, .cons h t, s => .cons h (rows_app t s)
theorem rows_at {H : Hp} {as : List Addr} {rows : List (List Nat)} (h : RowsAt H as rows) {i : Nat} {x : V} (hx : (as.map V.ref)[i]? = some x) :
    ∃ a r, x = .ref a ∧ as[i]? = some a ∧ rows[i]? = some r ∧ H a = some (.tup (tn r)) := by
  rw [List.getElem?_map] at hx
  obtain ⟨a, h1, h2⟩ := Option.map_eq_some_iff.mp hx
  obtain ⟨r, h3, h4⟩ := rows_get h h1
  exact ⟨a, r, h2.symm, h1, h3, h4⟩
/-- row + (mark,) -/
theorem cat_row {K : PySem.W.Frag} {H : Hp} {a t : Addr} {r : List Nat} {m : Nat} {Q : VK} (ha : H a = some (.tup (tn r))) (ht : H t = some (.tup (tn [m]))) (hl : r.length ≤ 1000)
    (k : ∀ (H' : Hp) (q : Addr), Same H H' → H' q = some (.tup (tn (r ++ [m]))) → Q (.ref q) H') : rCatA K (.ref a) (.ref t) H Q := by
  refine ⟨a, t, _, _, rfl, rfl, SqT.of ha, SqT.of ht, ?_, fun e => ?_, fun _ e => ?_, fun _ _ q hq => ?_⟩
  · rw [tn_len, tn_len, sizeLine_eq]
    show r.length + 1 ≤ _
    omega
  · have er : r = [] := by
      cases r with
      | nil => rfl
      | cons _ _ => cases e
    subst er
    exact k H t (Same.refl _) ht
  · cases e
  · refine k _ q (Same.new hq) ?_
    rw [upd_same]
    unfold tn
    rw [List.map_append]
section
variable {P : Program} {w : World} {K : PySem.W.Frag} {mg : Str → Option Value} {base : Heap}
/-! ### keeps -/
abbrev sKeeps : Stmt := top 17
def spKeeps : Sp := fun vs H Q _ => ∃ (a b : Addr) (p r : List Nat), vs = [.ref a, .ref b] ∧ H a = some (.tup (tn p)) ∧ H b = some (.tup (tn r)) ∧ Paper p ∧ 1 ≤ r.length ∧ r.length ≤ p.length ∧ (∀ m ∈ r, m < p.length) ∧
  ∀ H', Same H H' → Q (.bl (keepsM p r)) H'
theorem scKeeps : FnScope ["paper", "names", "last", "other"] ["paper", "names"] (defScope sKeeps) := ⟨rfl, rfl, rfl, by decide +kernel, rfl, by decide +kernel, by decide +kernel⟩
theorem ok_keeps (B : Blt mg) (D : Dfn K mg "keeps" sKeeps ["paper", "names"]) : Has P w K mg base CX0 1 "keeps" ["paper", "names"] spKeeps := D.has fun f fd F => by
  refine F.ok scKeeps (fun vs H Q E h => ?_) (fun cdv A outer s H vs Q E hr h => ?_)
  · obtain ⟨a, b, p, r, rfl, _⟩ := h
    rfl
  · obtain ⟨a, b, p, r, rfl, ha, hb, hp, h1, hle, hm, k⟩ := h
    have nd := scKeeps.nd
    refine ⟨_, pss_cons (ps_set (i := 2) nd rfl (Or.inl rfl) (pe_op op_sub (pe_callB (r := rLen K) callLen (by rfl) B.len PySem.boot_len (pa_cons (pv 1) pa_nil)) pe_int))
      (pss_cons (ps_if (pt_cmpR op_in_seq (pe_ix ix_tup (pv 1) (pv 2) (fun _ _ => rfl)) (pe_slice sl_tupA (pv 1) po_none (po_some (pv 2))) (by rfl)) (pss_one (ps_ret pe_bl)) pss_nil)
      (pss_cons (ps_set (i := 3) nd rfl (Or.inl rfl) (pe_ix ix_tup (pv 0) (pv 2) (fun _ _ => rfl)))
      (pss_one (ps_ret (pe_or (pe_cmpR op_gt (pv 3) (pv 2) (nomark _))
        (pe_one (pe_cmpR op_eq (pe_ix ix_tup (pv 0) (pe_ix ix_tup (pv 1) (pv 2) (fun _ _ => rfl)) (fun _ _ => rfl)) (pe_ix ix_tup (pv 1) (pv 3) (fun _ _ => rfl)) (nomark _)))))))), ?_⟩
    refine ⟨_, rfl, b, _, rfl, .inr (SqT.of hb), _, _, rfl, rfl, ?_⟩
    have el : (((tn r).length : Nat) : Int) - 1 = ((r.length - 1 : Nat) : Int) := by rw [tn_len]; omega
    dsimp only
    rw [el]
    have hlt : r.length - 1 < r.length := by omega
    have hlp : r.length - 1 < p.length := by omega
    have hgl : g r (r.length - 1) < p.length := by
      rw [g_of hlt]
      exact hm _ (List.getElem_mem _)
    refine ⟨_, rfl, _, rfl, b, _, _, _, rfl, rfl, SqT.of hb, tn_at hlt, _, rfl, _, rfl, _, rfl, b, _, rfl, SqT.of hb, fun z => ?_, fun _ q hq => ?_⟩
    · have z2 := z.2
      rw [HT.sIx_nat, tn_len] at z2
      omega
    have s1 : Same H (upd H q (.tup (cutV (tn r) none (some ((r.length - 1 : Nat) : Int))))) := Same.new hq
    have ha1 := s1 _ _ ha
    have hb1 := s1 _ _ hb
    refine ⟨q, _, rfl, .inr (SqT.of upd_same), rfl, by rw [cut_tn r _ (Nat.sub_le _ _)]; exact flat_tn _, _, rfl, ?_⟩
    have ei : inV (.int ((g r (r.length - 1) : Nat) : Int)) (cutV (tn r) none (some ((r.length - 1 : Nat) : Int))) = (r.take (r.length - 1)).contains (g r (r.length - 1)) := by
      rw [cut_tn r _ (Nat.sub_le _ _), inV_tn]
    show if (inV (.int ((g r (r.length - 1) : Nat) : Int)) (cutV (tn r) none (some ((r.length - 1 : Nat) : Int)))) = true then _ else _
    rw [ei]
    have kk := k _ s1
    unfold keepsM at kk
    refine ite2 (fun c => ?_) (fun c => ?_)
    · rw [if_pos c] at kk
      exact kk
    rw [if_neg c] at kk
    refine ⟨_, rfl, _, rfl, a, _, _, _, rfl, rfl, SqT.of ha1, tn_at hlp, ?_⟩
    refine ⟨_, rfl, _, rfl, _, _, rfl, rfl, _, rfl, ?_⟩
    by_cases c2 : r.length - 1 < g p (r.length - 1)
    · rw [decide_eq_true c2, Bool.true_or] at kk
      rw [decide_eq_true (by omega)]
      exact iteT kk
    · rw [decide_eq_false c2, Bool.false_or] at kk
      rw [decide_eq_false (by omega)]
      refine iteF ⟨_, rfl, _, rfl, _, rfl, b, _, _, _, rfl, rfl, SqT.of hb1, tn_at hlt, a, _, _, _, rfl, rfl, SqT.of ha1, tn_at hgl, _, rfl, _, rfl, b, _, _, _, rfl, rfl, SqT.of hb1, tn_at (by omega), rfl, ?_⟩
      have e : decide (V.int ((g p (g r (r.length - 1)) : Nat) : Int) = V.int ((g r (g p (r.length - 1)) : Nat) : Int)) = (g p (g r (r.length - 1)) == g r (g p (r.length - 1))) := by
        rw [Bool.eq_iff_iff, decide_eq_true_eq, beq_iff_eq]
        constructor
        · intro z
          exact Int.ofNat_inj.mp (V.int.inj z)
        · intro z
          rw [z]
      rw [← e] at kk
      exact kk
end
end QmD

namespace QmD
open PySem L2 QmR Qm
section
variable {P : Program} {w : World} {K : PySem.W.Frag} {mg : Str → Option Value} {base : Heap}
theorem ref_mem {as : List Addr} {i : Nat} {a : Addr} (h : as[i]? = some a) : a ∈ as := List.mem_of_getElem? h
/-! ### renamings_of -/
abbrev sRens : Stmt := top 18
def spRens : Sp := fun vs H Q _ => ∃ (a : Addr) (p : List Nat), vs = [.ref a] ∧ H a = some (.tup (tn p)) ∧ Paper p ∧
  ∀ (H' : Hp) (L : Addr) (as : List Addr), Same H H' → H L = none → H' L = some (.lst (as.map V.ref)) → RowsAt H' as (rowsM p) → Q (.ref L) H'
theorem scRens : FnScope ["paper", "rows", "turn", "longer", "row", "mark"] ["paper"] (defScope sRens) := ⟨rfl, rfl, rfl, by decide +kernel, rfl, by decide +kernel, by decide +kernel⟩
theorem ok_rens (B : Blt mg) (D : Dfn K mg "renamings_of" sRens ["paper"]) (hK : Has P w K mg base CX0 1 "keeps" ["paper", "names"] spKeeps) : Has P w K mg base CX0 2 "renamings_of" ["paper"] spRens := D.has fun f fd F => by
  obtain ⟨fK, fdK, mK, kK, bK, GK⟩ := hK.ex
  refine F.ok scRens (fun vs H Q E h => ?_) (fun cdv A outer s H vs Q E hr h => ?_)
  · obtain ⟨a, p, rfl, _⟩ := h
    rfl
  · obtain ⟨a, p, rfl, ha, hp, k⟩ := h
    have nd := scRens.nd
    have h5 := hp.le5
    refine ⟨_, pss_cons (ps_set (i := 1) nd rfl (Or.inl rfl) (pe_lst (pa_cons (pe_tup pa_nil) pa_nil)))
      (pss_cons (ps_for PassesOwn.never rfl (pi_range1 rfl B.range (pa_cons (pe_callB (r := rLen K) callLen (by rfl) B.len PySem.boot_len (pa_cons (pv 0) pa_nil)) pa_nil)) (pg_name (i := 2) nd rfl (Or.inl rfl))
        (pss_cons (ps_set (i := 3) nd rfl (Or.inl rfl) (pe_lst pa_nil))
        (pss_cons (ps_for PassesOwn.never rfl (pi_list (pv 1)) (pg_name (i := 4) nd rfl (Or.inr rfl))
          (pss_one (ps_expr (pe_bm PySem.F.plainAttrs_list PySem.F.slot_list_extend PySem.F.type_list_extend mt_extend (pv 3) (pa_cons
            (pe_lc (own := [("mark", 5)]) (g := gName 5) (tt := tTest (tCall spKeeps [] E0 (tCons (tVar 0) (tCons (tOp (rCatA K) (tVar 4) (tTup (tCons (tVar 5) tNil))) tNil)))) rfl nd
              (pi_range1 rfl B.range (pa_cons (pe_callB (r := rLen K) callLen (by rfl) B.len PySem.boot_len (pa_cons (pv 0) pa_nil)) pa_nil)) (blkOk_by (N := ["paper", "rows", "turn", "longer", "row", "mark"]) (sc := defScope sRens) (by decide +kernel))
              (fun _ _ _ _ _ => pg_name (i := 5) nd rfl (Or.inl rfl))
              (fun _ _ _ _ _ => pts_one (pt_val (pe_call GK hr rfl mK kK bK .nil pass0 (pa_cons (pv 0) (pa_cons (pe_op (r := rCatA K) op_catA (pv 4) (pe_tup (pa_cons (pv 5) pa_nil))) pa_nil)))))
              (fun _ _ _ _ _ => pe_op (r := rCatA K) op_catA (pv 4) (pe_tup (pa_cons (pv 5) pa_nil)))) pa_nil)))))
        (pss_one (ps_set (i := 1) nd rfl (Or.inl rfl) (pv 3))))))
      (pss_one (ps_ret (pv 1)))), ?_⟩
    -- rows = [()]
    refine ⟨Nat.zero_le _, fun t ht => ⟨by show 1 ≤ sizeLine; rw [sizeLine_eq]; decide, fun L hL => ?_⟩⟩
    have st0 : Same H (upd H t (.tup [])) := Same.new ht
    have htL : t ≠ L := fun e => by
      rw [← e, upd_same] at hL
      cases hL
    have sL : Same H (upd (upd H t (.tup [])) L (.lst [V.ref t])) := st0.trans (Same.new hL)
    have hL0 : H L = none := st0.free hL
    have en : (((tn p).length : Nat) : Int).toNat = p.length := by rw [tn_len]; rfl
    refine ⟨_, rfl, a, _, rfl, .inr (SqT.of (sL _ _ ha)), _, rfl, by rw [tn_len]; omega, by rw [tn_len]; omega, ?_⟩
    rw [en]
    refine for_range (lo := 0) (n := p.length) (fun i σ H' => ∃ (L : Addr) (as : List Addr) (v1 v2 v3 : Option V), σ = [some (.ref a), some (.ref L), v1, v2, v3, none] ∧ Same H H' ∧ H L = none ∧ H' L = some (.lst (as.map V.ref)) ∧ RowsAt H' as (renLoop p i) ∧ i ≤ p.length)
      ⟨L, [t], none, none, none, rfl, sL, hL0, upd_same, .cons (by rw [upd_ne htL, upd_same]; rfl) .nil, Nat.zero_le _⟩ ?_ ?_
    · -- one turn: longer = []
      rintro i σ H1 hi ⟨L1, as, v1, v2, v3, rfl, s1, hL1n, hL1, hR1, hile⟩
      refine ⟨Nat.zero_le _, fun G hG => ?_⟩
      have neGL : G ≠ L1 := fun e => by
        rw [e, hL1] at hG
        cases hG
      have sG : Same H1 (upd H1 G (.lst [])) := Same.new hG
      -- the rows so far
      have stR : Stays (fun j l H' => ∃ bs : List Addr, l = bs.map V.ref ∧ RowsAt H' bs (extR p ((renLoop p i).take j))) :=
        ⟨fun j l H1 H2 t ⟨bs, e, r⟩ => ⟨bs, e, rows_tups t r⟩, fun j l H1 ⟨bs, e, r⟩ => by
          rw [e, List.length_map, rows_len_as r]
          have := extR_take_len h5 (k := i) (j := j) hile
          omega⟩
      refine ⟨_, rfl, L1, rfl, ⟨_, SqL.of (sG _ _ hL1)⟩, ?_⟩
      refine for_list (K := K) (a := L1) (xs := as.map V.ref) (fun j σ H' => ∃ v : Option V, σ = [some (.ref a), some (.ref L1), some (.int (0 + (i : Int))), some (.ref G), v, none] ∧
          PvL H1 G (fun j l H' => ∃ bs : List Addr, l = bs.map V.ref ∧ RowsAt H' bs (extR p ((renLoop p i).take j))) j H')
        ⟨v3, rfl, PvL.start hG stR ⟨[], rfl, .nil⟩⟩ (fun j σ H' _ ⟨_, _, q⟩ => q.1.seq (SqL.of hL1)) ?_ ?_
      · -- for row in rows
        rintro j x σ H2 hx ⟨v, rfl, s2, l, hl, bs, el, hbs⟩
        obtain ⟨ra, row, rfl, hra, hrow, hrat⟩ := rows_at (rows_same s2 hR1) hx
        obtain ⟨rl, rlt⟩ := mem_renLoop p i row (List.mem_of_getElem? hrow)
        have ha2 := (s1.trans s2) _ _ ha
        refine ⟨_, rfl, .inl ⟨rfl, _, SqL.of hl⟩, ?_⟩
        refine ⟨_, rfl, a, _, rfl, .inr (SqT.of ha2), _, rfl, by rw [tn_len]; omega, by rw [tn_len]; omega, fun D hD => ?_⟩
        rw [en]
        have st : Stays (RRows p.length fun k => ((List.range k).map fun m => row ++ [m]).filter (keepsM p)) := RRows.stays fun k hk => by
          have := List.length_filter_le (keepsM p) ((List.range k).map fun m => row ++ [m])
          rw [List.length_map, List.length_range] at this
          omega
        refine lc_range (lo := 0) (PvL H2 D _) (PvL.start hD st ⟨Nat.zero_le _, [], rfl, .nil⟩) ?_ ?_
        · intro m H3 hm q
          obtain ⟨s3, l3, hl3, hR3⟩ := q
          have em : (0 : Int) + (m : Int) = ((m : Nat) : Int) := by omega
          rw [em]
          have hr3 := s3 _ _ hrat
          have fs : ((List.range (m + 1)).map fun m => row ++ [m]).filter (keepsM p) = ((List.range m).map fun m => row ++ [m]).filter (keepsM p) ++ (if keepsM p (row ++ [m]) = true then [row ++ [m]] else []) := by
            rw [List.range_succ, List.map_append, List.filter_append, List.map_cons, List.map_nil, List.filter_cons]
            rfl
          refine ⟨rfl, _, rfl, _, rfl, _, rfl, by show 1 ≤ sizeLine; rw [sizeLine_eq]; decide, fun t ht => ?_⟩
          refine cat_row (m := m) ((Same.new ht) _ _ hr3) upd_same (by omega) fun H4 q4 s4 hq4 => ?_
          have s34 : Same H3 H4 := (Same.new ht).trans s4
          refine ⟨a, q4, p, row ++ [m], rfl, s34 _ _ (s3 _ _ ha2), hq4, hp, by simp, by rw [List.length_append, List.length_singleton]; omega, ?_, fun H5 s5 => ⟨_, rfl, ?_⟩⟩
          · intro x hx
            rcases List.mem_append.mp hx with hx | hx
            · exact rlt x hx
            · have e : x = m := by simpa using hx
              rw [e]
              exact hm
          have s35 : Same H3 H5 := s34.trans s5
          show if keepsM p (row ++ [m]) = true then _ else _
          by_cases c : keepsM p (row ++ [m]) = true
          · rw [if_pos c]
            refine ⟨_, rfl, _, rfl, by show 1 ≤ sizeLine; rw [sizeLine_eq]; decide, fun t2 ht2 => ?_⟩
            refine cat_row (m := m) ((Same.new ht2) _ _ (s35 _ _ hr3)) upd_same (by omega) fun H6 q6 s6 hq6 => ?_
            have s36 : Same H3 H6 := (s35.trans (Same.new ht2)).trans s6
            refine PvL.put hD st s3 hl3 s36 (hR3.more hm s36 hq6 ?_)
            rw [fs, if_pos c]
          · rw [if_neg c]
            refine PvL.skip s3 hl3 s35 ?_
            obtain ⟨_, as3, el3, r3⟩ := hR3
            refine ⟨hm, as3, el3, ?_⟩
            dsimp only
            rw [fs, if_neg c, List.append_nil]
            exact rows_same s35 r3
        · -- longer.extend
          intro H3 q
          obtain ⟨s3, l3, hl3, _, as3, el3, r3⟩ := q
          have hG3 := s3 _ _ hl
          have hlen : l.length + l3.length ≤ 100000 := by
            rw [el, el3, List.length_map, List.length_map, rows_len_as hbs, rows_len_as r3]
            have e1 := extR_take_len h5 (k := i) (j := j) hile
            have e2 := extR1_len p row
            unfold extR1 at e2
            dsimp only
            omega
          refine ⟨G, D, _, _, rfl, rfl, hG3, hl3, Nat.le_trans hlen (by rw [sizeLine_eq]; decide), ?_⟩
          refine ⟨_, rfl, ?_, _, upd_same, bs ++ as3, by rw [el, el3, List.map_append], ?_⟩
          · exact (s2.trans s3).put hG
          · rw [extR_snoc hrow]
            exact rows_tups (tups_put hG3) (rows_app (rows_same s3 hbs) r3)
      · -- rows = longer
        rintro σ H2 ⟨v, rfl, s2, l, hl, bs, el, hbs⟩
        refine ⟨_, rfl, ?_⟩
        refine ⟨G, bs, _, _, _, rfl, s1.trans s2, s1.free hG, by rw [hl, el], ?_, hi⟩
        have e : (renLoop p i).take (as.map V.ref).length = renLoop p i := by
          rw [List.length_map, rows_len_as hR1]
          exact List.take_length
        rw [e] at hbs
        exact hbs
    · rintro σ H1 ⟨L1, as, v1, v2, v3, rfl, s1, hL1n, hL1, hR1, _⟩
      refine ⟨_, rfl, ?_⟩
      have e := ren_rows hp
      unfold renamings at e
      rw [e] at hR1
      exact k H1 L1 as s1 hL1n hL1 hR1
end
end QmD

namespace QmD
open PySem L2 QmR Qm
/-! ### rows as data -/
theorem lay_ints : ∀ r : List Nat, PyData.canLayAll0 (r.map nD) = true
  | [] => by simp [PyData.canLayAll0]
  | n :: r => by
    rw [List.map_cons, PyData.canLayAll0, lay_ints r]
    simp [PyData.canLay0]
theorem lay_row (r : List Nat) : (dT r).canLay0 = true := by
  unfold dT
  rw [PyData.canLay0]
  exact lay_ints r
theorem lay_rows : ∀ rows : List (List Nat), PyData.canLayAll0 (rows.map dT) = true
  | [] => by simp [PyData.canLayAll0]
  | r :: rows => by
    rw [List.map_cons, PyData.canLayAll0, lay_rows rows, lay_row]
    rfl
theorem dep_row (r : List Nat) : (dT r).depth ≤ 1 := by
  unfold dT
  rw [PyData.depth, depth_ints]
  exact Nat.le_refl _
theorem shaped_row (r : List Nat) : SeqAt.shaped (dT r) = true := by
  show ((dT r).canLay0 && decide ((dT r).depth ≤ 64)) = true
  rw [lay_row, decide_eq_true (Nat.le_trans (dep_row r) (by decide))]
  rfl
theorem shaped_rows (rows : List (List Nat)) : SeqAt.shaped (.list (rows.map dT)) = true := by
  show ((PyData.list (rows.map dT)).canLay0 && decide ((PyData.list (rows.map dT)).depth ≤ 64)) = true
  have h := depth_rows rows
  rw [PyData.canLay0, lay_rows, decide_eq_true (by rw [PyData.depth]; omega)]
  rfl
theorem eqv_ints : ∀ a b : List Nat, PyData.eqvAll (a.map nD) (b.map nD) = (a == b)
  | [], [] => by simp [PyData.eqvAll]
  | [], _ :: _ => by simp [PyData.eqvAll]
  | _ :: _, [] => by simp [PyData.eqvAll]
  | x :: xs, y :: ys => by
    rw [List.map_cons, List.map_cons, PyData.eqvAll, eqv_ints xs ys, List.cons_beq_cons]
    congr 1
    show PyData.eqv (.int (x : Int)) (.int (y : Int)) = _
    rw [PyData.eqv, Bool.eq_iff_iff, beq_iff_eq, beq_iff_eq]
    omega
theorem eqv_row (a b : List Nat) : PyData.eqv (dT a) (dT b) = (a == b) := by
  unfold dT
  rw [PyData.eqv]
  exact eqv_ints a b
theorem seq_row {p row s : List Nat} (hr : IsRow p row) (hs : Seq p s) : ∀ m ∈ s, m < row.length := fun m hm => by
  rw [hr.len]
  exact hs m hm
theorem row_of {p : List Nat} {i : Nat} {r : List Nat} (h : (rowsM p)[i]? = some r) : IsRow p r := mem_rows.mp (List.mem_of_getElem? h)
section
variable {P : Program} {w : World} {K : PySem.W.Frag} {mg : Str → Option Value} {base : Heap}
/-! ### count_renamings -/
abbrev sCnt : Stmt := top 19
def spCnt : Sp := fun vs H Q _ => ∃ (a : Addr) (p : List Nat), vs = [.ref a] ∧ H a = some (.tup (tn p)) ∧ Paper p ∧ ∀ H', Same H H' → Q (.int (((rowsM p).length : Nat) : Int)) H'
theorem scCnt : FnScope ["paper"] ["paper"] (defScope sCnt) := ⟨rfl, rfl, rfl, by decide +kernel, rfl, by decide +kernel, by decide +kernel⟩
theorem ok_cnt (B : Blt mg) (D : Dfn K mg "count_renamings" sCnt ["paper"]) (hC : Has P w K mg base CX0 3 "check_paper" ["paper"] spChkP) (hR : Has P w K mg base CX0 2 "renamings_of" ["paper"] spRens) :
    Has P w K mg base CX0 4 "count_renamings" ["paper"] spCnt := D.has fun f fd F => by
  obtain ⟨fC, fdC, mC, kC, bC, GC⟩ := hC.ex
  obtain ⟨fR, fdR, mR, kR, bR, GR⟩ := hR.ex
  refine F.ok scCnt (fun vs H Q E h => ?_) (fun cdv A outer s H vs Q E hr h => ?_)
  · obtain ⟨a, p, rfl, _⟩ := h
    rfl
  · obtain ⟨a, p, rfl, ha, hp, k⟩ := h
    have hr2 : Room 2 _ := hr.mono (by decide)
    refine ⟨_, pss_cons (ps_expr (pe_call GC hr rfl mC kC bC .nil pass0 (pa_cons (pv 0) pa_nil)))
      (pss_one (ps_ret (pe_callB (r := rLen K) callLen (by rfl) B.len PySem.boot_len (pa_cons (pe_call GR hr2 rfl mR kR bR .nil pass0 (pa_cons (pv 0) pa_nil)) pa_nil)))), ?_⟩
    refine ⟨_, rfl, a, p, rfl, ha, hp, fun H1 s1 => ?_⟩
    refine ⟨_, rfl, a, p, rfl, s1 _ _ ha, hp, fun H2 L as s2 _ hL hR => ?_⟩
    refine ⟨L, _, rfl, .inl (SqL.of hL), ?_⟩
    rw [List.length_map, rows_len_as hR]
    exact k _ (s1.trans s2)
/-! ### BadValue -/
abbrev sInit : Stmt := inClass (top 2) 0
def spInit (C : Addr) : Sp := fun vs H Q _ => ∃ (a : Addr) (y : V), vs = [.ref a, y] ∧ H a = some (exo a C none) ∧ ∀ dx, H dx = none → dx ≠ a → Q .non (upd (upd H dx (exd dx [("name", y)])) a (exo a C (some dx)))
theorem scInit : FnScope ["self", "name"] ["self", "name"] (defScope sInit) := ⟨rfl, rfl, rfl, by decide +kernel, rfl, by decide +kernel, by decide +kernel⟩
/-- what the top has written of BadValue -/
structure ExcT (K : PySem.W.Frag) (mg : Str → Option Value) (C fI : Addr) (fdI : FuncData) : Prop where
  gC : mg "BadValue" = some (.ref C)
  oex : OexC K C
  xf : XfC K C
  noN : PySem.W.findIn K (.ref C) "name" = some none
  iC : PySem.W.findIn K (.ref C) "__init__" = some (some (.ref fI))
  tI : PySem.W.typeIn K (.ref fI) = some (.type "function")
  te : PySem.W.exmOne K (.ref C) (.ref C) = some true
  F : Fun K "__init__" "BadValue.__init__" sInit fI fdI
  b : Binds K fdI ["self", "name"] []
theorem ok_init {C fI : Addr} {fdI : FuncData} (T : ExcT K mg C fI fdI) : FnOk P w K mg base CX0 1 fI fdI ["self", "name"] (spInit C) := by
  refine T.F.ok scInit (fun vs H Q E h => ?_) (fun cdv A outer s H vs Q E hr h => ?_)
  · obtain ⟨a, y, rfl, _⟩ := h
    rfl
  · obtain ⟨a, y, rfl, ha, k⟩ := h
    refine ⟨_, pss_one (ps_ost (pv 0) (pv 1)), ?_⟩
    exact ⟨_, rfl, _, rfl, a, C, rfl, T.oex, T.noN, .inl ⟨ha, fun dx h1 h2 => k dx h1 h2⟩⟩
/-! ### nth_renaming -/
abbrev sNth : Stmt := top 20
def spNth (C : Addr) : Sp := fun vs H Q E => ∃ (a : Addr) (p : List Nat) (n : Nat), vs = [.ref a, .int ((n : Nat) : Int)] ∧ H a = some (.tup (tn p)) ∧ Paper p ∧
  (n < (rowsM p).length → ∀ (H' : Hp) (q : Addr) (r : List Nat), Same H H' → (rowsM p)[n]? = some r → H' q = some (.tup (tn r)) → Q (.ref q) H') ∧
  ((rowsM p).length ≤ n → ∀ (H' : Hp) (d : Addr), Same H H' → H d = none → H' d = some (.xd [("name", .str "index")]) → E (.ref C) (some d) H')
theorem scNth : FnScope ["paper", "index", "found"] ["paper", "index"] (defScope sNth) := ⟨rfl, rfl, rfl, by decide +kernel, rfl, by decide +kernel, by decide +kernel⟩
theorem ok_nth {C fI : Addr} {fdI : FuncData} (B : Blt mg) (T : ExcT K mg C fI fdI) (D : Dfn K mg "nth_renaming" sNth ["paper", "index"]) (hC : Has P w K mg base CX0 3 "check_paper" ["paper"] spChkP)
    (hR : Has P w K mg base CX0 2 "renamings_of" ["paper"] spRens) (hW : Has P w K mg base CX0 1 "is_whole" ["value", "low", "high"] spWhole) :
    Has P w K mg base (L2.CX P w) 4 "nth_renaming" ["paper", "index"] (spNth C) := D.has fun f fd F => by
  obtain ⟨fC, fdC, mC, kC, bC, GC⟩ := hC.ex
  obtain ⟨fR, fdR, mR, kR, bR, GR⟩ := hR.ex
  obtain ⟨fW, fdW, mW, kW, bW, GW⟩ := hW.ex
  have GI : FnOk P w K mg base CX0 1 fI fdI ["self", "name"] (spInit C) := ok_init T
  refine F.okX scNth (fun vs H Q E h => ?_) (fun cdv A outer s H vs Q E hr h => ?_)
  · obtain ⟨a, p, n, rfl, _⟩ := h
    rfl
  · obtain ⟨a, p, n, rfl, ha, hp, kY, kN⟩ := h
    have hr2 : Room 2 _ := hr.mono (by decide)
    have hr1 : Room 1 _ := hr.mono (by decide)
    have nd := scNth.nd
    refine ⟨_, pss_cons (ps_expr (pe_call GC hr rfl mC kC bC .nil pass0 (pa_cons (pv 0) pa_nil)))
      (pss_cons (ps_set (i := 2) nd rfl (Or.inl rfl) (pe_call GR hr2 rfl mR kR bR .nil pass0 (pa_cons (pv 0) pa_nil)))
      (pss_cons (ps_if (pt_not (pt_val (pe_call GW hr1 rfl mW kW bW .nil pass0 (pa_cons (pv 1) (pa_cons pe_int (pa_cons (pe_op op_sub (pe_callB (r := rLen K) callLen (by rfl) B.len PySem.boot_len (pa_cons (pv 2) pa_nil)) pe_int) pa_nil))))))
        (pss_one (ps_raise rfl (takes_of rfl rfl rfl rfl) (pmk_oex (CX := CX0) T.oex T.iC T.tI GI hr2 T.b .nil pass0 rfl T.gC (pa_cons pe_str pa_nil)))) pss_nil)
      (pss_one (ps_ret (pe_ix ix_list (pv 2) (pv 1) (fun _ _ => rfl)))))), ?_⟩
    refine ⟨_, rfl, a, p, rfl, ha, hp, fun H1 s1 => ?_⟩
    refine ⟨_, rfl, a, p, rfl, s1 _ _ ha, hp, fun H2 L as s2 _ hL hRows => ?_⟩
    have s12 := s1.trans s2
    have el : (((as.map V.ref).length : Nat) : Int) = (((rowsM p).length : Nat) : Int) := by rw [List.length_map, rows_len_as hRows]
    have pos := (rows_len hp).1
    refine ⟨_, rfl, _, rfl, L, _, rfl, .inl (SqL.of hL), _, _, rfl, rfl, ((n : Nat) : Int), 0, _, rfl, _, rfl, ?_⟩
    show if (!decide (0 ≤ ((n : Nat) : Int) ∧ ((n : Nat) : Int) ≤ (((as.map V.ref).length : Nat) : Int) - 1)) = true then _ else _
    rw [el]
    by_cases c : n < (rowsM p).length
    · rw [decide_eq_true (by omega)]
      refine iteF ?_
      have hlt : n < as.length := by
        rw [rows_len_as hRows]
        exact c
      obtain ⟨r, hr', hra⟩ := rows_get hRows (List.getElem?_eq_getElem hlt)
      refine ⟨_, rfl, _, rfl, L, _, _, .ref as[n], rfl, rfl, SqL.of hL, atI_nat ?_, ?_⟩
      · rw [List.getElem?_map, List.getElem?_eq_getElem hlt]
        rfl
      · exact kY c _ _ r s12 hr' hra
    · have c2 : (rowsM p).length ≤ n := Nat.le_of_not_lt c
      rw [decide_eq_false (by omega)]
      refine iteT ⟨by decide, fun e he => ⟨e, _, rfl, upd_same, fun dx hdx ne => ⟨rfl, dx, [("name", V.str "index")], upd_same, ?_, ?_, ?_⟩⟩⟩
      · rw [upd_ne ne, upd_same]
      · rw [upd_ne ne] at hdx
        exact hdx
      · have hdx2 : H2 dx = none := by
          rw [upd_ne ne] at hdx
          exact hdx
        refine kN c2 _ dx (fun b o hb => ?_) (s12.free hdx2) upd_same
        have hb2 := s12 _ _ hb
        have nbd : b ≠ dx := ne_of_none hb2 hdx2
        have nbe : b ≠ e := ne_of_none hb2 he
        rw [upd_ne nbd, del_ne nbe, upd_ne nbe, upd_ne nbd, upd_ne nbe]
        exact hb2
end
end QmD

namespace QmD
open PySem L2 QmR Qm
/-! ### keys -/
def kk (r : List Nat) : List Key := r.map fun n => Sum.inl ((n : Nat) : Int)
theorem kk_tn : ∀ r : List Nat, (kk r).map kV = tn r
  | [] => rfl
  | n :: r => by
    have ih := kk_tn r
    show kV (Sum.inl ((n : Nat) : Int)) :: (kk r).map kV = _
    rw [ih]
    rfl
theorem kk_inj : ∀ {a b : List Nat}, kk a = kk b → a = b
  | [], [], _ => rfl
  | [], _ :: _, h => by cases h
  | _ :: _, [], h => by cases h
  | x :: xs, y :: ys, h => by
    have h1 : (Sum.inl ((x : Nat) : Int) : Key) = Sum.inl ((y : Nat) : Int) := (List.cons.inj h).1
    have h2 : kk xs = kk ys := (List.cons.inj h).2
    rw [kk_inj h2, Int.ofNat_inj.mp (Sum.inl.inj h1)]
theorem keys_put {kvs : List (List Key × V)} {L : List (List Nat)} (h : kvs.map (·.1) = L.map kk) (r : List Nat) (v : V) : (putK kvs (kk r) v).map (·.1) = (put1 L r).map kk := by
  have e : (kvs.any fun kv => decide (kv.1 = kk r)) = L.contains r := by
    rw [Bool.eq_iff_iff, List.any_eq_true, List.contains_iff_mem]
    constructor
    · rintro ⟨kv, h1, h2⟩
      have h3 : kv.1 ∈ kvs.map (·.1) := List.mem_map.mpr ⟨kv, h1, rfl⟩
      rw [h] at h3
      obtain ⟨q, hq, e⟩ := List.mem_map.mp h3
      have : q = r := kk_inj (e.trans (of_decide_eq_true h2))
      exact this ▸ hq
    · intro hr
      have h3 : kk r ∈ kvs.map (·.1) := by
        rw [h]
        exact List.mem_map.mpr ⟨r, hr, rfl⟩
      obtain ⟨kv, h1, e⟩ := List.mem_map.mp h3
      exact ⟨kv, h1, decide_eq_true e⟩
  unfold putK put1
  rw [e]
  split
  · rw [List.map_map, ← h]
    refine List.map_congr_left fun kv _ => ?_
    show (if kv.1 = kk r then (kv.1, v) else kv).1 = kv.1
    split <;> rfl
  · rw [List.map_append, List.map_append, h]
    rfl
theorem ddp_snoc (l : List (List Nat)) (x : List Nat) : ddp (l ++ [x]) = put1 (ddp l) x := by
  unfold ddp
  rw [List.foldl_append]
  rfl
section
variable {P : Program} {w : World} {K : PySem.W.Frag} {mg : Str → Option Value} {base : Heap}
/-! ### first_alike -/
abbrev sFirst : Stmt := top 22
def spFirst : Sp := fun vs H Q _ => ∃ (a b : Addr) (p s : List Nat), vs = [.ref a, .ref b] ∧ H a = some (.tup (tn p)) ∧ H b = some (.tup (tn s)) ∧ Paper p ∧ Seq p s ∧ s.length ≤ 16 ∧
  ∀ (H' : Hp) (q : Addr) (r : List Nat), Same H H' → Least (imgs p s) r → H' q = some (.tup (tn r)) → Q (.ref q) H'
theorem scFirst : FnScope ["paper", "sequence", "names"] ["paper", "sequence"] (defScope sFirst) := ⟨rfl, rfl, rfl, by decide +kernel, rfl, by decide +kernel, by decide +kernel⟩
theorem stays_imgs {p s : List Nat} (hp : Paper p) : Stays (RRows (rowsM p).length fun i => ((rowsM p).take i).map fun r => ren r s) := RRows.stays fun i hi => by
  have := (rows_len hp).2
  rw [List.length_map, List.length_take]
  omega
theorem imgs_more {p s : List Nat} {i : Nat} {r : List Nat} (h : (rowsM p)[i]? = some r) : ((rowsM p).take (i + 1)).map (fun r => ren r s) = ((rowsM p).take i).map (fun r => ren r s) ++ [ren r s] := by
  rw [take_snoc h, List.map_append]
  rfl
theorem ok_first (B : Blt mg) (D : Dfn K mg "first_alike" sFirst ["paper", "sequence"]) (hC : Has P w K mg base CX0 4 "check_sequence" ["paper", "sequence"] spChkS)
    (hR : Has P w K mg base CX0 2 "renamings_of" ["paper"] spRens) (hB : Has P w K mg base CX0 1 "renamed_by" ["sequence", "names"] spRby) :
    Has P w K mg base CX0 5 "first_alike" ["paper", "sequence"] spFirst := D.has fun f fd F => by
  obtain ⟨fC, fdC, mC, kC, bC, GC⟩ := hC.ex
  obtain ⟨fR, fdR, mR, kR, bR, GR⟩ := hR.ex
  obtain ⟨fB, fdB, mB, kB, bB, GB⟩ := hB.ex
  refine F.ok scFirst (fun vs H Q E h => ?_) (fun cdv A outer s H vs Q E hr h => ?_)
  · obtain ⟨a, b, p, s, rfl, _⟩ := h
    rfl
  · obtain ⟨a, b, p, s, rfl, ha, hb, hp, hs, hl16, k⟩ := h
    have nd := scFirst.nd
    have hr2 : Room 2 _ := hr.mono (by decide)
    have hr1 : Room 1 _ := hr.mono (by decide)
    refine ⟨_, pss_cons (ps_expr (pe_call GC hr rfl mC kC bC .nil pass0 (pa_cons (pv 0) (pa_cons (pv 1) pa_nil))))
      (pss_one (ps_ret (pe_callB (r := rMinT K) (cr_minT rfl hr.units) (by rfl) B.min (by decide +kernel) (pa_cons
          (pe_lc (own := [("names", 2)]) (g := gName 2) (tt := tYes) rfl nd (pi_list (pe_call GR hr2 rfl mR kR bR .nil pass0 (pa_cons (pv 0) pa_nil))) (blkOk_by (N := ["paper", "sequence", "names"]) (sc := defScope sFirst) (by decide +kernel))
            (fun _ _ _ _ _ => pg_name (i := 2) nd rfl (Or.inl rfl)) (fun _ _ _ _ _ => pts_nil)
            (fun _ _ _ _ _ => pe_call GB hr1 rfl mB kB bB .nil pass0 (pa_cons (pv 1) (pa_cons (pv 2) pa_nil)))) pa_nil)))), ?_⟩
    refine ⟨_, rfl, _, rfl, a, b, p, s, rfl, ha, hb, hp, hs, hl16, fun H1 s1 => ?_⟩
    refine ⟨_, rfl, a, p, rfl, s1 _ _ ha, hp, fun H2 L as s2 _ hL hRows => ⟨L, rfl, ⟨_, SqL.of hL⟩, fun D hD => ?_⟩⟩
    have st := stays_imgs (s := s) hp
    have nl := rows_len_as hRows
    refine lc_list (xs := as.map V.ref) (PvL H2 D (RRows (rowsM p).length fun i => ((rowsM p).take i).map fun r => ren r s)) (PvL.start hD st ⟨Nat.zero_le _, [], rfl, .nil⟩) (fun i H' _ q => q.1.seq (SqL.of hL)) ?_ ?_
    · intro i x H3 hx q
      obtain ⟨s3, l, hl, hR3⟩ := q
      obtain ⟨ra, row, rfl, hra, hrow, hrat⟩ := rows_at (rows_same s3 hRows) hx
      have hi : i < (rowsM p).length := (List.getElem?_eq_some_iff.mp hrow).1
      refine ⟨rfl, yesT ?_⟩
      refine ⟨_, rfl, _, rfl, b, ra, s, row, rfl, (s1.trans (s2.trans s3)) _ _ hb, hrat, seq_row (row_of hrow) hs, hl16, fun H4 q4 s4 hq4 => ?_⟩
      exact PvL.put hD st s3 hl s4 (hR3.more hi s4 hq4 (imgs_more hrow))
    · intro H3 q
      obtain ⟨s3, l, hl, _, bs, el, hbs⟩ := q
      have e : ((rowsM p).take (as.map V.ref).length).map (fun r => ren r s) = imgs p s := by
        rw [List.length_map, nl, List.take_length]
        rfl
      dsimp only at hbs
      rw [e] at hbs
      refine ⟨D, bs, imgs p s, rfl, SqL.of (by rw [hl, el]), hbs, fun z => ?_, fun b2 r hb2 hr2 hleast => k _ _ r (s1.trans (s2.trans s3)) hleast hr2⟩
      have h1 := (rows_len hp).1
      have h2 := congrArg List.length z
      unfold imgs at h2
      rw [List.length_map, List.length_nil] at h2
      omega
/-! ### count_alike -/
abbrev sCntA : Stmt := top 23
def spCntA : Sp := fun vs H Q _ => ∃ (a b : Addr) (p s : List Nat), vs = [.ref a, .ref b] ∧ H a = some (.tup (tn p)) ∧ H b = some (.tup (tn s)) ∧ Paper p ∧ Seq p s ∧ s.length ≤ 16 ∧
  ∀ (H' : Hp), Same H H' → Q (.int (((ddp (imgs p s)).length : Nat) : Int)) H'
theorem scCntA : FnScope ["paper", "sequence", "names"] ["paper", "sequence"] (defScope sCntA) := ⟨rfl, rfl, rfl, by decide +kernel, rfl, by decide +kernel, by decide +kernel⟩
theorem ok_cntA (B : Blt mg) (D : Dfn K mg "count_alike" sCntA ["paper", "sequence"]) (hC : Has P w K mg base CX0 4 "check_sequence" ["paper", "sequence"] spChkS)
    (hR : Has P w K mg base CX0 2 "renamings_of" ["paper"] spRens) (hB : Has P w K mg base CX0 1 "renamed_by" ["sequence", "names"] spRby) :
    Has P w K mg base CX0 5 "count_alike" ["paper", "sequence"] spCntA := D.has fun f fd F => by
  obtain ⟨fC, fdC, mC, kC, bC, GC⟩ := hC.ex
  obtain ⟨fR, fdR, mR, kR, bR, GR⟩ := hR.ex
  obtain ⟨fB, fdB, mB, kB, bB, GB⟩ := hB.ex
  refine F.ok scCntA (fun vs H Q E h => ?_) (fun cdv A outer s H vs Q E hr h => ?_)
  · obtain ⟨a, b, p, s, rfl, _⟩ := h
    rfl
  · obtain ⟨a, b, p, s, rfl, ha, hb, hp, hs, hl16, k⟩ := h
    have nd := scCntA.nd
    have hr2 : Room 2 _ := hr.mono (by decide)
    have hr1 : Room 1 _ := hr.mono (by decide)
    refine ⟨_, pss_cons (ps_expr (pe_call GC hr rfl mC kC bC .nil pass0 (pa_cons (pv 0) (pa_cons (pv 1) pa_nil))))
      (pss_one (ps_ret (pe_callB call_len_dT (by rfl) B.len PySem.boot_len (pa_cons
          (pe_dcT (own := [("names", 2)]) (g := gName 2) (tt := tYes) (hu_of hr) rfl nd (pi_list (pe_call GR hr2 rfl mR kR bR .nil pass0 (pa_cons (pv 0) pa_nil))) (blkOk_by (N := ["paper", "sequence", "names"]) (sc := defScope sCntA) (by decide +kernel))
            (fun _ _ _ _ _ => pg_name (i := 2) nd rfl (Or.inl rfl)) (fun _ _ _ _ _ => pts_nil)
            (fun _ _ _ _ _ => pe_call GB hr1 rfl mB kB bB .nil pass0 (pa_cons (pv 1) (pa_cons (pv 2) pa_nil)))
            (fun _ _ _ _ _ => pe_bl)) pa_nil)))), ?_⟩
    refine ⟨_, rfl, _, rfl, a, b, p, s, rfl, ha, hb, hp, hs, hl16, fun H1 s1 => ?_⟩
    refine ⟨_, rfl, a, p, rfl, s1 _ _ ha, hp, fun H2 L as s2 _ hL hRows => ⟨L, rfl, ⟨_, SqL.of hL⟩, fun D hD => ?_⟩⟩
    have nl := rows_len_as hRows
    have h120 := (rows_len hp).2
    refine dcT_list (xs := as.map V.ref) (fun i H' => Same H2 H' ∧ i ≤ (rowsM p).length ∧ ∃ kvs : List (List Key × V), H' D = some (.dT kvs) ∧ kvs.map (·.1) = (ddp (((rowsM p).take i).map fun r => ren r s)).map kk)
      ⟨Same.new hD, Nat.zero_le _, [], upd_same, rfl⟩ (fun i H' _ q => q.1.seq (SqL.of hL)) ?_ ?_
    · rintro i x H3 hx ⟨s3, hi, kvs, hkv, ek⟩
      obtain ⟨ra, row, rfl, hra, hrow, hrat⟩ := rows_at (rows_same s3 hRows) hx
      have hi : i < (rowsM p).length := (List.getElem?_eq_some_iff.mp hrow).1
      refine ⟨rfl, yesT ?_⟩
      refine ⟨_, rfl, _, rfl, b, ra, s, row, rfl, (s1.trans (s2.trans s3)) _ _ hb, hrat, seq_row (row_of hrow) hs, hl16, fun H4 q4 s4 hq4 => ?_⟩
      have hkl : kvs.length ≤ 120 := by
        have e1 := congrArg List.length ek
        rw [List.length_map, List.length_map] at e1
        have e2 := ddp_len (((rowsM p).take i).map fun r => ren r s)
        rw [List.length_map, List.length_take] at e2
        omega
      refine ⟨q4, kk (ren row s), kvs, rfl, by rw [kk_tn]; exact hq4, s4 _ _ hkv, Nat.lt_of_le_of_lt hkl (by rw [sizeLine_eq]; decide), ?_⟩
      refine ⟨(s3.trans s4).put hD, hi, _, upd_same, ?_⟩
      rw [keys_put ek, imgs_more hrow, ddp_snoc]
    · rintro H3 ⟨s3, _, kvs, hkv, ek⟩
      refine ⟨D, kvs, rfl, hkv, ?_⟩
      have e1 := congrArg List.length ek
      rw [List.length_map, List.length_map, List.length_map, nl, List.take_length] at e1
      rw [e1]
      exact k _ (s1.trans (s2.trans s3))
/-! ### check_two -/
abbrev sChk2 : Stmt := top 24
def spChk2 : Sp := fun vs H Q _ => ∃ (a b c : Addr) (p s t : List Nat), vs = [.ref a, .ref b, .ref c] ∧ H a = some (.tup (tn p)) ∧ H b = some (.tup (tn s)) ∧ H c = some (.tup (tn t)) ∧ Paper p ∧ Seq p s ∧ s.length ≤ 16 ∧ Seq p t ∧ t.length ≤ 16 ∧
  ∀ H', Same H H' → Q .non H'
theorem scChk2 : FnScope ["paper", "first", "second"] ["paper", "first", "second"] (defScope sChk2) := ⟨rfl, rfl, rfl, by decide +kernel, rfl, by decide +kernel, by decide +kernel⟩
theorem ok_chk2 (D : Dfn K mg "check_two" sChk2 ["paper", "first", "second"]) (hP : Has P w K mg base CX0 3 "check_paper" ["paper"] spChkP) (hS : Has P w K mg base CX0 3 "is_sequence" ["paper", "value"] spMarks) :
    Has P w K mg base CX0 4 "check_two" ["paper", "first", "second"] spChk2 := D.has fun f fd F => by
  obtain ⟨fP, fdP, mP, kP, bP, GP⟩ := hP.ex
  obtain ⟨fS, fdS, mS, kS, bS, GS⟩ := hS.ex
  refine F.ok scChk2 (fun vs H Q E h => ?_) (fun cdv A outer s H vs Q E hr h => ?_)
  · obtain ⟨a, b, c, p, s, t, rfl, _⟩ := h
    rfl
  · obtain ⟨a, b, c, p, s, t, rfl, ha, hb, hc, hp, hs, hl, ht, hl2, k⟩ := h
    refine ⟨_, pss_cons (ps_expr (pe_call GP hr rfl mP kP bP .nil pass0 (pa_cons (pv 0) pa_nil)))
      (pss_cons (ps_if (pt_not (pt_val (pe_call GS hr rfl mS kS bS .nil pass0 (pa_cons (pv 0) (pa_cons (pv 1) pa_nil))))) (pss_one ps_never) pss_nil)
      (pss_one (ps_if (pt_not (pt_val (pe_call GS hr rfl mS kS bS .nil pass0 (pa_cons (pv 0) (pa_cons (pv 2) pa_nil))))) (pss_one ps_never) pss_nil))), ?_⟩
    refine ⟨_, rfl, a, p, rfl, ha, hp, fun H1 s1 => ?_⟩
    refine ⟨_, rfl, _, rfl, a, b, p, s, rfl, s1 _ _ ha, s1 _ _ hb, hs, hl, fun H2 s2 => ⟨true, rfl, iteF ?_⟩⟩
    have s12 := s1.trans s2
    exact ⟨_, rfl, _, rfl, a, c, p, t, rfl, s12 _ _ ha, s12 _ _ hc, ht, hl2, fun H3 s3 => ⟨true, rfl, iteF (k _ (s12.trans s3))⟩⟩
/-! ### renaming -/
abbrev sRen : Stmt := top 25
def spRen : Sp := fun vs H Q _ => ∃ (a b c : Addr) (p s t : List Nat), vs = [.ref a, .ref b, .ref c] ∧ H a = some (.tup (tn p)) ∧ H b = some (.tup (tn s)) ∧ H c = some (.tup (tn t)) ∧ Paper p ∧ Seq p s ∧ s.length ≤ 16 ∧ Seq p t ∧ t.length ≤ 16 ∧
  (lead1 p s t = none → ∀ H', Same H H' → Q .non H') ∧
  (∀ r, lead1 p s t = some r → ∀ (H' : Hp) (q : Addr), Same H H' → H' q = some (.tup (tn r)) → Q (.ref q) H')
theorem scRen : FnScope ["paper", "first", "second", "names"] ["paper", "first", "second"] (defScope sRen) := ⟨rfl, rfl, rfl, by decide +kernel, rfl, by decide +kernel, by decide +kernel⟩
theorem find_take {α : Type} {f : α → Bool} {l : List α} {i : Nat} {x : α} (h : l[i]? = some x) (hn : (l.take i).find? f = none) (hx : f x = false) : (l.take (i + 1)).find? f = none := by
  rw [take_snoc h, List.find?_append, hn]
  simp [hx]
theorem find_at {α : Type} {f : α → Bool} {l : List α} {i : Nat} {x : α} (h : l[i]? = some x) (hn : (l.take i).find? f = none) (hx : f x = true) : l.find? f = some x := by
  have e : l = l.take (i + 1) ++ l.drop (i + 1) := (List.take_append_drop _ _).symm
  rw [e, take_snoc h, List.find?_append, List.find?_append, hn]
  simp [hx]
theorem ok_ren (B : Blt mg) (D : Dfn K mg "renaming" sRen ["paper", "first", "second"]) (hC : Has P w K mg base CX0 4 "check_two" ["paper", "first", "second"] spChk2)
    (hR : Has P w K mg base CX0 2 "renamings_of" ["paper"] spRens) (hB : Has P w K mg base CX0 1 "renamed_by" ["sequence", "names"] spRby) :
    Has P w K mg base CX0 5 "renaming" ["paper", "first", "second"] spRen := D.has fun f fd F => by
  obtain ⟨fC, fdC, mC, kC, bC, GC⟩ := hC.ex
  obtain ⟨fR, fdR, mR, kR, bR, GR⟩ := hR.ex
  obtain ⟨fB, fdB, mB, kB, bB, GB⟩ := hB.ex
  refine F.ok scRen (fun vs H Q E h => ?_) (fun cdv A outer s H vs Q E hr h => ?_)
  · obtain ⟨a, b, c, p, s, t, rfl, _⟩ := h
    rfl
  · obtain ⟨a, b, c, p, s, t, rfl, ha, hb, hc, hp, hs, hl, ht, hl2, kN, kS⟩ := h
    have nd := scRen.nd
    have hr2 : Room 2 _ := hr.mono (by decide)
    have hr1 : Room 1 _ := hr.mono (by decide)
    refine ⟨_, pss_cons (ps_expr (pe_call GC hr rfl mC kC bC .nil pass0 (pa_cons (pv 0) (pa_cons (pv 1) (pa_cons (pv 2) pa_nil)))))
      (pss_cons (ps_for PassesOwn.never rfl (pi_list (pe_call GR hr2 rfl mR kR bR .nil pass0 (pa_cons (pv 0) pa_nil))) (pg_name (i := 3) nd rfl (Or.inl rfl))
        (pss_one (ps_if (pt_cmpR (op_eqD hr.units) (pe_call GB hr1 rfl mB kB bB .nil pass0 (pa_cons (pv 1) (pa_cons (pv 3) pa_nil))) (pv 2) (nomark _)) (pss_one (ps_ret (pv 3))) pss_nil)))
      (pss_one (ps_ret pe_non))), ?_⟩
    refine ⟨_, rfl, _, rfl, _, rfl, a, b, c, p, s, t, rfl, ha, hb, hc, hp, hs, hl, ht, hl2, fun H1 s1 => ?_⟩
    refine ⟨_, rfl, a, p, rfl, s1 _ _ ha, hp, fun H2 L as s2 _ hL hRows => ⟨L, rfl, ⟨_, SqL.of hL⟩, ?_⟩⟩
    have nl := rows_len_as hRows
    have s12 := s1.trans s2
    refine for_list (K := K) (a := L) (xs := as.map V.ref) (fun i σ H' => ∃ v : Option V, σ = [some (.ref a), some (.ref b), some (.ref c), v] ∧ Same H2 H' ∧ ((rowsM p).take i).find? (fun r => ren r s == t) = none)
      ⟨none, rfl, Same.refl _, rfl⟩ (fun i σ H' _ ⟨_, _, q, _⟩ => q.seq (SqL.of hL)) ?_ ?_
    · rintro i x σ H3 hx ⟨v, rfl, s3, hn⟩
      obtain ⟨ra, row, rfl, hra, hrow, hrat⟩ := rows_at (rows_same s3 hRows) hx
      refine ⟨_, rfl, _, rfl, b, ra, s, row, rfl, (s12.trans s3) _ _ hb, hrat, seq_row (row_of hrow) hs, hl, fun H4 q4 s4 hq4 => ?_⟩
      have s34 := (s12.trans s3).trans s4
      refine ⟨_, rfl, dT (ren row s), dT t, dp_row hq4, dp_row (s34 _ _ hc), shaped_row _, shaped_row _, _, rfl, ?_⟩
      show if PyData.eqv (dT (ren row s)) (dT t) = true then _ else _
      rw [eqv_row]
      refine ite2 (fun e => ?_) (fun e => ?_)
      · exact ⟨_, rfl, kS row (find_at (f := fun r => ren r s == t) hrow hn e) H4 ra s34 (s4 _ _ hrat)⟩
      · exact ⟨_, rfl, s3.trans s4, find_take (f := fun r => ren r s == t) hrow hn (by simpa using e)⟩
    · rintro σ H3 ⟨v, rfl, s3, hn⟩
      rw [List.length_map, nl, List.take_length] at hn
      exact kN hn _ (s12.trans s3)
end
end QmD

namespace QmD
open PySem L2 QmR Qm
/-! ### the stream of numbers -/
def SameBut (S : Addr) (H H' : Hp) : Prop := ∀ b o, b ≠ S → H b = some o → H' b = some o
theorem SameBut.refl (S : Addr) (H : Hp) : SameBut S H H := fun _ _ _ e => e
theorem SameBut.trans {S : Addr} {H H1 H2 : Hp} (a : SameBut S H H1) (b : SameBut S H1 H2) : SameBut S H H2 := fun c o n e => b c o n (a c o n e)
theorem _root_.L2.Same.but {H H' : Hp} (h : Same H H') (S : Addr) : SameBut S H H' := fun b o _ e => h b o e
theorem SameBut.put {S : Addr} {H H' : Hp} {o : HO} (h : SameBut S H H') : SameBut S H (upd H' S o) := fun b u n e => by
  rw [upd_ne n]
  exact h b u n e
theorem SameBut.tups {S : Addr} {H H' : Hp} {l : List V} (h : SameBut S H H') (hS : H S = some (.lst l)) : Tups H H' := fun a xs e => h a _ (ne_of e hS (fun z => nomatch z)) e
/-- at S stands a stream: the script's list, the cell, the place -/
def Strm (H : Hp) (S : Addr) : Prop := ∃ (A : Addr) (ns : List Int) (c k : Int), H S = some (.lst [.ref A, .int c, .int k]) ∧ H A = some (.lst (ns.map V.int)) ∧ 0 ≤ c ∧ 0 ≤ k
theorem Strm.ne {H : Hp} {S A : Addr} {ns : List Int} {l : List V} (h : H S = some (.lst (.ref A :: l))) (hA : H A = some (.lst (ns.map V.int))) : A ≠ S := fun e => by
  rw [e, h] at hA
  have z := HO.lst.inj (Option.some.inj hA)
  cases ns with
  | nil => cases z
  | cons n ns => cases z
theorem Strm.lst {H : Hp} {S : Addr} (h : Strm H S) : ∃ l, H S = some (.lst l) := by
  obtain ⟨A, ns, c, k, h1, _⟩ := h
  exact ⟨_, h1⟩
theorem Strm.same {H H' : Hp} {S : Addr} (h : Strm H S) (s : Same H H') : Strm H' S := by
  obtain ⟨A, ns, c, k, h1, h2, h3, h4⟩ := h
  exact ⟨A, ns, c, k, s _ _ h1, s _ _ h2, h3, h4⟩
theorem Strm.tups {H H' : Hp} {S : Addr} (h : Strm H S) (s : SameBut S H H') : Tups H H' := by
  obtain ⟨l, e⟩ := h.lst
  exact s.tups e
section
variable {P : Program} {w : World} {K : PySem.W.Frag} {mg : Str → Option Value} {base : Heap}
abbrev sStream : Stmt := top 27
def spStream (K : PySem.W.Frag) : Sp := fun vs H Q _ => ∃ (a : Addr) (ns : List Int), vs = [.ref a] ∧ SqL K H a (ns.map V.int) ∧ ∀ (H' : Hp) (S : Addr), Same H H' → H S = none → Strm H' S → Q (.ref S) H'
theorem scStream : FnScope ["_law_script"] ["_law_script"] (defScope sStream) := ⟨rfl, rfl, rfl, by decide +kernel, rfl, by decide +kernel, by decide +kernel⟩
theorem ok_stream (B : Blt mg) (D : Dfn K mg "_law_stream" sStream ["_law_script"]) : Has P w K mg base CX0 1 "_law_stream" ["_law_script"] (spStream K) := D.has fun f fd F => by
  refine F.ok scStream (fun vs H Q E h => ?_) (fun cdv A outer s H vs Q E hr h => ?_)
  · obtain ⟨a, ns, rfl, _⟩ := h
    rfl
  · obtain ⟨a, ns, rfl, ha, k⟩ := h
    refine ⟨_, pss_one (ps_ret (pe_lst (pa_cons (pe_callTy call_list_of (by rfl) B.list (by decide +kernel) (pa_cons (pv 0) pa_nil)) (pa_cons pe_int (pa_cons pe_int pa_nil))))), ?_⟩
    refine ⟨_, rfl, a, _, rfl, .inl ha, fun l hl => ⟨by show 3 ≤ sizeLine; rw [sizeLine_eq]; decide, fun S hS => ?_⟩⟩
    have s1 : Same H (upd H l (.lst (ns.map V.int))) := Same.new hl
    have nl : l ≠ S := ne_of_none upd_same hS
    refine k _ S (s1.trans (Same.new hS)) (s1.free hS) ⟨l, ns, 0, 0, upd_same, ?_, Int.le_refl _, Int.le_refl _⟩
    rw [upd_ne nl, upd_same]
/-! ### _law_next -/
abbrev sNext : Stmt := top 28
def spNext : Sp := fun vs H Q _ => ∃ (S : Addr) (m : Nat), vs = [.ref S, .int ((m : Nat) : Int)] ∧ Strm H S ∧ 1 ≤ m ∧ m ≤ 1000 ∧
  ∀ (H' : Hp) (d : Nat), SameBut S H H' → Strm H' S → d < m → Q (.int ((d : Nat) : Int)) H'
theorem scNext : FnScope ["_law_stream_here", "_law_many", "_law_k", "_law_cell", "_law_digit"] ["_law_stream_here", "_law_many"] (defScope sNext) := ⟨rfl, rfl, rfl, by decide +kernel, rfl, by decide +kernel, by decide +kernel⟩
theorem ok_next (B : Blt mg) (D : Dfn K mg "_law_next" sNext ["_law_stream_here", "_law_many"]) : Has P w K mg base CX0 1 "_law_next" ["_law_stream_here", "_law_many"] spNext := D.has fun f fd F => by
  refine F.ok scNext (fun vs H Q E h => ?_) (fun cdv A outer s H vs Q E hr h => ?_)
  · obtain ⟨S, m, rfl, _⟩ := h
    rfl
  · obtain ⟨S, m, rfl, ⟨L, ns, c0, k0, hS, hL, hc0, hk0⟩, hm1, hm2, kQ⟩ := h
    have nd := scNext.nd
    refine ⟨_, C8.pss_cut (ps_if (pt_cmpR op_eq (pe_ix ix_list (pv 0) pe_int (fun _ _ => rfl)) pe_int (nomark _))
        (pss_cons (ps_set (i := 2) nd rfl (Or.inl rfl) (pe_ix ix_list (pv 0) pe_int (fun _ _ => rfl)))
        (pss_cons (ps_set (i := 3) nd rfl (Or.inl rfl) (pe_op op_add pe_int (pv 2)))
        (C8.pss_cut (ps_if (pt_cmpR op_lt (pv 2) (pe_callB (r := rLen K) callLen (by rfl) B.len PySem.boot_len (pa_cons (pe_ix ix_list (pv 0) pe_int (fun _ _ => rfl)) pa_nil)) (nomark _))
            (pss_one (ps_set (i := 3) nd rfl (Or.inl rfl) (pe_callB call_abs (by rfl) B.abs (by decide +kernel) (pa_cons (pe_ix ix_list (pe_ix ix_list (pv 0) pe_int (fun _ _ => rfl)) (pv 2) (fun _ _ => rfl)) pa_nil)))) pss_nil)
        (C8.pss_cut (ps_if (pt_cmpR op_lt (pv 3) (pe_op op_pow pe_int pe_int) (nomark _))
            (pss_cons (ps_set (i := 3) nd rfl (Or.inl rfl) (pe_op op_mod (pe_callTy call_int1 (by rfl) B.int (by decide +kernel) (pa_cons (pe_op op_add (pe_op op_add (pe_op op_mul (pv 3) pe_int) (pe_op op_mul (pv 2) pe_int)) pe_int) pa_nil)) pe_int))
            (pss_one (ps_set (i := 3) nd rfl (Or.inl rfl) (pe_op op_add (pe_op op_mul (pe_op op_mod (pe_callTy call_int1 (by rfl) B.int (by decide +kernel) (pa_cons (pe_op op_add (pe_op op_mul (pv 3) pe_int) pe_int) pa_nil)) pe_int) pe_int) (pv 3))))) pss_nil)
        (pss_cons (ps_asg (pv 3) (pg_sub (pv 0) pe_int set_list))
        (pss_one (ps_asg (pe_op op_add (pv 2) pe_int) (pg_sub (pv 0) pe_int set_list)))))))) pss_nil)
      (pss_cons (ps_set (i := 4) nd rfl (Or.inl rfl) (pe_op op_modN (pe_callTy call_int1 (by rfl) B.int (by decide +kernel) (pa_cons (pe_ix ix_list (pv 0) pe_int (fun _ _ => rfl)) pa_nil)) (pv 1)))
      (pss_cons (ps_asg (pe_op op_fdivN (pe_ix ix_list (pv 0) pe_int (fun _ _ => rfl)) (pv 1)) (pg_sub (pv 0) pe_int set_list))
      (pss_one (ps_ret (pv 4))))), ?_⟩
    have nLS : L ≠ S := Strm.ne hS hL
    refine ⟨fun σ H' => (∃ v w : Option V, σ = [some (.ref S), some (.int ((m : Nat) : Int)), v, w, none]) ∧ ∃ c k : Int, H' = upd H S (.lst [.ref L, .int c, .int k]) ∧ 0 ≤ c ∧ 0 ≤ k, ?_, ?_⟩
    · refine ⟨_, rfl, S, _, _, _, rfl, rfl, SqL.of hS, (rfl : atI [V.ref L, V.int c0, V.int k0] 1 = some (V.int c0)), rfl, _, rfl, ?_⟩
      refine ite2 (fun _ => ?_) (fun _ => ?_)
      · refine ⟨_, rfl, S, _, _, _, rfl, rfl, SqL.of hS, (rfl : atI [V.ref L, V.int c0, V.int k0] 2 = some (V.int k0)), ?_⟩
        refine ⟨_, rfl, _, _, rfl, rfl, ?_⟩
        -- the cell is not negative, whichever way
        refine ⟨fun σ H' => H' = H ∧ ∃ c : Int, σ = [some (.ref S), some (.int ((m : Nat) : Int)), some (.int k0), some (.int c), none] ∧ 0 ≤ c, ?_, ?_⟩
        · refine ⟨_, rfl, _, rfl, S, _, _, _, rfl, rfl, SqL.of hS, (rfl : atI [V.ref L, V.int c0, V.int k0] 0 = some (V.ref L)), L, _, rfl, .inl (SqL.of hL), _, _, rfl, rfl, _, rfl, ?_⟩
          refine ite2 (fun hlt => ?_) (fun _ => ?_)
          · have hlt := of_decide_eq_true hlt
            rw [List.length_map] at hlt
            have hn : k0.toNat < ns.length := by omega
            refine ⟨_, rfl, S, _, _, _, rfl, rfl, SqL.of hS, (rfl : atI [V.ref L, V.int c0, V.int k0] 0 = some (V.ref L)), _, rfl, L, _, k0, .int ns[k0.toNat], rfl, rfl, SqL.of hL, at_of (j := k0.toNat) (by omega) ?_, _, rfl, ?_⟩
            · rw [List.getElem?_map, List.getElem?_eq_getElem hn]
              rfl
            · refine ⟨rfl, _, rfl, ?_⟩
              split <;> omega
          · exact ⟨rfl, _, rfl, by omega⟩
        · rintro σ H1 ⟨eH, c, rfl, hc⟩
          rw [eH]
          refine ⟨fun σ H' => H' = H ∧ ∃ c : Int, σ = [some (.ref S), some (.int ((m : Nat) : Int)), some (.int k0), some (.int c), none] ∧ 0 ≤ c, ?_, ?_⟩
          · refine ⟨_, rfl, _, _, rfl, rfl, ⟨by decide, by decide, by decide⟩, _, _, rfl, rfl, _, rfl, ?_⟩
            refine ite2 (fun _ => ?_) (fun _ => ⟨rfl, c, rfl, hc⟩)
            refine ⟨_, rfl, _, _, rfl, rfl, .inr ⟨by decide, by decide⟩, _, rfl, _, _, rfl, rfl, .inr ⟨by decide, by decide⟩, _, _, rfl, rfl, _, _, rfl, rfl, .inl ⟨_, rfl, _, _, rfl, rfl, (by decide : (0 : Int) < 2147483647), ?_⟩⟩
            have e1 : 0 ≤ (c * 48271 + k0 * 69621 + 11) % 2147483647 := Int.emod_nonneg _ (by decide)
            generalize (c * 48271 + k0 * 69621 + 11) % 2147483647 = c1 at e1 ⊢
            refine ⟨_, rfl, _, _, rfl, rfl, .inr ⟨by decide, by decide⟩, _, _, rfl, rfl, .inl ⟨_, rfl, _, _, rfl, rfl, (by decide : (0 : Int) < 2147483647), _, _, rfl, rfl, .inr ⟨by decide, by decide⟩, _, rfl, _, _, rfl, rfl, ?_⟩⟩
            have e2 : 0 ≤ (c1 * 16807 + 13) % 2147483647 := Int.emod_nonneg _ (by decide)
            exact ⟨rfl, _, rfl, by omega⟩
          · rintro σ H1 ⟨eH, c, rfl, hc⟩
            rw [eH]
            refine ⟨_, rfl, _, rfl, S, _, _, 1, rfl, rfl, hS, rfl, ?_⟩
            refine ⟨_, rfl, _, _, rfl, rfl, _, rfl, S, _, _, 2, rfl, rfl, upd_same, rfl, ?_⟩
            exact ⟨⟨_, _, rfl⟩, c, k0 + 1, upd_upd, hc, by omega⟩
      · exact ⟨⟨_, _, rfl⟩, c0, k0, by funext b; unfold upd; split <;> simp_all, hc0, hk0⟩
    · rintro σ H1 ⟨⟨v, w, rfl⟩, c, k, eH, hc, hk⟩
      rw [eH]
      have mpos : ((m : Nat) : Int) ≠ 0 := by omega
      refine ⟨_, rfl, S, _, _, _, rfl, rfl, SqL.of upd_same, (rfl : atI [V.ref L, V.int c, V.int k] 1 = some (V.int c)), .inl ⟨_, rfl, _, rfl, _, _, rfl, rfl, mpos, ?_⟩⟩
      refine ⟨_, rfl, S, _, _, _, rfl, rfl, SqL.of upd_same, (rfl : atI [V.ref L, V.int c, V.int k] 1 = some (V.int c)), _, rfl, _, _, rfl, rfl, ⟨mpos, by omega⟩, ?_⟩
      refine ⟨_, rfl, S, _, _, 1, rfl, rfl, upd_same, rfl, ?_⟩
      rw [upd_upd]
      have e1 : c.fmod ((m : Nat) : Int) = (((c % ((m : Nat) : Int)).toNat : Nat) : Int) := by
        rw [Int.fmod_eq_emod_of_nonneg _ (by omega)]
        have := Int.emod_nonneg c mpos
        omega
      have e2 : c.fdiv ((m : Nat) : Int) = c / ((m : Nat) : Int) := Int.fdiv_eq_ediv_of_nonneg _ (by omega)
      refine ⟨_, rfl, ?_⟩
      show Q (V.int (c.fmod ((m : Nat) : Int))) (upd H S (HO.lst [V.ref L, V.int (c.fdiv ((m : Nat) : Int)), V.int k]))
      rw [e1, e2]
      refine kQ _ _ ((SameBut.refl S H).put) ⟨L, ns, _, k, upd_same, by rw [upd_ne nLS]; exact hL, ?_, hk⟩ ?_
      · exact Int.ediv_nonneg hc (by omega)
      · have h1 := Int.emod_lt_of_pos c (b := ((m : Nat) : Int)) (by omega)
        have h2 := Int.emod_nonneg c mpos
        omega
end
end QmD

namespace QmD
open PySem L2 QmR Qm
section
variable {P : Program} {w : World} {K : PySem.W.Frag} {mg : Str → Option Value} {base : Heap}
/-! ### _law_pick -/
abbrev sPick : Stmt := top 31
def spPick : Sp := fun vs H Q _ => ∃ (S l : Addr) (xs : List V), vs = [.ref S, .ref l] ∧ Strm H S ∧ H l = some (.lst xs) ∧ l ≠ S ∧ 1 ≤ xs.length ∧ xs.length ≤ 1000 ∧
  ∀ (H' : Hp) (i : Nat) (v : V), SameBut S H H' → Strm H' S → xs[i]? = some v → Q v H'
theorem scPick : FnScope ["_law_stream_here", "_law_rows"] ["_law_stream_here", "_law_rows"] (defScope sPick) := ⟨rfl, rfl, rfl, by decide +kernel, rfl, by decide +kernel, by decide +kernel⟩
theorem ok_pick (B : Blt mg) (D : Dfn K mg "_law_pick" sPick ["_law_stream_here", "_law_rows"]) (hN : Has P w K mg base CX0 1 "_law_next" ["_law_stream_here", "_law_many"] spNext) :
    Has P w K mg base CX0 2 "_law_pick" ["_law_stream_here", "_law_rows"] spPick := D.has fun f fd F => by
  obtain ⟨fN, fdN, mN, kN, bN, GN⟩ := hN.ex
  refine F.ok scPick (fun vs H Q E h => ?_) (fun cdv A outer s H vs Q E hr h => ?_)
  · obtain ⟨S, l, xs, rfl, _⟩ := h
    rfl
  · obtain ⟨S, l, xs, rfl, hS, hl, ne, h1, h2, k⟩ := h
    refine ⟨_, pss_one (ps_ret (pe_ix ix_list (pv 1) (pe_call GN hr rfl mN kN bN .nil pass0 (pa_cons (pv 0) (pa_cons (pe_callB (r := rLen K) callLen (by rfl) B.len PySem.boot_len (pa_cons (pv 1) pa_nil)) pa_nil))) (fun _ _ => rfl))), ?_⟩
    refine ⟨_, rfl, _, rfl, _, rfl, l, _, rfl, .inl (SqL.of hl), S, xs.length, rfl, hS, h1, h2, fun H1 d s1 hS1 hd => ?_⟩
    exact ⟨l, xs, _, xs[d], rfl, rfl, SqL.of (s1 _ _ ne hl), atI_nat (List.getElem?_eq_getElem hd), k H1 d _ s1 hS1 (List.getElem?_eq_getElem hd)⟩
/-! ### _law_is_integer -/
abbrev sIsI : Stmt := top 29
def spIsI : Sp := fun vs H Q _ => ∃ i : Int, vs = [.int i] ∧ Q (.bl true) H
theorem scIsI : FnScope ["_law_actual"] ["_law_actual"] (defScope sIsI) := ⟨rfl, rfl, rfl, by decide +kernel, rfl, by decide +kernel, by decide +kernel⟩
theorem ok_isI (B : Blt mg) (D : Dfn K mg "_law_is_integer" sIsI ["_law_actual"]) : Has P w K mg base CX0 1 "_law_is_integer" ["_law_actual"] spIsI := D.has fun f fd F => by
  refine F.ok scIsI (fun vs H Q E h => ?_) (fun cdv A outer s H vs Q E hr h => ?_)
  · obtain ⟨i, rfl, _⟩ := h
    rfl
  · obtain ⟨i, rfl, k⟩ := h
    refine ⟨_, pss_one (ps_ret (pe_and (pe_callB call_isi (by rfl) B.isi (by decide +kernel) (pa_cons (pv 0) (pa_cons (pe_bltn (v := .ty "int") (by rfl) B.int (by decide +kernel) rfl) pa_nil)))
      (pe_one (pe_not (pe_callB call_isi (by rfl) B.isi (by decide +kernel) (pa_cons (pv 0) (pa_cons (pe_bltn (v := .ty "bool") (by rfl) B.bool (by decide +kernel) rfl) pa_nil))))))), ?_⟩
    refine ⟨_, rfl, _, _, _, _, true, rfl, .ty _, .base (.int i), kit_ty (by decide +kernel), true, rfl, iteT ?_⟩
    exact ⟨_, rfl, _, _, _, _, false, rfl, .ty _, .base (.int i), kit_ty (by decide +kernel), false, rfl, k⟩
/-! ### _law_equal: the two are the same data -/
def flatD (x : V) : Prop := x = .non ∨ (∃ i, x = .int i) ∨ ∃ z, x = .str z
def Dat (H : Hp) : Nat → V → V → Prop
  | 0, x, y => x = y ∧ flatD x
  | n + 1, x, y => (x = y ∧ flatD x) ∨ ∃ (a b : Addr) (xs ys : List V), x = .ref a ∧ y = .ref b ∧ xs.length = ys.length ∧ ys.length ≤ 1000 ∧
      ((H a = some (.tup xs) ∧ H b = some (.tup ys)) ∨ (H a = some (.lst xs) ∧ H b = some (.lst ys))) ∧ ∀ (i : Nat) (u v : V), xs[i]? = some u → ys[i]? = some v → Dat H n u v
theorem Dat.same {H H' : Hp} (s : Same H H') : ∀ (n : Nat) (x y : V), Dat H n x y → Dat H' n x y
  | 0, _, _, h => h
  | n + 1, x, y, h => by
    rcases h with h | ⟨a, b, xs, ys, e1, e2, h1, h2, h3, h4⟩
    · exact .inl h
    · refine .inr ⟨a, b, xs, ys, e1, e2, h1, h2, ?_, fun i u v hu hv => Dat.same s n u v (h4 i u v hu hv)⟩
      exact h3.elim (fun z => .inl ⟨s _ _ z.1, s _ _ z.2⟩) (fun z => .inr ⟨s _ _ z.1, s _ _ z.2⟩)
theorem Dat.up {H : Hp} : ∀ (n : Nat) (x y : V), Dat H n x y → Dat H (n + 1) x y
  | 0, _, _, h => .inl h
  | n + 1, x, y, h => by
    rcases h with h | ⟨a, b, xs, ys, e1, e2, h1, h2, h3, h4⟩
    · exact .inl h
    · exact .inr ⟨a, b, xs, ys, e1, e2, h1, h2, h3, fun i u v hu hv => Dat.up n u v (h4 i u v hu hv)⟩
theorem Dat.int {H : Hp} (n : Nat) (i : Int) : Dat H n (.int i) (.int i) := by
  cases n with
  | zero => exact ⟨rfl, .inr (.inl ⟨i, rfl⟩)⟩
  | succ n => exact .inl ⟨rfl, .inr (.inl ⟨i, rfl⟩)⟩
theorem Dat.str {H : Hp} (n : Nat) (z : Str) : Dat H n (.str z) (.str z) := by
  cases n with
  | zero => exact ⟨rfl, .inr (.inr ⟨z, rfl⟩)⟩
  | succ n => exact .inl ⟨rfl, .inr (.inr ⟨z, rfl⟩)⟩
theorem Dat.non {H : Hp} (n : Nat) : Dat H n .non .non := by
  cases n with
  | zero => exact ⟨rfl, .inl rfl⟩
  | succ n => exact .inl ⟨rfl, .inl rfl⟩
theorem Dat.row {H : Hp} {a b : Addr} {r : List Nat} (n : Nat) (ha : H a = some (.tup (tn r))) (hb : H b = some (.tup (tn r))) (hl : r.length ≤ 1000) : Dat H (n + 1) (.ref a) (.ref b) :=
  .inr ⟨a, b, _, _, rfl, rfl, rfl, by rw [tn_len]; exact hl, .inl ⟨ha, hb⟩, fun i u v hu hv => by
    rw [hu] at hv
    have e := Option.some.inj hv
    subst e
    obtain ⟨m, _, rfl⟩ := tn_get hu
    exact Dat.int n _⟩
abbrev sEq : Stmt := top 30
def spEq : Nat → Sp
  | 0 => fun _ _ _ _ => False
  | n + 1 => fun vs H Q _ => ∃ x y : V, vs = [x, y] ∧ Dat H n x y ∧ ∀ H', Same H H' → Q (.bl true) H'
theorem scEq : FnScope ["_law_actual", "_law_due", "_law_at"] ["_law_actual", "_law_due"] (defScope sEq) := ⟨rfl, rfl, rfl, by decide +kernel, rfl, by decide +kernel, by decide +kernel⟩
theorem ok_eq (B : Blt mg) (D : Dfn K mg "_law_equal" sEq ["_law_actual", "_law_due"]) (hI : Has P w K mg base CX0 1 "_law_is_integer" ["_law_actual"] spIsI) (n : Nat) :
    Has P w K mg base CX0 (n + 2) "_law_equal" ["_law_actual", "_law_due"] (spEq n) := by
  obtain ⟨fI, fdI, mI, kI, bI, GI⟩ := hI.ex
  obtain ⟨f, fd, F, mE, bE⟩ := D.ex
  have kE := F.kp
  refine ⟨f, fd, mE, kE, bE, ?_⟩
  induction n with
  | zero => exact ⟨fun _ _ _ _ h => h.elim, fun _ _ _ _ _ _ _ _ _ _ _ _ _ h => h.elim⟩
  | succ n GE =>
    refine F.ok scEq (fun vs H Q E h => ?_) (fun cdv A outer s H vs Q E hr h => ?_)
    · obtain ⟨x, y, rfl, _⟩ := h
      rfl
    · obtain ⟨x, y, rfl, hd, k⟩ := h
      have nd := scEq.nd
      have hr1 : Room 1 _ := hr.mono (by omega)
      refine ⟨_, pss_cons (ps_if (pt_cmp (pc_isN (pv 1))) (pss_one (ps_ret (pe_cmp (pc_isN (pv 0)) rfl))) pss_nil)
        (pss_cons (ps_if (pt_val (pe_callB call_isi (by rfl) B.isi (by decide +kernel) (pa_cons (pv 1) (pa_cons (pe_bltn (v := .ty "bool") (by rfl) B.bool (by decide +kernel) rfl) pa_nil)))) (pss_one ps_never) pss_nil)
        (pss_cons (ps_if (pt_val (pe_callB call_isi (by rfl) B.isi (by decide +kernel) (pa_cons (pv 1) (pa_cons (pe_bltn (v := .ty "int") (by rfl) B.int (by decide +kernel) rfl) pa_nil))))
          (pss_one (ps_ret (pe_and (pe_call GI hr1 rfl mI kI bI .nil pass0 (pa_cons (pv 0) pa_nil)) (pe_one (pe_cmpR op_eq (pv 0) (pv 1) (nomark _)))))) pss_nil)
        (pss_cons (ps_if (pt_val (pe_callB call_isi (by rfl) B.isi (by decide +kernel) (pa_cons (pv 1) (pa_cons (pe_bltn (v := .ty "str") (by rfl) B.str (by decide +kernel) rfl) pa_nil))))
          (pss_one (ps_ret (pe_and (pe_callB call_isi (by rfl) B.isi (by decide +kernel) (pa_cons (pv 0) (pa_cons (pe_bltn (v := .ty "str") (by rfl) B.str (by decide +kernel) rfl) pa_nil))) (pe_one (pe_cmpR op_eq (pv 0) (pv 1) (nomark _)))))) pss_nil)
        (C8.pss_cut (ps_if (PW.pt (pw_and (pt_val (pe_callB call_isi (by rfl) B.isi (by decide +kernel) (pa_cons (pv 1) (pa_cons (pe_bltn (v := .ty "tuple") (by rfl) B.tuple (by decide +kernel) rfl) pa_nil))))
          (pw_and1 (pt_not (pt_val (pe_callB call_isi (by rfl) B.isi (by decide +kernel) (pa_cons (pv 0) (pa_cons (pe_bltn (v := .ty "tuple") (by rfl) B.tuple (by decide +kernel) rfl) pa_nil)))))))) (pss_one ps_never) pss_nil)
        (C8.pss_cut (ps_if (PW.pt (pw_and (pt_val (pe_callB call_isi (by rfl) B.isi (by decide +kernel) (pa_cons (pv 1) (pa_cons (pe_bltn (v := .ty "list") (by rfl) B.list (by decide +kernel) rfl) pa_nil))))
          (pw_and1 (pt_not (pt_val (pe_callB call_isi (by rfl) B.isi (by decide +kernel) (pa_cons (pv 0) (pa_cons (pe_bltn (v := .ty "list") (by rfl) B.list (by decide +kernel) rfl) pa_nil)))))))) (pss_one ps_never) pss_nil)
        (pss_cons (ps_if (pt_cmpR op_ne (pe_callB (r := rLen K) callLen (by rfl) B.len PySem.boot_len (pa_cons (pv 0) pa_nil)) (pe_callB (r := rLen K) callLen (by rfl) B.len PySem.boot_len (pa_cons (pv 1) pa_nil)) (nomark _)) (pss_one ps_never) pss_nil)
        (pss_one (ps_ret (pe_callB (cr_all rfl) (by rfl) B.all (by decide +kernel) (pa_cons
          (pe_lc (own := [("_law_at", 2)]) (g := gName 2) (tt := tYes) rfl nd (pi_range1 rfl B.range (pa_cons (pe_callB (r := rLen K) callLen (by rfl) B.len PySem.boot_len (pa_cons (pv 1) pa_nil)) pa_nil)) (blkOk_by (N := ["_law_actual", "_law_due", "_law_at"]) (sc := defScope sEq) (by decide +kernel))
            (fun _ _ _ _ _ => pg_name (i := 2) nd rfl (Or.inl rfl)) (fun _ _ _ _ _ => pts_nil)
            (fun _ _ _ _ _ => pe_call GE hr rfl mE kE bE .nil pass0 (pa_cons (pe_ix (r := rIx K) ix_seq (pv 0) (pv 2) (fun _ _ => rfl)) (pa_cons (pe_ix (r := rIx K) ix_seq (pv 1) (pv 2) (fun _ _ => rfl)) pa_nil)))) pa_nil)))))))))), ?_⟩
      have hcase : (x = y ∧ flatD x) ∨ ∃ (a b : Addr) (xs ys : List V), x = .ref a ∧ y = .ref b ∧ xs.length = ys.length ∧ ys.length ≤ 1000 ∧
          ((H a = some (.tup xs) ∧ H b = some (.tup ys)) ∨ (H a = some (.lst xs) ∧ H b = some (.lst ys))) ∧ ∃ m, n = m + 1 ∧ ∀ (i : Nat) (u v : V), xs[i]? = some u → ys[i]? = some v → Dat H m u v := by
        cases n with
        | zero => exact .inl hd
        | succ m =>
          rcases hd with hd | ⟨a, b, xs, ys, e1, e2, h1, h2, h3, h4⟩
          · exact .inl hd
          · exact .inr ⟨a, b, xs, ys, e1, e2, h1, h2, h3, m, rfl, h4⟩
      rcases hcase with ⟨rfl, hfl⟩ | ⟨a, b, xs, ys, rfl, rfl, hlen, hl1000, hH, m, rfl, hitem⟩
      · rcases hfl with rfl | ⟨i, rfl⟩ | ⟨z, rfl⟩
        · refine ⟨_, rfl, _, rfl, iteT ⟨_, rfl, ?_⟩⟩
          exact k _ (Same.refl _)
        · refine ⟨_, rfl, _, rfl, iteF ?_⟩
          refine ⟨_, rfl, _, _, _, _, false, rfl, .ty _, .base (.int i), kit_ty (by decide +kernel), false, rfl, iteF ?_⟩
          refine ⟨_, rfl, _, _, _, _, true, rfl, .ty _, .base (.int i), kit_ty (by decide +kernel), true, rfl, iteT ?_⟩
          refine ⟨_, rfl, i, rfl, true, rfl, iteT ⟨_, rfl, _, rfl, rfl, ?_⟩⟩
          rw [decide_eq_true rfl]
          exact k _ (Same.refl _)
        · refine ⟨_, rfl, _, rfl, iteF ?_⟩
          refine ⟨_, rfl, _, _, _, _, false, rfl, .ty _, .base (.str z), kit_ty (by decide +kernel), false, rfl, iteF ?_⟩
          refine ⟨_, rfl, _, _, _, _, false, rfl, .ty _, .base (.str z), kit_ty (by decide +kernel), false, rfl, iteF ?_⟩
          refine ⟨_, rfl, _, _, _, _, true, rfl, .ty _, .base (.str z), kit_ty (by decide +kernel), true, rfl, iteT ?_⟩
          refine ⟨_, rfl, _, _, _, _, true, rfl, .ty _, .base (.str z), kit_ty (by decide +kernel), true, rfl, iteT ⟨_, rfl, _, rfl, rfl, ?_⟩⟩
          rw [decide_eq_true rfl]
          exact k _ (Same.refl _)
      · -- a tuple or a list
        have hlen2 : (SqL K H a xs ∨ SqT K H a xs) ∧ (SqL K H b ys ∨ SqT K H b ys) := hH.elim (fun z => ⟨.inr (SqT.of z.1), .inr (SqT.of z.2)⟩) (fun z => ⟨.inl (SqL.of z.1), .inl (SqL.of z.2)⟩)
        obtain ⟨T, hT, tx, ty⟩ : ∃ T : String, (T = "tuple" ∨ T = "list") ∧ TyX K H (.ref a) (.type T) ∧ TyX K H (.ref b) (.type T) := by
          rcases hH with z | z
          · exact ⟨"tuple", .inl rfl, .base (.tup z.1), .base (.tup z.2)⟩
          · exact ⟨"list", .inr rfl, .base (.lst z.1), .base (.lst z.2)⟩
        have kb : PySem.W.kitOne K (.type T) (.type "bool") = some false := by
          rcases hT with rfl | rfl <;> exact kit_ty (by decide +kernel)
        have ki : PySem.W.kitOne K (.type T) (.type "int") = some false := by
          rcases hT with rfl | rfl <;> exact kit_ty (by decide +kernel)
        have ks : PySem.W.kitOne K (.type T) (.type "str") = some false := by
          rcases hT with rfl | rfl <;> exact kit_ty (by decide +kernel)
        refine ⟨_, rfl, _, rfl, iteF ?_⟩
        refine ⟨_, rfl, _, _, _, _, false, rfl, .ty _, ty, kb, false, rfl, iteF ?_⟩
        refine ⟨_, rfl, _, _, _, _, false, rfl, .ty _, ty, ki, false, rfl, iteF ?_⟩
        refine ⟨_, rfl, _, _, _, _, false, rfl, .ty _, ty, ks, false, rfl, iteF ?_⟩
        refine ⟨fun σ H' => σ = [some (.ref a), some (.ref b), none] ∧ H' = H, ?_, ?_⟩
        · rcases hT with rfl | rfl
          · refine ⟨_, rfl, _, _, _, _, true, rfl, .ty _, ty, kit_ty (by decide +kernel), true, rfl, iteT ?_⟩
            exact ⟨_, rfl, _, _, _, _, true, rfl, .ty _, tx, kit_ty (by decide +kernel), true, rfl, iteF ⟨rfl, rfl⟩⟩
          · exact ⟨_, rfl, _, _, _, _, false, rfl, .ty _, ty, kit_ty (by decide +kernel), false, rfl, iteF (iteF ⟨rfl, rfl⟩)⟩
        rintro σ H1 ⟨rfl, eH⟩
        rw [eH]
        refine ⟨fun σ H' => σ = [some (.ref a), some (.ref b), none] ∧ H' = H, ?_, ?_⟩
        · rcases hT with rfl | rfl
          · exact ⟨_, rfl, _, _, _, _, false, rfl, .ty _, ty, kit_ty (by decide +kernel), false, rfl, iteF (iteF ⟨rfl, rfl⟩)⟩
          · refine ⟨_, rfl, _, _, _, _, true, rfl, .ty _, ty, kit_ty (by decide +kernel), true, rfl, iteT ?_⟩
            exact ⟨_, rfl, _, _, _, _, true, rfl, .ty _, tx, kit_ty (by decide +kernel), true, rfl, iteF ⟨rfl, rfl⟩⟩
        rintro σ H1 ⟨rfl, eH⟩
        rw [eH]
        refine ⟨_, rfl, a, _, rfl, hlen2.1, _, rfl, b, _, rfl, hlen2.2, rfl, _, rfl, ?_⟩
        have el : (!decide (V.int ((xs.length : Nat) : Int) = V.int ((ys.length : Nat) : Int))) = false := by rw [hlen, decide_eq_true rfl]; rfl
        show if (!decide (V.int ((xs.length : Nat) : Int) = V.int ((ys.length : Nat) : Int))) = true then _ else _
        rw [el]
        refine iteF ?_
        refine ⟨_, rfl, b, _, rfl, hlen2.2, _, rfl, by omega, by omega, fun D hD => ?_⟩
        have en : ((ys.length : Nat) : Int).toNat = ys.length := rfl
        rw [en]
        refine lc_range (lo := 0) (PvL H D fun i l _ => l = allTrue i ∧ i ≤ ys.length) (PvL.start hD (stays_true hl1000) ⟨rfl, Nat.zero_le _⟩) ?_ ?_
        · intro i H2 hi q
          obtain ⟨s2, l2, hl2, el2, hi2⟩ := q
          have ei : (0 : Int) + (i : Int) = ((i : Nat) : Int) := by omega
          rw [ei]
          have hix : i < xs.length := by omega
          have hx := List.getElem?_eq_getElem hix
          have hy := List.getElem?_eq_getElem hi
          have hH2 : (H2 a = some (.tup xs) ∧ H2 b = some (.tup ys)) ∨ (H2 a = some (.lst xs) ∧ H2 b = some (.lst ys)) := hH.elim (fun z => .inl ⟨s2 _ _ z.1, s2 _ _ z.2⟩) (fun z => .inr ⟨s2 _ _ z.1, s2 _ _ z.2⟩)
          have item : ∀ (c : Addr) (zs : List V) (v : V) (Q' : VK), zs[i]? = some v → (H2 c = some (.tup zs) ∨ H2 c = some (.lst zs)) → Q' v H2 → rIx K (.ref c) (.int ((i : Nat) : Int)) H2 Q' := by
            intro c zs v Q' h1 h2 h3
            rcases h2 with h2 | h2
            · exact .inr (.inl ⟨c, zs, _, v, rfl, rfl, SqT.of h2, atI_nat h1, h3⟩)
            · exact .inl ⟨c, zs, _, v, rfl, rfl, SqL.of h2, atI_nat h1, h3⟩
          refine ⟨rfl, yesT ?_⟩
          refine ⟨_, rfl, _, rfl, item a xs _ _ hx (hH2.elim (fun z => .inl z.1) (fun z => .inr z.1)) ⟨_, rfl, _, rfl, item b ys _ _ hy (hH2.elim (fun z => .inl z.2) (fun z => .inr z.2)) ?_⟩⟩
          refine ⟨xs[i], ys[i], rfl, Dat.same s2 m _ _ (hitem i _ _ hx hy), fun H3 s3 => ?_⟩
          exact PvL.put hD (stays_true hl1000) s2 hl2 s3 ⟨by rw [el2, allTrue_succ], hi⟩
        · intro H2 q
          obtain ⟨s2, l2, hl2, el2, hi2⟩ := q
          refine ⟨D, List.replicate ys.length true, rfl, SqL.of (by rw [hl2, el2]; rfl), ?_⟩
          rw [all_replicate]
          exact k _ s2
end
end QmD

namespace QmD
open PySem L2 QmR Qm
/-! ### the orders that are made -/
theorem extO1_len (n : Nat) (r : List Nat) : (extO1 n r).length ≤ n := by
  unfold extO1
  rw [List.length_map]
  exact filter_range_len _ n
theorem extO_len (n : Nat) : ∀ rows : List (List Nat), (extO n rows).length ≤ rows.length * n
  | [] => by simp [extO]
  | r :: rows => by
    have h1 := extO1_len n r
    have h2 := extO_len n rows
    have e : extO n (r :: rows) = extO1 n r ++ extO n rows := rfl
    rw [e, List.length_append, List.length_cons, Nat.succ_mul]
    omega
theorem ordLoop_len {n : Nat} (h : n ≤ 5) : ∀ k, (ordLoop n k).length ≤ 5 ^ k
  | 0 => by simp [ordLoop]
  | k + 1 => by
    have h1 := ordLoop_len h k
    have h2 := extO_len n (ordLoop n k)
    have h3 : (ordLoop n k).length * n ≤ 5 ^ k * 5 := Nat.mul_le_mul h1 h
    rw [Nat.pow_succ]
    exact Nat.le_trans h2 h3
theorem ordLoop_small {n : Nat} (h : n ≤ 5) {k : Nat} (hk : k ≤ n) : (ordLoop n k).length ≤ 3125 :=
  Nat.le_trans (ordLoop_len h k) (Nat.pow_le_pow_right (by decide) (Nat.le_trans hk h))
theorem extO_snoc {n : Nat} {rows : List (List Nat)} {j : Nat} {r : List Nat} (h : rows[j]? = some r) : extO n (rows.take (j + 1)) = extO n (rows.take j) ++ extO1 n r := by
  rw [take_snoc h]
  unfold extO
  rw [List.flatMap_append]
  simp
theorem extO_take_len {n : Nat} (h : n ≤ 5) {k j : Nat} (hk : k ≤ n) : (extO n ((ordLoop n k).take j)).length ≤ 20000 := by
  have h1 := extO_len n ((ordLoop n k).take j)
  have h2 := ordLoop_small h hk
  have h3 : ((ordLoop n k).take j).length ≤ 3125 := by
    rw [List.length_take]
    omega
  have h4 := Nat.mul_le_mul h3 h
  omega
section
variable {P : Program} {w : World} {K : PySem.W.Frag} {mg : Str → Option Value} {base : Heap}
/-! ### _law_reflected -/
abbrev sLRefl : Stmt := top 34
theorem scLRefl : FnScope ["_law_paper_here", "_law_sequence_here", "_law_mark"] ["_law_paper_here", "_law_sequence_here"] (defScope sLRefl) := ⟨rfl, rfl, rfl, by decide +kernel, rfl, by decide +kernel, by decide +kernel⟩
theorem ok_lrefl (B : Blt mg) (D : Dfn K mg "_law_reflected" sLRefl ["_law_paper_here", "_law_sequence_here"]) : Has P w K mg base CX0 1 "_law_reflected" ["_law_paper_here", "_law_sequence_here"] spRefl := D.has fun f fd F => by
  refine F.ok scLRefl (fun vs H Q E h => ?_) (fun cdv A outer s H vs Q E hr h => ?_)
  · obtain ⟨a, b, p, s, rfl, _⟩ := h
    rfl
  · obtain ⟨a, b, p, s, rfl, ha, hb, hp, hs, hl, k⟩ := h
    have nd := scLRefl.nd
    refine ⟨_, pss_one (ps_ret (pe_backT (pe_callTy call_tuple_of (by rfl) B.tuple (by decide +kernel) (pa_cons
          (pe_lc (own := [("_law_mark", 2)]) (g := gName 2) (tt := tYes) rfl nd (pi_tup (pv 1)) (blkOk_by (N := ["_law_paper_here", "_law_sequence_here", "_law_mark"]) (sc := defScope sLRefl) (by decide +kernel))
            (fun _ _ _ _ _ => pg_name (i := 2) nd rfl (Or.inl rfl)) (fun _ _ _ _ _ => pts_nil)
            (fun _ _ _ _ _ => pe_ix (r := rIxT K) ix_tup (pv 0) (pv 2) (fun _ _ => rfl))) pa_nil)))), ?_⟩
    refine ⟨_, rfl, b, rfl, ⟨_, SqT.of hb⟩, fun D hD => ?_⟩
    have len : (s.map (g p)).length = s.length := List.length_map ..
    refine lc_tup (xs := tn s) (PvL _ D (RTake (s.map (g p)))) (PvL.start hD (RTake.stays (by omega)) rfl) (fun i H' _ q => q.1.sqT (SqT.of hb)) ?_ ?_
    · intro i x H' hx q
      obtain ⟨s1, l, hl, el⟩ := q
      obtain ⟨m, hm, rfl⟩ := tn_get hx
      have hmlt : m < p.length := hs m (List.mem_of_getElem? hm)
      refine ⟨rfl, yesT ?_⟩
      refine ⟨_, rfl, _, rfl, a, _, _, _, rfl, rfl, SqT.of (s1 _ _ ha), tn_at hmlt, ?_⟩
      have hg : (s.map (g p))[i]? = some (g p m) := by rw [List.getElem?_map, hm]; rfl
      exact PvL.put hD (RTake.stays (by omega)) s1 hl (Same.refl _) (RTake.more (H := H') hg el)
    · intro H' q
      obtain ⟨s1, l, hl, el⟩ := q
      have el' : l = tn (s.map (g p)) := by
        rw [el, List.take_of_length_le]
        rw [len, tn_len]
        exact Nat.le_refl _
      refine ⟨D, l, rfl, .inl ⟨SqL.of hl, fun q hq => ?_⟩⟩
      refine ⟨q, l, rfl, SqT.of upd_same, fun t ht => ?_⟩
      have s2 : Same H' (upd H' q (.tup l)) := Same.new hq
      refine k _ t ((s1.trans s2).trans (Same.new ht)) ?_
      rw [upd_same, el', ← refl_map]
      unfold tn
      rw [List.map_reverse]
/-! ### _law_orders -/
abbrev sOrd : Stmt := top 35
def spOrd : Sp := fun vs H Q _ => ∃ n : Nat, vs = [.int ((n : Nat) : Int)] ∧ n ≤ 5 ∧
  ∀ (H' : Hp) (L : Addr) (as : List Addr), Same H H' → H L = none → H' L = some (.lst (as.map V.ref)) → RowsAt H' as (orders n) → Q (.ref L) H'
theorem scOrd : FnScope ["_law_many", "_law_rows", "_law_turn", "_law_longer", "_law_row", "_law_mark"] ["_law_many"] (defScope sOrd) := ⟨rfl, rfl, rfl, by decide +kernel, rfl, by decide +kernel, by decide +kernel⟩
theorem ok_ord (B : Blt mg) (D : Dfn K mg "_law_orders" sOrd ["_law_many"]) : Has P w K mg base CX0 1 "_law_orders" ["_law_many"] spOrd := D.has fun f fd F => by
  refine F.ok scOrd (fun vs H Q E h => ?_) (fun cdv A outer s H vs Q E hr h => ?_)
  · obtain ⟨n, rfl, _⟩ := h
    rfl
  · obtain ⟨n, rfl, h5, k⟩ := h
    have nd := scOrd.nd
    refine ⟨_, pss_cons (ps_set (i := 1) nd rfl (Or.inl rfl) (pe_lst (pa_cons (pe_tup pa_nil) pa_nil)))
      (pss_cons (ps_for PassesOwn.never rfl (pi_range1 rfl B.range (pa_cons (pv 0) pa_nil)) (pg_name (i := 2) nd rfl (Or.inl rfl))
        (pss_cons (ps_set (i := 3) nd rfl (Or.inl rfl) (pe_lst pa_nil))
        (pss_cons (ps_for PassesOwn.never rfl (pi_list (pv 1)) (pg_name (i := 4) nd rfl (Or.inr rfl))
          (pss_one (ps_expr (pe_bm PySem.F.plainAttrs_list PySem.F.slot_list_extend PySem.F.type_list_extend mt_extend (pv 3) (pa_cons
            (pe_lc (own := [("_law_mark", 5)]) (g := gName 5) (tt := tTest (tOp (rIn K true) (tVar 5) (tVar 4))) rfl nd
              (pi_range1 rfl B.range (pa_cons (pv 0) pa_nil)) (blkOk_by (N := ["_law_many", "_law_rows", "_law_turn", "_law_longer", "_law_row", "_law_mark"]) (sc := defScope sOrd) (by decide +kernel))
              (fun _ _ _ _ _ => pg_name (i := 5) nd rfl (Or.inl rfl))
              (fun _ _ _ _ _ => pts_one (pt_cmpR (r := rIn K true) op_notIn_seq (pv 5) (pv 4) (by rfl)))
              (fun _ _ _ _ _ => pe_op (r := rCatA K) op_catA (pv 4) (pe_tup (pa_cons (pv 5) pa_nil)))) pa_nil)))))
        (pss_one (ps_set (i := 1) nd rfl (Or.inl rfl) (pv 3))))))
      (pss_one (ps_ret (pv 1)))), ?_⟩
    refine ⟨Nat.zero_le _, fun t ht => ⟨by show 1 ≤ sizeLine; rw [sizeLine_eq]; decide, fun L hL => ?_⟩⟩
    have st0 : Same H (upd H t (.tup [])) := Same.new ht
    have htL : t ≠ L := fun e => by
      rw [← e, upd_same] at hL
      cases hL
    have sL : Same H (upd (upd H t (.tup [])) L (.lst [V.ref t])) := st0.trans (Same.new hL)
    have hL0 : H L = none := st0.free hL
    have en : ((n : Nat) : Int).toNat = n := rfl
    refine ⟨_, rfl, _, rfl, by omega, by omega, ?_⟩
    rw [en]
    refine for_range (lo := 0) (n := n) (fun i σ H' => ∃ (L : Addr) (as : List Addr) (v1 v2 v3 : Option V), σ = [some (.int ((n : Nat) : Int)), some (.ref L), v1, v2, v3, none] ∧ Same H H' ∧ H L = none ∧ H' L = some (.lst (as.map V.ref)) ∧ RowsAt H' as (ordLoop n i) ∧ i ≤ n)
      ⟨L, [t], none, none, none, rfl, sL, hL0, upd_same, .cons (by rw [upd_ne htL, upd_same]; rfl) .nil, Nat.zero_le _⟩ ?_ ?_
    · rintro i σ H1 hi ⟨L1, as, v1, v2, v3, rfl, s1, hL1n, hL1, hR1, hile⟩
      refine ⟨Nat.zero_le _, fun G hG => ?_⟩
      have sG : Same H1 (upd H1 G (.lst [])) := Same.new hG
      have stR : Stays (fun j l H' => ∃ bs : List Addr, l = bs.map V.ref ∧ RowsAt H' bs (extO n ((ordLoop n i).take j))) :=
        ⟨fun j l H1 H2 t ⟨bs, e, r⟩ => ⟨bs, e, rows_tups t r⟩, fun j l H1 ⟨bs, e, r⟩ => by
          rw [e, List.length_map, rows_len_as r]
          have := extO_take_len h5 (k := i) (j := j) hile
          omega⟩
      refine ⟨_, rfl, L1, rfl, ⟨_, SqL.of (sG _ _ hL1)⟩, ?_⟩
      refine for_list (K := K) (a := L1) (xs := as.map V.ref) (fun j σ H' => ∃ v : Option V, σ = [some (.int ((n : Nat) : Int)), some (.ref L1), some (.int (0 + (i : Int))), some (.ref G), v, none] ∧
          PvL H1 G (fun j l H' => ∃ bs : List Addr, l = bs.map V.ref ∧ RowsAt H' bs (extO n ((ordLoop n i).take j))) j H')
        ⟨v3, rfl, PvL.start hG stR ⟨[], rfl, .nil⟩⟩ (fun j σ H' _ ⟨_, _, q⟩ => q.1.seq (SqL.of hL1)) ?_ ?_
      · rintro j x σ H2 hx ⟨v, rfl, s2, l, hl, bs, el, hbs⟩
        obtain ⟨ra, row, rfl, hra, hrow, hrat⟩ := rows_at (rows_same s2 hR1) hx
        obtain ⟨rl, rnd, rlt⟩ := (mem_ordLoop n i row).mp (List.mem_of_getElem? hrow)
        refine ⟨_, rfl, .inl ⟨rfl, _, SqL.of hl⟩, ?_⟩
        refine ⟨_, rfl, _, rfl, by omega, by omega, fun D hD => ?_⟩
        rw [en]
        have st : Stays (RRows n fun k => ((List.range k).filter fun m => !row.contains m).map fun m => row ++ [m]) := RRows.stays fun k hk => by
          rw [List.length_map]
          have := filter_range_len (fun m => !row.contains m) k
          omega
        refine lc_range (lo := 0) (PvL H2 D _) (PvL.start hD st ⟨Nat.zero_le _, [], rfl, .nil⟩) ?_ ?_
        · intro m H3 hm q
          obtain ⟨s3, l3, hl3, hR3⟩ := q
          have em : (0 : Int) + (m : Int) = ((m : Nat) : Int) := by omega
          rw [em]
          have hr3 := s3 _ _ hrat
          have fs := filter_range_succ (fun m => !row.contains m) m
          refine ⟨rfl, _, rfl, _, rfl, ra, _, rfl, .inr (SqT.of hr3), rfl, flat_tn _, _, rfl, ?_⟩
          show if (!inV (.int ((m : Nat) : Int)) (tn row)) = true then _ else _
          rw [inV_tn]
          by_cases c : (!row.contains m) = true
          · rw [if_pos c]
            refine ⟨_, rfl, _, rfl, by show 1 ≤ sizeLine; rw [sizeLine_eq]; decide, fun t2 ht2 => ?_⟩
            refine cat_row (m := m) ((Same.new ht2) _ _ hr3) upd_same (by omega) fun H6 q6 s6 hq6 => ?_
            have s36 : Same H3 H6 := (Same.new ht2).trans s6
            refine PvL.put hD st s3 hl3 s36 (hR3.more hm s36 hq6 ?_)
            rw [fs, if_pos c, List.map_append]
            rfl
          · rw [if_neg c]
            refine PvL.skip s3 hl3 (Same.refl _) ?_
            obtain ⟨_, as3, el3, r3⟩ := hR3
            refine ⟨hm, as3, el3, ?_⟩
            dsimp only
            rw [fs, if_neg c, List.append_nil]
            exact r3
        · intro H3 q
          obtain ⟨s3, l3, hl3, _, as3, el3, r3⟩ := q
          have hG3 := s3 _ _ hl
          have hlen : l.length + l3.length ≤ 100000 := by
            rw [el, el3, List.length_map, List.length_map, rows_len_as hbs, rows_len_as r3]
            have e1 := extO_take_len h5 (k := i) (j := j) hile
            have e2 := extO1_len n row
            unfold extO1 at e2
            dsimp only
            omega
          refine ⟨G, D, _, _, rfl, rfl, hG3, hl3, Nat.le_trans hlen (by rw [sizeLine_eq]; decide), ?_⟩
          refine ⟨_, rfl, ?_, _, upd_same, bs ++ as3, by rw [el, el3, List.map_append], ?_⟩
          · exact (s2.trans s3).put hG
          · rw [extO_snoc hrow]
            exact rows_tups (tups_put hG3) (rows_app (rows_same s3 hbs) r3)
      · rintro σ H2 ⟨v, rfl, s2, l, hl, bs, el, hbs⟩
        refine ⟨_, rfl, ?_⟩
        refine ⟨G, bs, _, _, _, rfl, s1.trans s2, s1.free hG, by rw [hl, el], ?_, hi⟩
        have e : (ordLoop n i).take (as.map V.ref).length = ordLoop n i := by
          rw [List.length_map, rows_len_as hR1]
          exact List.take_length
        rw [e] at hbs
        exact hbs
    · rintro σ H1 ⟨L1, as, v1, v2, v3, rfl, s1, hL1n, hL1, hR1, _⟩
      exact ⟨_, rfl, k H1 L1 as s1 hL1n hL1 hR1⟩
/-! ### _law_told -/
abbrev sTold : Stmt := top 36
def spTold : Sp := fun vs H Q _ => ∃ (a : Addr) (p : List Nat) (n : Nat), vs = [.ref a, .int ((n : Nat) : Int)] ∧ H a = some (.tup (tn p)) ∧ Paper p ∧
  (n < (rowsM p).length → ∀ (H' : Hp) (q : Addr) (r : List Nat), Same H H' → (rowsM p)[n]? = some r → H' q = some (.tup (tn r)) → Q (.ref q) H') ∧
  ((rowsM p).length ≤ n → ∀ (H' : Hp) (q : Addr), Same H H' → H' q = some (.lst [.str "index"]) → Q (.ref q) H')
theorem scTold : FnScope ["_law_paper_here", "_law_index", "problem"] ["_law_paper_here", "_law_index"] (defScope sTold) := ⟨rfl, rfl, rfl, by decide +kernel, rfl, by decide +kernel, by decide +kernel⟩
theorem ok_told {C fI : Addr} {fdI : FuncData} (T : ExcT K mg C fI fdI) (D : Dfn K mg "_law_told" sTold ["_law_paper_here", "_law_index"]) (hN : Has P w K mg base (L2.CX P w) 4 "nth_renaming" ["paper", "index"] (spNth C)) :
    Has P w K mg base CX0 5 "_law_told" ["_law_paper_here", "_law_index"] spTold := D.has fun f fd F => by
  obtain ⟨fN, fdN, mN, kN, bN, GN⟩ := hN.ex
  refine F.ok scTold (fun vs H Q E h => ?_) (fun cdv A outer s H vs Q E hr h => ?_)
  · obtain ⟨a, p, n, rfl, _⟩ := h
    rfl
  · obtain ⟨a, p, n, rfl, ha, hp, kY, kX⟩ := h
    have nd := scTold.nd
    refine ⟨_, pss_one (ps_try_as (i := 2) (tb := fun W => tRet (tCallS (spNth C) (WE W) (tCons (tVar 0) (tCons (tVar 1) tNil)))) (ts := fun a cls d => tRet (tLst (tCons (tXf a cls d C "name" (tVar 2)) tNil))) (Wout := fun _ _ _ _ => False)
      rfl rfl nd rfl rfl ⟨rfl, by decide, Or.inl T.gC⟩ takes0
      (fun W pn xe tk _ => pss_one (ps_ret (by exact (pe_callS GN hr rfl mN kN bN (fun σ => passAt tk σ) (by exact (pa_cons (pv 0) (pa_cons (pv 1) pa_nil)))))))
      (fun a oe cls d pn hz hf => pss_one (ps_ret (by exact (pe_lst (pa_cons (pe_xf T.xf T.noN hz hf (pv 2)) pa_nil)))))), ?_⟩
    refine ⟨_, rfl, _, rfl, a, p, n, rfl, ha, hp, fun c H1 q r s1 hr1 hq => ?_, fun c H1 d s1 hd hdx => ?_⟩
    · exact kY c H1 q r s1 hr1 hq
    · refine ⟨true, T.te, fun _ e he => ?_, fun q => Bool.noConfusion q⟩
      refine ⟨_, rfl, rfl, rfl, d, _, _, rfl, hdx, rfl, by show 1 ≤ sizeLine; rw [sizeLine_eq]; decide, fun l hl => ?_⟩
      exact kX c _ l (s1.trans (Same.new hl)) upd_same
end
end QmD

namespace QmD
open PySem L2 QmR Qm
theorem seqIx {d n : Nat} (h : d < n) : seqIndex? ((d : Nat) : Int) n = some d := by
  unfold seqIndex?
  have h1 : ¬ ((d : Nat) : Int) < 0 := by omega
  simp only [h1, if_false]
  have h2 : (decide (0 ≤ ((d : Nat) : Int)) && decide (((d : Nat) : Int) < ((n : Nat) : Int))) = true := by
    rw [decide_eq_true (by omega), decide_eq_true (by omega)]
    rfl
  rw [if_pos h2]
  rfl
theorem ixAt {a n : Nat} (h : a < n) : ixN n ((a : Nat) : Int) = some a := by
  unfold ixN
  rw [if_pos (by omega), if_pos (by omega)]
  rfl
theorem tn_erase : ∀ (l : List Nat) (i : Nat), (tn l).eraseIdx i = tn (l.eraseIdx i)
  | [], _ => rfl
  | _ :: _, 0 => rfl
  | x :: l, i + 1 => by
    have ih := tn_erase l i
    show V.int ((x : Nat) : Int) :: (tn l).eraseIdx i = V.int ((x : Nat) : Int) :: tn (l.eraseIdx i)
    rw [ih]
theorem tn_set (p : List Nat) (a v : Nat) : (tn p).set a (.int ((v : Nat) : Int)) = tn (p.set a v) := by
  unfold tn
  rw [List.map_set]
theorem tn_ints (r : List Nat) : tn r = (r.map fun n => ((n : Nat) : Int)).map V.int := by
  unfold tn
  rw [List.map_map]
  rfl
theorem rg_tn (n : Nat) : rgV 0 ((n : Nat) : Int) = tn (List.range n) := by
  unfold rgV tn
  have e : (((n : Nat) : Int) - 0).toNat = n := by omega
  rw [e]
  refine List.map_congr_left fun i _ => ?_
  show V.int (0 + ((i : Nat) : Int)) = V.int ((i : Nat) : Int)
  rw [Int.zero_add]
/-- a list of numbers beside the stream is changed -/
theorem Strm.ints {H : Hp} {S L : Addr} (h : Strm H S) (ne : L ≠ S) (ms : List Int) : Strm (upd H L (.lst (ms.map V.int))) S := by
  obtain ⟨A, ns, c, k, h1, h2, h3, h4⟩ := h
  by_cases e : A = L
  · subst e
    exact ⟨A, ms, c, k, by rw [upd_ne (Ne.symm ne)]; exact h1, upd_same, h3, h4⟩
  · exact ⟨A, ns, c, k, by rw [upd_ne (Ne.symm ne)]; exact h1, by rw [upd_ne e]; exact h2, h3, h4⟩
theorem SameBut.free {S : Addr} {H H' : Hp} (h : SameBut S H H') (hs : Strm H' S) {l : Addr} (hl : H' l = none) : H l = none ∧ l ≠ S := by
  have ne : l ≠ S := fun e => by
    obtain ⟨x, hx⟩ := hs.lst
    rw [e, hx] at hl
    cases hl
  refine ⟨?_, ne⟩
  cases q : H l with
  | none => rfl
  | some o =>
    have := h l o ne q
    rw [hl] at this
    cases this
/-- what is not of H is changed -/
theorem SameBut.new {S : Addr} {H H' : Hp} {l : Addr} {o : HO} (h : SameBut S H H') (hl : H l = none) : SameBut S H (upd H' l o) := fun b u n e => by
  rw [upd_ne (ne_of_none e hl)]
  exact h b u n e
/-- the lists of a paper that is being drawn -/
structure Draw (S L R : Addr) (H H' : Hp) (l p : List Nat) : Prop where
  sb : SameBut S H H'
  st : Strm H' S
  hl : H' L = some (.lst (tn l))
  hp : H' R = some (.lst (tn p))
structure DrawAt (S L R : Addr) (H : Hp) : Prop where
  ls : L ≠ S
  rs : R ≠ S
  lr : L ≠ R
  nl : H L = none
  nr : H R = none
section
variable {S L R : Addr} {H H' H2 : Hp} {l p : List Nat}
theorem Draw.next (d : Draw S L R H H' l p) (c : DrawAt S L R H) (s : SameBut S H' H2) (st : Strm H2 S) : Draw S L R H H2 l p :=
  ⟨d.sb.trans s, st, s _ _ c.ls d.hl, s _ _ c.rs d.hp⟩
theorem Draw.setL (d : Draw S L R H H' l p) (c : DrawAt S L R H) (l' : List Nat) : Draw S L R H (upd H' L (.lst (tn l'))) l' p :=
  ⟨d.sb.new c.nl, by rw [tn_ints]; exact d.st.ints c.ls _, upd_same, by rw [upd_ne (Ne.symm c.lr)]; exact d.hp⟩
theorem Draw.setR (d : Draw S L R H H' l p) (c : DrawAt S L R H) (p' : List Nat) : Draw S L R H (upd H' R (.lst (tn p'))) l p' :=
  ⟨d.sb.new c.nr, by rw [tn_ints]; exact d.st.ints c.rs _, by rw [upd_ne c.lr]; exact d.hl, upd_same⟩
end
section
variable {P : Program} {w : World} {K : PySem.W.Frag} {mg : Str → Option Value} {base : Heap}
/-! ### _law_paper -/
abbrev sLPap : Stmt := top 32
def spLPap : Sp := fun vs H Q _ => ∃ (S : Addr), vs = [.ref S, .int 5] ∧ Strm H S ∧
  ∀ (H' : Hp) (q : Addr) (p : List Nat), SameBut S H H' → Strm H' S → Paper p → H' q = some (.tup (tn p)) → Q (.ref q) H'
theorem scLPap : FnScope ["_law_stream_here", "_law_most", "_law_many", "_law_left", "_law_paper_here", "_law_turn", "_law_one", "_law_other"] ["_law_stream_here", "_law_most"] (defScope sLPap) := ⟨rfl, rfl, rfl, by decide +kernel, rfl, by decide +kernel, by decide +kernel⟩
theorem ok_lpap (B : Blt mg) (D : Dfn K mg "_law_paper" sLPap ["_law_stream_here", "_law_most"]) (hN : Has P w K mg base CX0 1 "_law_next" ["_law_stream_here", "_law_many"] spNext) :
    Has P w K mg base CX0 2 "_law_paper" ["_law_stream_here", "_law_most"] spLPap := D.has fun f fd F => by
  obtain ⟨fN, fdN, mN, kN, bN, GN⟩ := hN.ex
  refine F.ok scLPap (fun vs H Q E h => ?_) (fun cdv A outer s H vs Q E hr h => ?_)
  · obtain ⟨S, rfl, _⟩ := h
    rfl
  · obtain ⟨S, rfl, hS, k⟩ := h
    have nd := scLPap.nd
    refine ⟨_, pss_cons (ps_set (i := 2) nd rfl (Or.inl rfl) (pe_op op_add pe_int (pe_call GN hr rfl mN kN bN .nil pass0 (pa_cons (pv 0) (pa_cons (pv 1) pa_nil)))))
      (pss_cons (ps_set (i := 3) nd rfl (Or.inl rfl) (pe_listRg rfl rfl B.list (prg_1 rfl B.range (pv 2))))
      (pss_cons (ps_set (i := 4) nd rfl (Or.inl rfl) (pe_listRg rfl rfl B.list (prg_1 rfl B.range (pv 2))))
      (pss_cons (ps_for PassesOwn.never rfl (pi_range1 rfl B.range (pa_cons (pe_op op_fdiv (pv 2) pe_int) pa_nil)) (pg_name (i := 5) nd rfl (Or.inl rfl))
        (pss_one (ps_if (pt_cmpR op_eq (pe_call GN hr rfl mN kN bN .nil pass0 (pa_cons (pv 0) (pa_cons pe_int pa_nil))) pe_int (nomark _))
          (pss_cons (ps_set (i := 6) nd rfl (Or.inl rfl) (pe_bm PySem.F.plainAttrs_list PySem.F.slot_list_pop PySem.F.type_list_pop mt_popAt (pv 3) (pa_cons (pe_call GN hr rfl mN kN bN .nil pass0 (pa_cons (pv 0) (pa_cons (pe_callB (r := rLen K) callLen (by rfl) B.len PySem.boot_len (pa_cons (pv 3) pa_nil)) pa_nil))) pa_nil)))
          (pss_cons (ps_set (i := 7) nd rfl (Or.inl rfl) (pe_bm PySem.F.plainAttrs_list PySem.F.slot_list_pop PySem.F.type_list_pop mt_popAt (pv 3) (pa_cons (pe_call GN hr rfl mN kN bN .nil pass0 (pa_cons (pv 0) (pa_cons (pe_callB (r := rLen K) callLen (by rfl) B.len PySem.boot_len (pa_cons (pv 3) pa_nil)) pa_nil))) pa_nil)))
          (pss_cons (ps_asg (pv 7) (pg_sub (pv 4) (pv 6) set_list))
          (pss_one (ps_asg (pv 6) (pg_sub (pv 4) (pv 7) set_list)))))) pss_nil)))
      (pss_one (ps_ret (pe_callTy call_tuple_of (by rfl) B.tuple (by decide +kernel) (pa_cons (pv 4) pa_nil))))))), ?_⟩
    refine ⟨_, rfl, _, rfl, S, 5, rfl, hS, by omega, by omega, fun H1 d s1 hS1 hd => ⟨_, _, rfl, rfl, ?_⟩⟩
    obtain ⟨n, en, hn1, hn5⟩ : ∃ n : Nat, (1 : Int) + ((d : Nat) : Int) = ((n : Nat) : Int) ∧ 1 ≤ n ∧ n ≤ 5 := ⟨d + 1, by omega, by omega, by omega⟩
    dsimp only
    rw [en]
    refine ⟨_, rfl, _, rfl, RgOk.of_le (by omega) (by omega) (by omega) (by omega), fun L hL => ?_⟩
    obtain ⟨nL, lS⟩ := s1.free hS1 hL
    rw [rg_tn]
    refine ⟨_, rfl, _, rfl, RgOk.of_le (by omega) (by omega) (by omega) (by omega), fun R hR => ?_⟩
    rw [rg_tn]
    have neLR : L ≠ R := ne_of_none upd_same hR
    have hR1 : H1 R = none := by
      rw [upd_ne (Ne.symm neLR)] at hR
      exact hR
    obtain ⟨nR, rS⟩ := s1.free hS1 hR1
    have c : DrawAt S L R H := ⟨lS, rS, neLR, nL, nR⟩
    have d0 : Draw S L R H (upd (upd H1 L (.lst (tn (List.range n)))) R (.lst (tn (List.range n)))) (List.range n) (List.range n) := by
      have sL : Strm (upd H1 L (.lst (tn (List.range n)))) S := by rw [tn_ints]; exact hS1.ints lS _
      refine ⟨(s1.new nL).new nR, ?_, by rw [upd_ne neLR, upd_same], upd_same⟩
      rw [tn_ints] at sL ⊢
      exact sL.ints rS _
    refine ⟨_, rfl, _, _, rfl, rfl, ⟨by decide, by decide⟩, _, rfl, ?_⟩
    have hv : 0 ≤ ((n : Nat) : Int) / 2 ∧ ((n : Nat) : Int) / 2 < 100 := by omega
    refine ⟨by omega, by omega, ?_⟩
    have eh : (((n : Nat) : Int) / 2).toNat = n / 2 := by omega
    rw [eh]
    refine for_range (lo := 0) (n := n / 2) (fun t σ H' => ∃ (v1 v2 v3 : Option V) (l p : List Nat), σ = [some (.ref S), some (.int 5), some (.int ((n : Nat) : Int)), some (.ref L), some (.ref R), v1, v2, v3] ∧ Draw S L R H H' l p ∧ Half n l p ∧ n ≤ l.length + 2 * t)
      ⟨none, none, none, _, _, rfl, d0, Half.start n, by rw [List.length_range]; omega⟩ ?_ ?_
    · rintro t σ H2 ht ⟨v1, v2, v3, l, p, rfl, dr, hf, hlen⟩
      have hl2 : 2 ≤ l.length := by omega
      have hl1000 : l.length ≤ 1000 := by
        have := hf.ll
        omega
      refine ⟨_, rfl, S, 2, rfl, dr.st, by omega, by omega, fun H3 d3 s3 hS3 hd3 => ?_⟩
      have dr3 := dr.next c s3 hS3
      refine ⟨rfl, _, rfl, ?_⟩
      refine ite2 (fun _ => ?_) (fun _ => ⟨_, _, _, l, p, rfl, dr3, hf, by omega⟩)
      -- the first one
      refine ⟨_, rfl, .inl ⟨rfl, _, SqL.of dr3.hl⟩, _, rfl, _, rfl, L, _, rfl, .inl (SqL.of dr3.hl), S, l.length, ?_, hS3, by omega, hl1000, fun H4 i s4 hS4 hi => ?_⟩
      · rw [tn_len]
        rfl
      have dr4 := dr3.next c s4 hS4
      refine ⟨L, tn l, _, i, .int ((l[i] : Nat) : Int), rfl, rfl, dr4.hl, by omega, by omega, seqIx (by rw [tn_len]; exact hi), ?_, ?_⟩
      · rw [List.getElem?_map, List.getElem?_eq_getElem hi]
        rfl
      rw [tn_erase]
      have dr5 := dr4.setL c (l.eraseIdx i)
      have e1 := erase_len hi
      -- the other one
      refine ⟨_, rfl, .inl ⟨rfl, _, SqL.of dr5.hl⟩, _, rfl, _, rfl, L, _, rfl, .inl (SqL.of dr5.hl), S, (l.eraseIdx i).length, ?_, dr5.st, by omega, by omega, fun H6 j s6 hS6 hj => ?_⟩
      · rw [tn_len]
        rfl
      have dr6 := dr5.next c s6 hS6
      refine ⟨L, tn (l.eraseIdx i), _, j, .int (((l.eraseIdx i)[j] : Nat) : Int), rfl, rfl, dr6.hl, by omega, by omega, seqIx (by rw [tn_len]; exact hj), ?_, ?_⟩
      · rw [List.getElem?_map, List.getElem?_eq_getElem hj]
        rfl
      rw [tn_erase]
      have dr7 := dr6.setL c ((l.eraseIdx i).eraseIdx j)
      have e2 := erase_len hj
      have hp1 := hf.len
      have ha : l[i] < n := (hf.fix _ (List.getElem_mem _)).1
      have hb : (l.eraseIdx i)[j] < n := (hf.fix _ ((erase_parts hi hf.nd).2.2 _ (List.getElem_mem _))).1
      -- paper[one] = other, paper[other] = one
      refine ⟨_, rfl, _, rfl, _, rfl, R, _, _, _, rfl, rfl, dr7.hp, ixAt (by rw [tn_len, hp1]; exact ha), ?_⟩
      rw [tn_set]
      have dr8 := dr7.setR c (p.set l[i] (l.eraseIdx i)[j])
      refine ⟨_, rfl, _, rfl, _, rfl, R, _, _, _, rfl, rfl, dr8.hp, ixAt (by rw [tn_len, List.length_set, hp1]; exact hb), ?_⟩
      rw [tn_set]
      have dr9 := dr8.setR c ((p.set l[i] (l.eraseIdx i)[j]).set (l.eraseIdx i)[j] l[i])
      exact ⟨_, _, _, _, _, rfl, dr9, hf.pair hi hj, by omega⟩
    · rintro σ H2 ⟨v1, v2, v3, l, p, rfl, dr, hf, hlen⟩
      refine ⟨_, rfl, R, _, rfl, .inl ⟨SqL.of dr.hp, fun q hq => ?_⟩⟩
      obtain ⟨nq, qS⟩ := dr.sb.free dr.st hq
      exact k _ q p (dr.sb.new nq) (dr.st.same (Same.new hq)) (hf.paper hn1 hn5) upd_same
end
end QmD

namespace QmD
open PySem L2 QmR Qm
section
variable {P : Program} {w : World} {K : PySem.W.Frag} {mg : Str → Option Value} {base : Heap}
/-! ### _law_sequence -/
abbrev sLSeq : Stmt := top 33
def spLSeq : Sp := fun vs H Q _ => ∃ (S a : Addr) (p : List Nat), vs = [.ref S, .ref a, .int 8] ∧ Strm H S ∧ H a = some (.tup (tn p)) ∧ Paper p ∧
  ∀ (H' : Hp) (q : Addr) (s : List Nat), SameBut S H H' → Strm H' S → Seq p s → s.length ≤ 8 → H' q = some (.tup (tn s)) → Q (.ref q) H'
theorem scLSeq : FnScope ["_law_stream_here", "_law_paper_here", "_law_most", "_law_k"] ["_law_stream_here", "_law_paper_here", "_law_most"] (defScope sLSeq) := ⟨rfl, rfl, rfl, by decide +kernel, rfl, by decide +kernel, by decide +kernel⟩
theorem ok_lseq (B : Blt mg) (D : Dfn K mg "_law_sequence" sLSeq ["_law_stream_here", "_law_paper_here", "_law_most"]) (hN : Has P w K mg base CX0 1 "_law_next" ["_law_stream_here", "_law_many"] spNext) :
    Has P w K mg base CX0 2 "_law_sequence" ["_law_stream_here", "_law_paper_here", "_law_most"] spLSeq := D.has fun f fd F => by
  obtain ⟨fN, fdN, mN, kN, bN, GN⟩ := hN.ex
  refine F.ok scLSeq (fun vs H Q E h => ?_) (fun cdv A outer s H vs Q E hr h => ?_)
  · obtain ⟨S, a, p, rfl, _⟩ := h
    rfl
  · obtain ⟨S, a, p, rfl, hS, ha, hp, k⟩ := h
    have nd := scLSeq.nd
    refine ⟨_, pss_one (ps_ret (pe_callTy call_tuple_of (by rfl) B.tuple (by decide +kernel) (pa_cons
          (pe_lc (own := [("_law_k", 3)]) (g := gName 3) (tt := tYes) rfl nd (pi_range1 rfl B.range (pa_cons (pe_call GN hr rfl mN kN bN .nil pass0 (pa_cons (pv 0) (pa_cons (pe_op op_add (pv 2) pe_int) pa_nil))) pa_nil))
            (blkOk_by (N := ["_law_stream_here", "_law_paper_here", "_law_most", "_law_k"]) (sc := defScope sLSeq) (by decide +kernel))
            (fun _ _ _ _ _ => pg_name (i := 3) nd rfl (Or.inl rfl)) (fun _ _ _ _ _ => pts_nil)
            (fun _ _ _ _ _ => pe_call GN hr rfl mN kN bN .nil pass0 (pa_cons (pv 0) (pa_cons (pe_callB (r := rLen K) callLen (by rfl) B.len PySem.boot_len (pa_cons (pv 1) pa_nil)) pa_nil)))) pa_nil))), ?_⟩
    refine ⟨_, rfl, _, rfl, _, _, rfl, rfl, S, 9, rfl, hS, by omega, by omega, fun H1 d s1 hS1 hd => ?_⟩
    have naS : a ≠ S := fun e => by
      obtain ⟨l, hl⟩ := hS.lst
      rw [e, hl] at ha
      cases ha
    have ha1 := s1 _ _ naS ha
    refine ⟨_, rfl, by omega, by omega, fun D hD => ?_⟩
    obtain ⟨nD, DS⟩ := s1.free hS1 hD
    have ed : ((d : Nat) : Int).toNat = d := rfl
    rw [ed]
    have h5 := hp.le5
    have h1 := hp.pos
    refine lc_range (lo := 0) (n := d) (fun i H' => SameBut S H1 H' ∧ Strm H' S ∧ ∃ s : List Nat, H' D = some (.lst (tn s)) ∧ Seq p s ∧ s.length = i)
      ⟨(Same.new hD).but S, hS1.same (Same.new hD), [], upd_same, fun m hm => (by cases hm), rfl⟩ ?_ ?_
    · rintro i H2 hi ⟨s2, hS2, sq, hl, hsq, hlen⟩
      refine ⟨rfl, yesT ?_⟩
      refine ⟨_, rfl, _, rfl, a, _, rfl, .inr (SqT.of (s2 _ _ naS ha1)), S, p.length, by rw [tn_len]; rfl, hS2, h1, by omega, fun H3 e s3 hS3 he => ?_⟩
      have hl3 := s3 _ _ DS hl
      refine ⟨tn sq, hl3, by rw [tn_len, hlen, sizeLine_eq]; omega, ?_⟩
      refine ⟨(s2.trans s3).new hD, ?_, sq ++ [e], ?_, fun m hm => ?_, by rw [List.length_append, hlen]; rfl⟩
      · rw [← tn_snoc, tn_ints]
        exact hS3.ints DS _
      · rw [upd_same, tn_snoc]
      · rcases List.mem_append.mp hm with hm | hm
        · exact hsq m hm
        · have e1 : m = e := by simpa using hm
          rw [e1]
          exact he
    · rintro H2 ⟨s2, hS2, sq, hl, hsq, hlen⟩
      refine ⟨D, _, rfl, .inl ⟨SqL.of hl, fun q hq => ?_⟩⟩
      have s12 := s1.trans s2
      obtain ⟨nq, qS⟩ := s12.free hS2 hq
      exact k _ q sq (s12.new nq) (hS2.same (Same.new hq)) hsq (by omega) upd_same
end
end QmD

namespace QmD
open PySem L2 QmR Qm
/-! ### the law: its text, its slots, what holds between its statements -/
abbrev sLaw : Stmt := top 37
abbrev NL : List Str := ["_law_script", "_law_stream_here", "_law_paper_here", "_law_many", "_law_row", "_law_rows", "_law_own", "_law_pairs", "_law_due", "_law_k", "_law_turn", "_law_at", "_law_first", "_law_chosen", "_law_second", "_law_alike", "_law_other", "_law_leads", "_law_told_here", "_law_mark"]
theorem scLaw : FnScope NL ["_law_script"] (defScope sLaw) := ⟨rfl, rfl, rfl, by decide +kernel, rfl, by decide +kernel, by decide +kernel⟩
abbrev XL (P : Program) (w : World) (K : PySem.W.Frag) (mg : Str → Option Value) (base : Heap) (f : Addr) (cdv : Value) (A : Around) (outer : List Env) (s : Shared) (H : Hp) (E : XK) : Cx :=
  (cxOf CX0 P w K mg base NL "law" (defScope sLaw) f cdv A outer s H E).nox
abbrev sg (v0 v1 v2 v3 v4 v5 v6 v7 v8 v9 v10 v11 v12 v13 v14 v15 v16 v17 v18 : Option V) : L2.St := [v0, v1, v2, v3, v4, v5, v6, v7, v8, v9, v10, v11, v12, v13, v14, v15, v16, v17, v18, none]
/-- a weaker reading -/
theorem pss_weak {X : Cx} {st : List Stmt} {t u : TS} (h : PSs X st t) (le : ∀ D σ H, u D σ H → t D σ H) : PSs X st u := ⟨fun pins s σ H D I q => h.run pins s σ H D I (le D σ H q)⟩
structure LS (S a L : Addr) (as : List Addr) (p : List Nat) (H : Hp) : Prop where
  st : Strm H S
  ha : H a = some (.tup (tn p))
  hL : H L = some (.lst (as.map V.ref))
  hR : RowsAt H as (rowsM p)
theorem LS.ne {S a L : Addr} {as : List Addr} {p : List Nat} {H : Hp} (h : LS S a L as p H) : L ≠ S := fun e => by
  obtain ⟨A, ns, c, k, h1, _⟩ := h.st
  have h2 := h.hL
  rw [e, h1] at h2
  have z := HO.lst.inj (Option.some.inj h2)
  cases as with
  | nil => cases z
  | cons x as =>
    cases as with
    | nil => cases z
    | cons y as => cases z
theorem tup_ne {S b : Addr} {H : Hp} {xs : List V} (st : Strm H S) (h : H b = some (.tup xs)) : b ≠ S := fun e => by
  obtain ⟨l, hl⟩ := st.lst
  rw [e, hl] at h
  cases h
theorem LS.but {S a L : Addr} {as : List Addr} {p : List Nat} {H H' : Hp} (h : LS S a L as p H) (s : SameBut S H H') (st : Strm H' S) : LS S a L as p H' :=
  ⟨st, s _ _ (tup_ne h.st h.ha) h.ha, s _ _ h.ne h.hL, rows_tups (h.st.tups s) h.hR⟩
theorem LS.same {S a L : Addr} {as : List Addr} {p : List Nat} {H H' : Hp} (h : LS S a L as p H) (s : Same H H') : LS S a L as p H' := h.but (s.but S) (h.st.same s)
theorem LS.len {S a L : Addr} {as : List Addr} {p : List Nat} {H : Hp} (h : LS S a L as p H) : as.length = (rowsM p).length := rows_len_as h.hR
/-- what the last part asks -/
def tC : TS := fun D σ H => ∃ (S a L : Addr) (as : List Addr) (p : List Nat) (v0 v4 v6 v7 v8 v9 v10 v11 v12 v13 v14 v15 v16 v17 v18 : Option V),
  σ = sg v0 (some (.ref S)) (some (.ref a)) (some (.int ((p.length : Nat) : Int))) v4 (some (.ref L)) v6 v7 v8 v9 v10 v11 v12 v13 v14 v15 v16 v17 v18 ∧ LS S a L as p H ∧ Paper p ∧ ∀ H', D.rt (.bl true) H'
/-- a value's scope -/
def stVal : Stmt → Expr
  | .Assign _ v _ => v
  | _ => .Constant .none 0 ⟨0, 0, 0, 0⟩
def lcSc : Expr → Scope
  | .ListComp _ _ sc _ => sc
  | _ => { kind := .function, names := [], isGenerator := false, isCoroutine := false }
def lawSt (i : Nat) : Stmt := (defBody sLaw).getD i (.Pass ⟨0, 0, 0, 0⟩)
end QmD

namespace QmD
open PySem L2 QmR Qm
section
variable {P : Program} {w : World} {K : PySem.W.Frag} {mg : Str → Option Value} {base : Heap}
/-- the defs that the law calls -/
structure Callees (P : Program) (w : World) (K : PySem.W.Frag) (mg : Str → Option Value) (base : Heap) : Prop where
  stream : Has P w K mg base CX0 1 "_law_stream" ["_law_script"] (spStream K)
  paper : Has P w K mg base CX0 2 "_law_paper" ["_law_stream_here", "_law_most"] spLPap
  orders : Has P w K mg base CX0 1 "_law_orders" ["_law_many"] spOrd
  equal : Has P w K mg base CX0 6 "_law_equal" ["_law_actual", "_law_due"] (spEq 4)
  own : Has P w K mg base CX0 4 "own_marks" ["paper"] spOwn
  pairs : Has P w K mg base CX0 4 "mark_pairs" ["paper"] spPairs
  cnt : Has P w K mg base CX0 4 "count_renamings" ["paper"] spCnt
  told : Has P w K mg base CX0 5 "_law_told" ["_law_paper_here", "_law_index"] spTold
  pick : Has P w K mg base CX0 2 "_law_pick" ["_law_stream_here", "_law_rows"] spPick
  next : Has P w K mg base CX0 1 "_law_next" ["_law_stream_here", "_law_many"] spNext
  sequence : Has P w K mg base CX0 2 "_law_sequence" ["_law_stream_here", "_law_paper_here", "_law_most"] spLSeq
  lrefl : Has P w K mg base CX0 1 "_law_reflected" ["_law_paper_here", "_law_sequence_here"] spRefl
  refl : Has P w K mg base CX0 5 "reflected" ["paper", "sequence"] spRefl
  first : Has P w K mg base CX0 5 "first_alike" ["paper", "sequence"] spFirst
  cntA : Has P w K mg base CX0 5 "count_alike" ["paper", "sequence"] spCntA
  ren : Has P w K mg base CX0 5 "renaming" ["paper", "first", "second"] spRen
/-- [row[mark] for mark in first] -/
theorem lc_ren {σ : L2.St} {H : Hp} {b r D : Addr} {ir : Nat} {sq row : List Nat} {Qd : Hp → Prop} (hD : H D = none) (hir : ∀ x : V, ((wipe σ [19]).set 19 (some x))[ir]? = some (some (.ref r)))
    (h19 : ∀ x : V, ((wipe σ [19]).set 19 (some x))[19]? = some (some x)) (hw : ∀ x : V, wipe ((wipe σ [19]).set 19 (some x)) [19] = wipe σ [19]) (hb : H b = some (.tup (tn sq))) (hrow : H r = some (.tup (tn row)))
    (hlt : ∀ m ∈ sq, m < row.length) (hl : sq.length ≤ 16) (k : ∀ (H' : Hp), Same H H' → H' D = some (.lst (tn (ren row sq))) → Qd H') :
    ∃ W : Nat → Nat → Hp → Prop, (∃ m, W 0 m (upd H D (.lst []))) ∧ ∀ i m H, W i m H →
      ((Itt K b).stop i H ∧ Qd H) ∨ ((Itt K b).go i H ∧ ∃ Nx : Hp → Prop, (∀ H', Nx H' → ∃ m', m' < m ∧ W (i + 1) m' H') ∧ ∀ x H', (Itt K b).yld i H x H' → gName 19 x (wipe σ [19]) H' fun σ2 H2 => wipe σ2 [19] = wipe σ [19] ∧ tYes σ2 H2 fun b H3 =>
        if b = true then tOp (rIxT K) (tVar ir) (tVar 19) σ2 H3 fun y H4 => ∃ acc, H4 D = some (.lst acc) ∧ acc.length < sizeLine ∧ Nx (upd H4 D (.lst (acc ++ [y]))) else Nx H3) := by
  have len : (ren row sq).length = sq.length := by unfold ren; rw [List.length_map]
  refine lc_tup (xs := tn sq) (PvL _ D (RTake (ren row sq))) (PvL.start hD (RTake.stays (by omega)) rfl) (fun i H' _ q => q.1.sqT (SqT.of hb)) ?_ ?_
  · intro i x H' hx q
    obtain ⟨s4, l, hl, el⟩ := q
    obtain ⟨m, hm, rfl⟩ := tn_get hx
    have hmlt : m < row.length := hlt m (List.mem_of_getElem? hm)
    refine ⟨hw _, yesT ?_⟩
    refine ⟨_, hir _, _, h19 _, r, _, _, _, rfl, rfl, SqT.of (s4 _ _ hrow), tn_at hmlt, ?_⟩
    have hg : (ren row sq)[i]? = some (g row m) := by unfold ren; rw [List.getElem?_map, hm]; rfl
    exact PvL.put hD (RTake.stays (by omega)) s4 hl (Same.refl _) (RTake.more (H := H') hg el)
  · intro H' q
    obtain ⟨s4, l, hl, el⟩ := q
    refine k _ s4 ?_
    rw [hl, el, List.take_of_length_le]
    rw [len, tn_len]
    exact Nat.le_refl _
theorem any_eqv (L : List (List Nat)) (x : List Nat) : ((L.map dT).any fun z => PyData.eqv z (dT x)) = L.contains x := by
  rw [List.any_map, Bool.eq_iff_iff, List.any_eq_true, List.contains_iff_mem]
  constructor
  · rintro ⟨z, hz, e⟩
    have e2 : (z == x) = true := by rw [← eqv_row]; exact e
    exact beq_iff_eq.mp e2 ▸ hz
  · intro h
    exact ⟨x, h, by show PyData.eqv (dT x) (dT x) = true; rw [eqv_row]; exact beq_self_eq_true x⟩
theorem dp_rows {H : Hp} {l : Addr} {as : List Addr} {rows : List (List Nat)} (hl : H l = some (.lst (as.map V.ref))) (h : RowsAt H as rows) : Dp K H (.ref l) (.list (rows.map dT)) := .lst (SqL.of hl) (dpAll_rows h)
theorem eqv_nil (rows : List (List Nat)) : PyData.eqv (.list (rows.map dT)) (.list []) = rows.isEmpty := by
  cases rows with
  | nil => simp [PyData.eqv, PyData.eqvAll]
  | cons r rows =>
    rw [List.map_cons, PyData.eqv, PyData.eqvAll]
    rfl
theorem dp_nil {H : Hp} {l : Addr} (hl : H l = some (.lst [])) : Dp K H (.ref l) (.list []) := .lst (SqL.of hl) .nil
theorem filter_snoc {α : Type} {f : α → Bool} {l : List α} {i : Nat} {x : α} (h : l[i]? = some x) : (l.take (i + 1)).filter f = (l.take i).filter f ++ if f x = true then [x] else [] := by
  rw [take_snoc h, List.filter_append, List.filter_cons]
  rfl
/-- what renaming hands back -/
def RenV (H : Hp) (v : V) (o : Option (List Nat)) : Prop := (o = none ∧ v = .non) ∨ ∃ r q, o = some r ∧ v = .ref q ∧ H q = some (.tup (tn r))
theorem RenV.same {H H' : Hp} {v : V} {o : Option (List Nat)} (h : RenV H v o) (s : Same H H') : RenV H' v o := by
  rcases h with h | ⟨r, q, e1, e2, hq⟩
  · exact .inl h
  · exact .inr ⟨r, q, e1, e2, s _ _ hq⟩
theorem spRen_of {a b c : Addr} {p s t : List Nat} {H : Hp} {Q : VK} {E : XK} (ha : H a = some (.tup (tn p))) (hb : H b = some (.tup (tn s))) (hc : H c = some (.tup (tn t))) (hp : Paper p) (hs : Seq p s) (hl : s.length ≤ 16) (ht : Seq p t) (hl2 : t.length ≤ 16)
    (k : ∀ (v : V) (H' : Hp), Same H H' → RenV H' v (lead1 p s t) → Q v H') : spRen ([.ref a, .ref b, .ref c] ++ []) H Q E :=
  ⟨a, b, c, p, s, t, rfl, ha, hb, hc, hp, hs, hl, ht, hl2, fun e H' s' => k _ H' s' (.inl ⟨e, rfl⟩), fun r e H' q s' hq => k _ H' s' (.inr ⟨r, q, e, rfl, hq⟩)⟩
theorem ren_none {H : Hp} {v : V} {p s t : List Nat} (h : RenV H v (lead1 p s t)) : decide (v = .non) = (leads p s t).isEmpty := by
  rw [lead1_head] at h
  rcases h with ⟨e, rfl⟩ | ⟨r, q, e, rfl, _⟩
  · rw [List.head?_eq_none_iff] at e
    rw [e]
    rfl
  · cases el : leads p s t with
    | nil =>
      rw [el] at e
      cases e
    | cons _ _ => rfl
theorem least_ddp {l : List (List Nat)} {r : List Nat} (h : Least (ddp l) r) : Least l r := ⟨mem_ddp.mp h.1, fun x hx => h.2 x (mem_ddp.mpr hx)⟩
theorem dat4 {H : Hp} {n : Nat} {x0 x1 x2 x3 y0 y1 y2 y3 : V} (h0 : Dat H n x0 y0) (h1 : Dat H n x1 y1) (h2 : Dat H n x2 y2) (h3 : Dat H n x3 y3) :
    ∀ (i : Nat) (u v : V), [x0, x1, x2, x3][i]? = some u → [y0, y1, y2, y3][i]? = some v → Dat H n u v
  | 0, u, v, hu, hv => by
    cases hu
    cases hv
    exact h0
  | 1, u, v, hu, hv => by
    cases hu
    cases hv
    exact h1
  | 2, u, v, hu, hv => by
    cases hu
    cases hv
    exact h2
  | 3, u, v, hu, hv => by
    cases hu
    cases hv
    exact h3
  | i + 4, u, v, hu, hv => by
    cases hu
theorem row16 {p s : List Nat} {r : List Nat} (hl : s.length ≤ 16) (h : r ∈ imgs p s) : r.length ≤ 1000 := by
  obtain ⟨q, _, rfl⟩ := mem_imgs.mp h
  unfold ren
  rw [List.length_map]
  omega
theorem refl_len (p s : List Nat) : (Qm.refl p s).length = s.length := by
  unfold Qm.refl
  rw [List.length_map, List.length_reverse]
theorem rows_cons {H : Hp} {as : List Addr} {r : List Nat} {rs : List (List Nat)} (h : RowsAt H as (r :: rs)) : ∃ a as', as = a :: as' ∧ H a = some (.tup (tn r)) := by
  cases h with
  | cons h1 h2 => exact ⟨_, _, rfl, h1⟩
theorem rows_nil {H : Hp} {as : List Addr} (h : RowsAt H as []) : as = [] := by
  cases h
  rfl
theorem law_C (B : Blt mg) (c : Callees P w K mg base) {f : Addr} {cdv : Value} {A : Around} {outer : List Env} {s : Shared} {H : Hp} {E : XK} (hr : Room 6 (A.deeper (PyProof.Rows.envOfC "law" (defScope sLaw) s.heap.objs.size f cdv))) :
    PSs (XL P w K mg base f cdv A outer s H E) ((defBody sLaw).drop 12) tC := by
  obtain ⟨fEq, fdEq, mEq, kEq, bEq, GEq⟩ := c.equal.ex
  obtain ⟨fPk, fdPk, mPk, kPk, bPk, GPk⟩ := c.pick.ex
  obtain ⟨fNx, fdNx, mNx, kNx, bNx, GNx⟩ := c.next.ex
  obtain ⟨fSq, fdSq, mSq, kSq, bSq, GSq⟩ := c.sequence.ex
  obtain ⟨fLr, fdLr, mLr, kLr, bLr, GLr⟩ := c.lrefl.ex
  obtain ⟨fRf, fdRf, mRf, kRf, bRf, GRf⟩ := c.refl.ex
  obtain ⟨fFi, fdFi, mFi, kFi, bFi, GFi⟩ := c.first.ex
  obtain ⟨fCa, fdCa, mCa, kCa, bCa, GCa⟩ := c.cntA.ex
  obtain ⟨fRn, fdRn, mRn, kRn, bRn, GRn⟩ := c.ren.ex
  have hr1 : Room 1 _ := hr.mono (by decide)
  have hr2 : Room 2 _ := hr.mono (by decide)
  have hr5 : Room 5 _ := hr.mono (by decide)
  have hu65 : (A.deeper (PyProof.Rows.envOfC "law" (defScope sLaw) s.heap.objs.size f cdv)).units + 65 < cLine := by
    have := hr.un
    omega
  have nd := scLaw.nd
  refine pss_weak (t := _) (pss_cons (ps_set (i := 12) nd rfl (Or.inr rfl) (pe_call GSq hr2 rfl mSq kSq bSq .nil pass0 (pa_cons (pv 1) (pa_cons (pv 2) (pa_cons pe_int pa_nil)))))
    (pss_cons (ps_set (i := 13) nd rfl (Or.inr rfl) (pe_call GPk hr2 rfl mPk kPk bPk .nil pass0 (pa_cons (pv 1) (pa_cons (pv 5) pa_nil))))
    (C8.pss_cut (ps_set (i := 14) nd rfl (Or.inr rfl) (pe_ifExp (pt_cmpR op_eq (pe_call GNx hr1 rfl mNx kNx bNx .nil pass0 (pa_cons (pv 1) (pa_cons pe_int pa_nil))) pe_int (nomark _))
        (pe_callTy call_tuple_of (by rfl) B.tuple (by decide +kernel) (pa_cons
          (pe_lc (own := [("_law_mark", 19)]) (g := gName 19) (tt := tYes) rfl nd (pi_tup (pv 12)) (blkOk_by (N := NL) (sc := defScope sLaw) (by decide +kernel))
            (fun _ _ _ _ _ => pg_name (i := 19) nd rfl (Or.inl rfl)) (fun _ _ _ _ _ => pts_nil)
            (fun _ _ _ _ _ => pe_ix (r := rIxT K) ix_tup (pv 13) (pv 19) (fun _ _ => rfl))) pa_nil))
        (pe_call GSq hr2 rfl mSq kSq bSq .nil pass0 (pa_cons (pv 1) (pa_cons (pv 2) (pa_cons pe_int pa_nil))))))
    (pss_cons (ps_set (i := 15) nd rfl (Or.inl rfl) (pe_lst pa_nil))
    (pss_cons (ps_for PassesOwn.never rfl (pi_list (pv 5)) (pg_name (i := 4) nd rfl (Or.inr rfl))
        (pss_cons (ps_set (i := 16) nd rfl (Or.inl rfl) (pe_callTy call_tuple_of (by rfl) B.tuple (by decide +kernel) (pa_cons
          (pe_lc (own := [("_law_mark", 19)]) (g := gName 19) (tt := tYes) rfl nd (pi_tup (pv 12)) (blkOk_by (N := NL) (sc := defScope sLaw) (by decide +kernel))
            (fun _ _ _ _ _ => pg_name (i := 19) nd rfl (Or.inl rfl)) (fun _ _ _ _ _ => pts_nil)
            (fun _ _ _ _ _ => pe_ix (r := rIxT K) ix_tup (pv 4) (pv 19) (fun _ _ => rfl))) pa_nil)))
        (pss_one (ps_expr (pe_bm PySem.F.plainAttrs_list PySem.F.slot_list_extend PySem.F.type_list_extend mt_extend (pv 15) (pa_cons
          (pe_ifExp (pt_cmpR (op_notInD hu65) (pv 16) (pv 15) (by rfl)) (pe_lst (pa_cons (pv 16) pa_nil)) (pe_lst pa_nil)) pa_nil))))))
    (pss_cons (ps_setLc (i := 17) (own := [("_law_row", 4)]) (g := gName 4) (tt := tTest (tOp (rEqD K) (tCB (fun xs H Q => ∃ p ys, xs = [.ref p] ∧ ((SqL K H p ys ∧ ∀ l, H l = none → Q (.ref l) (upd H l (.tup ys))) ∨ (SqT K H p ys ∧ Q (.ref p) H)))
          (tCons (tLc (iTup K (tVar 12)) (gName 19) tYes (tOp (rIxT K) (tVar 4) (tVar 19)) [19]) tNil)) (tVar 14)))
        rfl nd rfl rfl (sw_true rfl rfl rfl (by decide +kernel)) (pi_list (pv 5)) (blkOk_by (N := NL) (sc := defScope sLaw) (by decide +kernel))
        (fun _ _ _ _ _ => pg_name (i := 4) nd rfl (Or.inr rfl))
        (fun _ _ _ _ _ => pts_one (pt_cmpR (r := rEqD K) (op_eqD hr.units) (pe_callTy call_tuple_of (by rfl) B.tuple (by decide +kernel) (pa_cons
            (pe_lc (own := [("_law_mark", 19)]) (g := gName 19) (tt := tYes) rfl nd (pi_tup (pv 12)) (blkOk_by (N := NL) (sc := relS (lcSc (stVal (lawSt 17))) (defScope sLaw)) (by decide +kernel))
              (fun _ _ _ _ _ => pg_name (i := 19) nd rfl (Or.inl rfl)) (fun _ _ _ _ _ => pts_nil)
              (fun _ _ _ _ _ => pe_ix (r := rIxT K) ix_tup (pv 4) (pv 19) (fun _ _ => rfl))) pa_nil)) (pv 14) (nomark _)))
        (fun _ _ _ _ _ => pv 4))
    (C8.pss_cut (ps_set (i := 18) nd rfl (Or.inl rfl) (pe_lst (pa_cons (pe_call GRf hr5 rfl mRf kRf bRf .nil pass0 (pa_cons (pv 2) (pa_cons (pv 12) pa_nil)))
        (pa_cons (pe_call GFi hr5 rfl mFi kFi bFi .nil pass0 (pa_cons (pv 2) (pa_cons (pv 12) pa_nil)))
        (pa_cons (pe_call GCa hr5 rfl mCa kCa bCa .nil pass0 (pa_cons (pv 2) (pa_cons (pv 12) pa_nil)))
        (pa_cons (pe_call GRn hr5 rfl mRn kRn bRn .nil pass0 (pa_cons (pv 2) (pa_cons (pv 12) (pa_cons (pv 14) pa_nil)))) pa_nil))))))
    (C8.pss_cut (ps_if (pt_not (pt_val (pe_call GEq hr rfl mEq kEq bEq .nil pass0 (pa_cons (pv 18) (pa_cons (pe_lst
          (pa_cons (pe_call GLr hr1 rfl mLr kLr bLr .nil pass0 (pa_cons (pv 2) (pa_cons (pv 12) pa_nil)))
          (pa_cons (pe_callB (r := rMinT K) (cr_minT rfl hr.units) (by rfl) B.min (by decide +kernel) (pa_cons (pv 15) pa_nil))
          (pa_cons (pe_callB (r := rLen K) callLen (by rfl) B.len PySem.boot_len (pa_cons (pv 15) pa_nil))
          (pa_cons (pe_ifExp (pt_truth (pv 17) (by intro _; rfl)) (pe_ix (r := rIxL K) ix_list (pv 17) pe_int (fun _ _ => rfl)) pe_non) pa_nil))))) pa_nil))))) (pss_one ps_never) pss_nil)
    (pss_cons (ps_if (PW.pt (pw_or (pt_cmpR op_ne (pe_cmpR (op_eqD hr.units) (pe_call GFi hr5 rfl mFi kFi bFi .nil pass0 (pa_cons (pv 2) (pa_cons (pv 14) pa_nil))) (pe_callB (r := rMinT K) (cr_minT rfl hr.units) (by rfl) B.min (by decide +kernel) (pa_cons (pv 15) pa_nil)) (nomark _))
          (pe_cmpR (op_neD hr.units) (pv 17) (pe_lst pa_nil) (nomark _)) (nomark _))
        (pw_or1 (pt_cmpR op_ne (pe_op op_modN (pe_callB (r := rLen K) callLen (by rfl) B.len PySem.boot_len (pa_cons (pv 5) pa_nil)) (pe_callB (r := rLen K) callLen (by rfl) B.len PySem.boot_len (pa_cons (pv 15) pa_nil))) pe_int (nomark _))))) (pss_one ps_never) pss_nil)
    (pss_one (ps_ret (pe_cmpR op_eq (pe_cmp (pc_isN (pe_call GRn hr5 rfl mRn kRn bRn .nil pass0 (pa_cons (pv 2) (pa_cons (pe_call GRf hr5 rfl mRf kRf bRf .nil pass0 (pa_cons (pv 2) (pa_cons (pv 12) pa_nil)))
        (pa_cons (pe_call GRf hr5 rfl mRf kRf bRf .nil pass0 (pa_cons (pv 2) (pa_cons (pv 14) pa_nil))) pa_nil))))) rfl)
      (pe_cmpR (op_eqD hr.units) (pv 17) (pe_lst pa_nil) (nomark _)) (nomark _)))))))))))))
    fun D σ H hq => ?_
  obtain ⟨S, a, L, as, p, v0, v4, v6, v7, v8, v9, v10, v11, v12, v13, v14, v15, v16, v17, v18, rfl, ls, hp, k⟩ := hq
  have h1 := (rows_len hp).1
  have h120 := (rows_len hp).2
  have hasl := ls.len
  -- first, chosen
  refine ⟨_, rfl, _, rfl, S, a, p, rfl, ls.st, ls.ha, hp, fun H1 b sq s1 hS1 hsq hl8 hb => ?_⟩
  have ls1 := ls.but s1 hS1
  refine ⟨_, rfl, _, rfl, S, L, _, rfl, ls1.st, ls1.hL, ls1.ne, by rw [List.length_map]; omega, by rw [List.length_map]; omega, fun H2 ci cv s2 hS2 hcv => ?_⟩
  have ls2 := ls1.but s2 hS2
  have hb2 := s2 _ _ (tup_ne ls1.st hb) hb
  obtain ⟨rc, row, rfl, _, hrow, hrc⟩ := rows_at ls2.hR hcv
  have hir := row_of hrow
  -- second
  refine ⟨fun σ H' => ∃ (b2 : Addr) (tq : List Nat), σ = sg v0 (some (.ref S)) (some (.ref a)) (some (.int ((p.length : Nat) : Int))) v4 (some (.ref L)) v6 v7 v8 v9 v10 v11 (some (.ref b)) (some (.ref rc)) (some (.ref b2)) v15 v16 v17 v18 ∧
    LS S a L as p H' ∧ H' b = some (.tup (tn sq)) ∧ H' b2 = some (.tup (tn tq)) ∧ Seq p tq ∧ tq.length ≤ 8, ?_, ?_⟩
  · refine ⟨_, rfl, S, 2, rfl, ls2.st, by omega, by omega, fun H3 d s3 hS3 hd => ⟨rfl, _, rfl, ?_⟩⟩
    have ls3 := ls2.but s3 hS3
    have hb3 := s3 _ _ (tup_ne ls2.st hb2) hb2
    have hrc3 := s3 _ _ (tup_ne ls2.st hrc) hrc
    refine ite2 (fun _ => ?_) (fun _ => ?_)
    · refine ⟨_, rfl, b, rfl, ⟨_, SqT.of hb3⟩, fun D hD => ?_⟩
      have len : (ren row sq).length = sq.length := by unfold ren; rw [List.length_map]
      refine lc_tup (xs := tn sq) (PvL _ D (RTake (ren row sq))) (PvL.start hD (RTake.stays (by omega)) rfl) (fun i H' _ q => q.1.sqT (SqT.of hb3)) ?_ ?_
      · intro i x H' hx q
        obtain ⟨s4, l, hl, el⟩ := q
        obtain ⟨m, hm, rfl⟩ := tn_get hx
        have hmlt : m < row.length := seq_row hir hsq m (List.mem_of_getElem? hm)
        refine ⟨rfl, yesT ?_⟩
        refine ⟨_, rfl, _, rfl, rc, _, _, _, rfl, rfl, SqT.of (s4 _ _ hrc3), tn_at hmlt, ?_⟩
        have hg : (ren row sq)[i]? = some (g row m) := by unfold ren; rw [List.getElem?_map, hm]; rfl
        exact PvL.put hD (RTake.stays (by omega)) s4 hl (Same.refl _) (RTake.more (H := H') hg el)
      · intro H' q
        obtain ⟨s4, l, hl, el⟩ := q
        have el' : l = tn (ren row sq) := by
          rw [el, List.take_of_length_le]
          rw [len, tn_len]
          exact Nat.le_refl _
        refine ⟨D, l, rfl, .inl ⟨SqL.of hl, fun q hq => ?_⟩⟩
        rw [el']
        have s5 : Same H3 (upd H' q (.tup (tn (ren row sq)))) := s4.trans (Same.new hq)
        exact ⟨q, ren row sq, rfl, ls3.same s5, s5 _ _ hb3, upd_same, seq_ren hir hsq, by rw [len]; exact hl8⟩
    · refine ⟨_, rfl, _, rfl, S, a, p, rfl, ls3.st, ls3.ha, hp, fun H4 b2 tq s4 hS4 htq hl82 hb24 => ?_⟩
      exact ⟨b2, tq, rfl, ls3.but s4 hS4, s4 _ _ (tup_ne ls3.st hb3) hb3, hb24, htq, hl82⟩
  rintro σ H3 ⟨b2, tq, rfl, ls3, hb3, hbt3, htq, hl82⟩
  -- alike = []
  refine ⟨Nat.zero_le _, fun G hG => ?_⟩
  have sG : Same H3 (upd H3 G (.lst [])) := Same.new hG
  have stR : Stays (RRows (rowsM p).length fun i => ddp (((rowsM p).take i).map fun r => ren r sq)) := RRows.stays fun i hi => by
    have e := ddp_len (((rowsM p).take i).map fun r => ren r sq)
    rw [List.length_map, List.length_take] at e
    omega
  refine ⟨_, rfl, L, rfl, ⟨_, SqL.of (sG _ _ ls3.hL)⟩, ?_⟩
  refine for_list (K := K) (a := L) (xs := as.map V.ref) (fun i σ H' => ∃ v4 v16 : Option V, σ = sg v0 (some (.ref S)) (some (.ref a)) (some (.int ((p.length : Nat) : Int))) v4 (some (.ref L)) v6 v7 v8 v9 v10 v11 (some (.ref b)) (some (.ref rc)) (some (.ref b2)) (some (.ref G)) v16 v17 v18 ∧
      PvL H3 G (RRows (rowsM p).length fun i => ddp (((rowsM p).take i).map fun r => ren r sq)) i H')
    ⟨v4, v16, rfl, PvL.start hG stR ⟨Nat.zero_le _, [], rfl, .nil⟩⟩ (fun i σ H' _ ⟨_, _, _, q⟩ => q.1.seq (SqL.of ls3.hL)) ?_ ?_
  · rintro i x σ H4 hx ⟨v4', v16', rfl, s4, l, hl, hR4⟩
    obtain ⟨ra, row2, rfl, hra, hrow2, hrat⟩ := rows_at (rows_same s4 ls3.hR) hx
    have hi : i < (rowsM p).length := (List.getElem?_eq_some_iff.mp hrow2).1
    -- other
    refine ⟨_, rfl, b, rfl, ⟨_, SqT.of (s4 _ _ hb3)⟩, fun D hD => ?_⟩
    refine lc_ren (ir := 4) (r := ra) (sq := sq) (row := row2) hD (fun _ => rfl) (fun _ => rfl) (fun _ => rfl) (s4 _ _ hb3) hrat (seq_row (row_of hrow2) hsq) (by omega) fun H5' s5' hD5 => ?_
    refine ⟨D, _, rfl, .inl ⟨SqL.of hD5, fun q hq0 => ?_⟩⟩
    obtain ⟨H5, eH5⟩ : ∃ H5, H5 = upd H5' q (.tup (tn (ren row2 sq))) := ⟨_, rfl⟩
    rw [← eH5]
    have s5 : Same H4 H5 := by
      rw [eH5]
      exact s5'.trans (Same.new hq0)
    have hq : H5 q = some (.tup (tn (ren row2 sq))) := by
      rw [eH5]
      exact upd_same
    have hl5 := s5 _ _ hl
    have hR5 := stR.1 _ _ _ _ s5.tups hR4
    obtain ⟨_, bs, el, hbs⟩ := id hR5
    have e1 := imgs_more (s := sq) hrow2
    refine ⟨_, rfl, .inl ⟨rfl, _, SqL.of hl5⟩, _, rfl, _, rfl, dT (ren row2 sq), _, dp_row hq, dp_rows (by rw [hl5, el]) hbs, shaped_row _, shaped_rows _, _, rfl, ?_⟩
    show if (!(((ddp (((rowsM p).take i).map fun r => ren r sq)).map dT).any fun z => PyData.eqv z (dT (ren row2 sq)))) = true then _ else _
    rw [any_eqv]
    have hlen : l.length ≤ 100000 := stR.2 _ _ _ hR5
    refine ite2 (fun c => ?_) (fun c => ?_)
    · refine ⟨_, rfl, by show 1 ≤ sizeLine; rw [sizeLine_eq]; decide, fun t ht => ?_⟩
      have s6 : Same H5 (upd H5 t (.lst [.ref q])) := Same.new ht
      refine ⟨G, t, l, [.ref q], rfl, rfl, s6 _ _ hl5, upd_same, by rw [sizeLine_eq]; show l.length + 1 ≤ _; omega, ?_⟩
      refine ⟨_, _, rfl, ((s4.trans s5).trans s6).put hG, _, upd_same, hi, bs ++ [q], by rw [el, List.map_append]; rfl, ?_⟩
      dsimp only
      rw [e1, ddp_snoc]
      unfold put1
      rw [if_neg (by simpa using c)]
      exact rows_tups (tups_put (s6 _ _ hl5)) (rows_same s6 (Paired.snoc hbs hq))
    · refine ⟨by show 0 ≤ sizeLine; exact Nat.zero_le _, fun t ht => ?_⟩
      have s6 : Same H5 (upd H5 t (.lst [])) := Same.new ht
      refine ⟨G, t, l, [], rfl, rfl, s6 _ _ hl5, upd_same, by rw [sizeLine_eq]; show l.length + 0 ≤ _; omega, ?_⟩
      refine ⟨_, _, rfl, ((s4.trans s5).trans s6).put hG, _, upd_same, hi, bs, by rw [el, List.append_nil], ?_⟩
      dsimp only
      rw [e1, ddp_snoc]
      unfold put1
      rw [if_pos (by simpa using c)]
      exact rows_tups (tups_put (s6 _ _ hl5)) (rows_same s6 hbs)
  rintro σ H4 ⟨v4', v16', rfl, s4, l, hl, _, bs, el, hbs⟩
  have eall : (rowsM p).take (as.map V.ref).length = rowsM p := by rw [List.length_map, hasl, List.take_length]
  dsimp only at hbs
  rw [eall] at hbs
  have hbs : RowsAt H4 bs (ddp (imgs p sq)) := hbs
  have hG4 : H4 G = some (.lst (bs.map V.ref)) := by rw [hl, el]
  have ls4 := ls3.same s4
  have hb4 := s4 _ _ hb3
  have hbt4 := s4 _ _ hbt3
  -- leads
  refine ⟨_, rfl, L, rfl, ⟨_, SqL.of ls4.hL⟩, fun Dl hDl => ?_⟩
  have stF : Stays (RRows (rowsM p).length fun i => ((rowsM p).take i).filter fun r => ren r sq == tq) := RRows.stays fun i hi => by
    have e := List.length_filter_le (fun r => ren r sq == tq) ((rowsM p).take i)
    rw [List.length_take] at e
    omega
  refine lc_list (xs := as.map V.ref) (PvL H4 Dl (RRows (rowsM p).length fun i => ((rowsM p).take i).filter fun r => ren r sq == tq)) (PvL.start hDl stF ⟨Nat.zero_le _, [], rfl, .nil⟩) (fun i H' _ q => q.1.seq (SqL.of ls4.hL)) ?_ ?_
  · intro i x H5 hx q
    obtain ⟨s5, l5, hl5, hR5⟩ := q
    obtain ⟨ra, row2, rfl, hra, hrow2, hrat⟩ := rows_at (rows_same s5 ls4.hR) hx
    have hi : i < (rowsM p).length := (List.getElem?_eq_some_iff.mp hrow2).1
    refine ⟨rfl, _, rfl, b, rfl, ⟨_, SqT.of (s5 _ _ hb4)⟩, fun D hD => ?_⟩
    refine lc_ren (ir := 4) (r := ra) (sq := sq) (row := row2) hD (fun _ => rfl) (fun _ => rfl) (fun _ => rfl) (s5 _ _ hb4) hrat (seq_row (row_of hrow2) hsq) (by omega) fun H6 s6 hD6 => ?_
    refine ⟨D, _, rfl, .inl ⟨SqL.of hD6, fun q hq => ?_⟩⟩
    have s7 : Same H5 (upd H6 q (.tup (tn (ren row2 sq)))) := s6.trans (Same.new hq)
    refine ⟨_, rfl, dT (ren row2 sq), dT tq, dp_row upd_same, dp_row (s7 _ _ (s5 _ _ hbt4)), shaped_row _, shaped_row _, _, rfl, ?_⟩
    show if PyData.eqv (dT (ren row2 sq)) (dT tq) = true then _ else _
    rw [eqv_row]
    have fs := filter_snoc (f := fun r => ren r sq == tq) hrow2
    refine ite2 (fun c => ?_) (fun c => ?_)
    · refine ⟨_, rfl, ?_⟩
      refine PvL.put hDl stF s5 hl5 s7 (hR5.more hi s7 (s7 _ _ hrat) ?_)
      rw [fs, if_pos c]
    · refine PvL.skip s5 hl5 s7 ?_
      obtain ⟨_, cs, ecs, hcs⟩ := hR5
      refine ⟨hi, cs, ecs, ?_⟩
      dsimp only
      rw [fs, if_neg c, List.append_nil]
      exact rows_same s7 hcs
  intro H5 q
  obtain ⟨s5, l5, hl5, _, lds, el5, hlds⟩ := q
  dsimp only at hlds
  rw [eall] at hlds
  have hlds : RowsAt H5 lds (leads p sq tq) := hlds
  have hDl5 : H5 Dl = some (.lst (lds.map V.ref)) := by rw [hl5, el5]
  have s05 := s4.trans s5
  have ha5 := s05 _ _ ls3.ha
  have hb5 := s05 _ _ hb3
  have hbt5 := s05 _ _ hbt3
  have hl16 : sq.length ≤ 16 := by omega
  have hl216 : tq.length ≤ 16 := by omega
  -- told_here
  refine ⟨fun σ H' => ∃ (T q1 q2 : Addr) (r2 : List Nat) (v : V), σ = sg v0 (some (.ref S)) (some (.ref a)) (some (.int ((p.length : Nat) : Int))) v4' (some (.ref L)) v6 v7 v8 v9 v10 v11 (some (.ref b)) (some (.ref rc)) (some (.ref b2)) (some (.ref G)) v16' (some (.ref Dl)) (some (.ref T)) ∧
    Same H5 H' ∧ H' T = some (.lst [.ref q1, .ref q2, .int (((ddp (imgs p sq)).length : Nat) : Int), v]) ∧ H' q1 = some (.tup (tn (Qm.refl p sq))) ∧ H' q2 = some (.tup (tn r2)) ∧ Least (imgs p sq) r2 ∧ RenV H' v (lead1 p sq tq), ?_, ?_⟩
  · refine ⟨_, rfl, _, rfl, a, b, p, sq, rfl, ha5, hb5, hp, hsq, hl16, fun H6 q1 s6 hq1 => ?_⟩
    refine ⟨_, rfl, _, rfl, a, b, p, sq, rfl, s6 _ _ ha5, s6 _ _ hb5, hp, hsq, hl16, fun H7 q2 r2 s7 hleast2 hq2 => ?_⟩
    have s57 := s6.trans s7
    refine ⟨_, rfl, _, rfl, a, b, p, sq, rfl, s57 _ _ ha5, s57 _ _ hb5, hp, hsq, hl16, fun H8 s8 => ?_⟩
    have s58 := s57.trans s8
    have fin : ∀ (v : V) (H9 : Hp), Same H8 H9 → RenV H9 v (lead1 p sq tq) → ∀ T, H9 T = none → ∃ (T' q1' q2' : Addr) (r2 : List Nat) (v' : V), sg v0 (some (.ref S)) (some (.ref a)) (some (.int ((p.length : Nat) : Int))) v4' (some (.ref L)) v6 v7 v8 v9 v10 v11 (some (.ref b)) (some (.ref rc)) (some (.ref b2)) (some (.ref G)) v16' (some (.ref Dl)) (some (.ref T)) =
        sg v0 (some (.ref S)) (some (.ref a)) (some (.int ((p.length : Nat) : Int))) v4' (some (.ref L)) v6 v7 v8 v9 v10 v11 (some (.ref b)) (some (.ref rc)) (some (.ref b2)) (some (.ref G)) v16' (some (.ref Dl)) (some (.ref T')) ∧
        Same H5 (upd H9 T (.lst [.ref q1, .ref q2, .int (((ddp (imgs p sq)).length : Nat) : Int), v])) ∧ (upd H9 T (.lst [.ref q1, .ref q2, .int (((ddp (imgs p sq)).length : Nat) : Int), v])) T' = some (.lst [.ref q1', .ref q2', .int (((ddp (imgs p sq)).length : Nat) : Int), v']) ∧
        (upd H9 T (.lst [.ref q1, .ref q2, .int (((ddp (imgs p sq)).length : Nat) : Int), v])) q1' = some (.tup (tn (Qm.refl p sq))) ∧ (upd H9 T (.lst [.ref q1, .ref q2, .int (((ddp (imgs p sq)).length : Nat) : Int), v])) q2' = some (.tup (tn r2)) ∧
        Least (imgs p sq) r2 ∧ RenV (upd H9 T (.lst [.ref q1, .ref q2, .int (((ddp (imgs p sq)).length : Nat) : Int), v])) v' (lead1 p sq tq) := by
      intro v H9 s9 hv T hT
      have sT : Same H9 (upd H9 T (.lst [.ref q1, .ref q2, .int (((ddp (imgs p sq)).length : Nat) : Int), v])) := Same.new hT
      exact ⟨T, q1, q2, r2, v, rfl, (s58.trans s9).trans sT, upd_same, (((s7.trans s8).trans s9).trans sT) _ _ hq1, ((s8.trans s9).trans sT) _ _ hq2, hleast2, hv.same sT⟩
    refine ⟨_, rfl, _, rfl, _, rfl, a, b, b2, p, sq, tq, rfl, s58 _ _ ha5, s58 _ _ hb5, s58 _ _ hbt5, hp, hsq, hl16, htq, hl216, fun e H9 s9 => ?_, fun r e H9 q4 s9 hq4 => ?_⟩
    · exact ⟨by show 4 ≤ sizeLine; rw [sizeLine_eq]; decide, fun T hT => fin .non H9 s9 (.inl ⟨e, rfl⟩) T hT⟩
    · exact ⟨by show 4 ≤ sizeLine; rw [sizeLine_eq]; decide, fun T hT => fin (.ref q4) H9 s9 (.inr ⟨r, q4, e, rfl, hq4⟩) T hT⟩
  rintro σ H6 ⟨T, q1, q2, r2, v, rfl, s6, hT6, hq1, hq2, hleast2, hv6⟩
  have hG6 := (s5.trans s6) _ _ hG4
  have hbs6 := rows_same (s5.trans s6) hbs
  have hlds6 := rows_same s6 hlds
  have hDl6 := s6 _ _ hDl5
  have ha6 := s6 _ _ ha5
  have hb6 := s6 _ _ hb5
  have hbt6 := s6 _ _ hbt5
  have hne : ddp (imgs p sq) ≠ [] := fun e => by
    have := mem_ddp.mpr hleast2.1
    rw [e] at this
    cases this
  -- the two are equal
  refine ⟨fun σ H' => σ = sg v0 (some (.ref S)) (some (.ref a)) (some (.int ((p.length : Nat) : Int))) v4' (some (.ref L)) v6 v7 v8 v9 v10 v11 (some (.ref b)) (some (.ref rc)) (some (.ref b2)) (some (.ref G)) v16' (some (.ref Dl)) (some (.ref T)) ∧ Same H6 H', ?_, ?_⟩
  · refine ⟨_, rfl, _, rfl, _, rfl, a, b, p, sq, rfl, ha6, hb6, hp, hsq, hl16, fun H7 q5 s7 hq5 => ?_⟩
    refine ⟨_, rfl, G, bs, _, rfl, SqL.of (s7 _ _ hG6), rows_same s7 hbs6, hne, fun b5 r5 _ hr5 hleast5 => ?_⟩
    have er : r2 = r5 := least_unique hleast2 (least_ddp hleast5) fun _ => Iff.rfl
    have eln : (bs.map V.ref).length = (ddp (imgs p sq)).length := by rw [List.length_map, rows_len_as hbs6]
    refine ⟨_, rfl, G, _, rfl, .inl (SqL.of (s7 _ _ hG6)), ?_⟩
    rw [eln]
    have hlds7 := rows_same s7 hlds6
    have hDl7 := s7 _ _ hDl6
    have hv7 := hv6.same s7
    -- the equality, from the last item
    have fin : ∀ (y : V) (T2 : Addr), H7 T2 = none → Dat H7 2 v y → Dat (upd H7 T2 (.lst [.ref q5, .ref b5, .int (((ddp (imgs p sq)).length : Nat) : Int), y])) 3 (.ref T) (.ref T2) := by
      intro y T2 hT2 hd
      have sT : Same H7 (upd H7 T2 (.lst [.ref q5, .ref b5, .int (((ddp (imgs p sq)).length : Nat) : Int), y])) := Same.new hT2
      have s67 := s7.trans sT
      refine .inr ⟨T, T2, [.ref q1, .ref q2, .int (((ddp (imgs p sq)).length : Nat) : Int), v], [.ref q5, .ref b5, .int (((ddp (imgs p sq)).length : Nat) : Int), y], rfl, rfl, rfl, by show 4 ≤ 1000; decide, .inr ⟨s67 _ _ hT6, upd_same⟩, dat4 ?_ ?_ (Dat.int 2 _) (Dat.same sT 2 _ _ hd)⟩
      · exact Dat.up 1 _ _ (Dat.row 0 (s67 _ _ hq1) (sT _ _ hq5) (by rw [refl_len]; omega))
      · rw [er] at hq2
        exact Dat.up 1 _ _ (Dat.row 0 (s67 _ _ hq2) (sT _ _ hr5) (row16 hl16 (er ▸ hleast2.1)))
    cases hcl : leads p sq tq with
    | nil =>
      rw [hcl] at hlds7
      have elds := rows_nil hlds7
      have hv : v = .non := by
        rw [lead1_head, hcl] at hv7
        rcases hv7 with ⟨_, e⟩ | ⟨_, _, e, _⟩
        · exact e
        · cases e
      refine ⟨_, rfl, false, .inl ⟨_, SqL.of hDl7, by rw [elds]; rfl⟩, iteF ?_⟩
      refine ⟨by show 4 ≤ sizeLine; rw [sizeLine_eq]; decide, fun T2 hT2 => ?_⟩
      have sT : Same H7 (upd H7 T2 (.lst [.ref q5, .ref b5, .int (((ddp (imgs p sq)).length : Nat) : Int), .non])) := Same.new hT2
      exact ⟨.ref T, .ref T2, rfl, fin .non T2 hT2 (by rw [hv]; exact Dat.non 2), fun H9 s9 => ⟨true, rfl, iteF ⟨rfl, (s7.trans sT).trans s9⟩⟩⟩
    | cons r0 rs =>
      rw [hcl] at hlds7
      obtain ⟨l0, ls0, elds, hl0⟩ := rows_cons hlds7
      refine ⟨_, rfl, true, .inl ⟨_, SqL.of hDl7, by rw [elds]; rfl⟩, iteT ?_⟩
      refine ⟨_, rfl, Dl, _, _, .ref l0, rfl, rfl, SqL.of hDl7, by rw [elds]; exact atI_nat (j := 0) rfl, ?_⟩
      refine ⟨by show 4 ≤ sizeLine; rw [sizeLine_eq]; decide, fun T2 hT2 => ?_⟩
      have sT : Same H7 (upd H7 T2 (.lst [.ref q5, .ref b5, .int (((ddp (imgs p sq)).length : Nat) : Int), .ref l0])) := Same.new hT2
      have hr0 : IsRow p r0 := by
        have h0 : r0 ∈ leads p sq tq := by rw [hcl]; exact List.mem_cons_self ..
        exact mem_rows.mp (List.mem_filter.mp h0).1
      have hd : Dat H7 2 v (.ref l0) := by
        rw [lead1_head, hcl] at hv7
        rcases hv7 with ⟨e, _⟩ | ⟨r, q, e, rfl, hq⟩
        · cases e
        · have e2 : r0 = r := Option.some.inj e
          subst e2
          exact Dat.up 1 _ _ (Dat.row 0 hq hl0 (by rw [hr0.len]; have := hp.le5; omega))
      exact ⟨.ref T, .ref T2, rfl, fin (.ref l0) T2 hT2 hd, fun H9 s9 => ⟨true, rfl, iteF ⟨rfl, (s7.trans sT).trans s9⟩⟩⟩
  rintro σ H7 ⟨rfl, s7⟩
  have hG7 := s7 _ _ hG6
  have hbs7 := rows_same s7 hbs6
  have hlds7 := rows_same s7 hlds6
  have hDl7 := s7 _ _ hDl6
  have ha7 := s7 _ _ ha6
  have hb7 := s7 _ _ hb6
  have hbt7 := s7 _ _ hbt6
  have hL7 := ((s05.trans s6).trans s7) _ _ ls3.hL
  -- first_alike tells who is alike; the number divides
  refine ⟨_, rfl, _, rfl, a, b2, p, tq, rfl, ha7, hbt7, hp, htq, hl216, fun H8 q6 r6 s8 hl6 hq6 => ?_⟩
  refine ⟨_, rfl, G, bs, _, rfl, SqL.of (s8 _ _ hG7), rows_same s8 hbs7, hne, fun b7 r7 _ hr7 hl7 => ?_⟩
  refine ⟨dT r6, dT r7, dp_row hq6, dp_row hr7, shaped_row _, shaped_row _, ?_⟩
  refine ⟨_, rfl, Nat.zero_le _, fun z hz => ?_⟩
  have sz : Same H8 (upd H8 z (.lst [])) := Same.new hz
  have s78 := s8.trans sz
  refine ⟨.list ((leads p sq tq).map dT), .list [], dp_rows (s78 _ _ hDl7) (rows_same s78 hlds7), dp_nil upd_same, shaped_rows _, shaped_rows [], rfl, _, rfl, ?_⟩
  have e1 : PyData.eqv (dT r6) (dT r7) = !PyData.eqv (.list ((leads p sq tq).map dT)) (.list []) := by
    rw [eqv_row, eqv_nil, Bool.eq_iff_iff, beq_iff_eq, least_leads hp hsq htq (least_ddp hl7) hl6]
    cases leads p sq tq <;> simp
  have e2 : (!decide (V.bl (PyData.eqv (dT r6) (dT r7)) = V.bl (!PyData.eqv (.list ((leads p sq tq).map dT)) (.list [])))) = false := by
    rw [e1, decide_eq_true rfl]
    rfl
  show if (!decide (V.bl (PyData.eqv (dT r6) (dT r7)) = V.bl (!PyData.eqv (.list ((leads p sq tq).map dT)) (.list [])))) = true then _ else _
  rw [e2]
  refine iteF ?_
  have dlen : 0 < (ddp (imgs p sq)).length := List.length_pos_iff.mpr hne
  have eln : (bs.map V.ref).length = (ddp (imgs p sq)).length := by rw [List.length_map, rows_len_as hbs7]
  have eLn : (as.map V.ref).length = (rowsM p).length := by rw [List.length_map, hasl]
  refine ⟨_, rfl, L, _, rfl, .inl (SqL.of (s78 _ _ hL7)), _, rfl, G, _, rfl, .inl (SqL.of (s78 _ _ hG7)), _, _, rfl, rfl, by rw [eln]; omega, rfl, _, rfl, ?_⟩
  rw [eln, eLn]
  have e3 : (((rowsM p).length : Nat) : Int).fmod (((ddp (imgs p sq)).length : Nat) : Int) = 0 := by
    rw [Int.fmod_eq_emod_of_nonneg _ (by omega)]
    have := div_rows hp hsq
    omega
  have e4 : (!decide (V.int ((((rowsM p).length : Nat) : Int).fmod (((ddp (imgs p sq)).length : Nat) : Int)) = V.int 0)) = false := by
    rw [e3, decide_eq_true rfl]
    rfl
  show if (!decide (V.int ((((rowsM p).length : Nat) : Int).fmod (((ddp (imgs p sq)).length : Nat) : Int)) = V.int 0)) = true then _ else _
  rw [e4]
  refine iteF ?_
  -- reflected ones
  have s79 := s78
  have haz := s79 _ _ ha7
  have hbz := s79 _ _ hb7
  have hbtz := s79 _ _ hbt7
  refine ⟨_, rfl, _, rfl, _, rfl, a, b, p, sq, rfl, haz, hbz, hp, hsq, hl16, fun H10 q8 s10 hq8 => ?_⟩
  refine ⟨_, rfl, _, rfl, a, b2, p, tq, rfl, s10 _ _ haz, s10 _ _ hbtz, hp, htq, hl216, fun H11 q9 s11 hq9 => ?_⟩
  have s1011 := s10.trans s11
  have hr := leads_refl hp hsq htq
  have last : ∀ (v : V) (H12 : Hp), RenV H12 v (lead1 p (Qm.refl p sq) (Qm.refl p tq)) → decide (V.bl (decide (v = .non)) = V.bl (PyData.eqv (.list ((leads p sq tq).map dT)) (.list []))) = true := by
    intro v H12 hv
    rw [ren_none hv, hr, eqv_nil, decide_eq_true rfl]
  have last2 : ∀ (v : V) (H12 : Hp), RenV H12 v (lead1 p (Qm.refl p sq) (Qm.refl p tq)) → ∀ H', D.rt (.bl (decide (V.bl (decide (v = .non)) = V.bl (PyData.eqv (.list ((leads p sq tq).map dT)) (.list []))))) H' := by
    intro v H12 hv H'
    rw [last v H12 hv]
    exact k H'
  refine ⟨a, q8, q9, p, Qm.refl p sq, Qm.refl p tq, rfl, s1011 _ _ haz, s11 _ _ hq8, hq9, hp, seq_refl hp hsq, by rw [refl_len]; exact hl16, seq_refl hp htq, by rw [refl_len]; exact hl216, fun e H12 s12 => ?_, fun r e H12 q12 s12 hq12 => ?_⟩
  · have sA := (s79.trans s1011).trans s12
    refine ⟨_, rfl, Nat.zero_le _, fun z2 hz2 => ?_⟩
    have sB := sA.trans (Same.new (o := .lst []) hz2)
    exact ⟨.list ((leads p sq tq).map dT), .list [], dp_rows (sB _ _ hDl7) (rows_same sB hlds7), dp_nil upd_same, shaped_rows _, shaped_rows [], rfl, last2 .non H12 (.inl ⟨e, rfl⟩) _⟩
  · have sA := (s79.trans s1011).trans s12
    refine ⟨_, rfl, Nat.zero_le _, fun z2 hz2 => ?_⟩
    have sB := sA.trans (Same.new (o := .lst []) hz2)
    exact ⟨.list ((leads p sq tq).map dT), .list [], dp_rows (sB _ _ hDl7) (rows_same sB hlds7), dp_nil upd_same, shaped_rows _, shaped_rows [], rfl, last2 (.ref q12) H12 (.inr ⟨r, q12, e, rfl, hq12⟩) _⟩
end
end QmD

namespace QmD
open PySem L2 QmR Qm
section
variable {P : Program} {w : World} {K : PySem.W.Frag} {mg : Str → Option Value} {base : Heap}
/-- what the middle part asks -/
def tBm : TS := fun D σ H => ∃ (S a L ow pr : Addr) (as pas : List Addr) (p : List Nat) (v0 v4 v8 v9 v10 v11 v12 v13 v14 v15 v16 v17 v18 : Option V),
  σ = sg v0 (some (.ref S)) (some (.ref a)) (some (.int ((p.length : Nat) : Int))) v4 (some (.ref L)) (some (.ref ow)) (some (.ref pr)) v8 v9 v10 v11 v12 v13 v14 v15 v16 v17 v18 ∧ LS S a L as p H ∧ Paper p ∧
  H ow = some (.tup (tn (ownM p))) ∧ H pr = some (.tup (pas.map V.ref)) ∧ RowsAt H pas (pairRows p) ∧ ∀ H', D.rt (.bl true) H'
theorem ownM_len (p : List Nat) : (ownM p).length ≤ p.length := filter_range_len _ _
theorem pairRows_len (p : List Nat) : (pairRows p).length = (pairsM p).length := List.length_map ..
theorem pairsM_len (p : List Nat) : (pairsM p).length ≤ p.length := filter_range_len _ _
/-- two tuples of rows -/
theorem Dat.rows {H : Hp} {x y : Addr} {as bs : List Addr} {rows : List (List Nat)} (hx : H x = some (.tup (as.map V.ref))) (hy : H y = some (.tup (bs.map V.ref))) (ha : RowsAt H as rows) (hb : RowsAt H bs rows)
    (hl : rows.length ≤ 1000) (hr : ∀ r ∈ rows, r.length ≤ 1000) : Dat H 2 (.ref x) (.ref y) := by
  refine .inr ⟨x, y, _, _, rfl, rfl, by rw [List.length_map, List.length_map, rows_len_as ha, rows_len_as hb], by rw [List.length_map, rows_len_as hb]; exact hl, .inl ⟨hx, hy⟩, fun i u v hu hv => ?_⟩
  obtain ⟨a1, r1, rfl, _, h1, h2⟩ := rows_at ha hu
  obtain ⟨b1, r2, rfl, _, h3, h4⟩ := rows_at hb hv
  rw [h1] at h3
  have e := Option.some.inj h3
  subst e
  exact Dat.row 0 h2 h4 (hr _ (List.mem_of_getElem? h1))
theorem law_B (B : Blt mg) (c : Callees P w K mg base) {f : Addr} {cdv : Value} {A : Around} {outer : List Env} {s : Shared} {H : Hp} {E : XK} (hr : Room 6 (A.deeper (PyProof.Rows.envOfC "law" (defScope sLaw) s.heap.objs.size f cdv))) :
    PSs (XL P w K mg base f cdv A outer s H E) ((defBody sLaw).drop 6) tBm := by
  obtain ⟨fEq, fdEq, mEq, kEq, bEq, GEq⟩ := c.equal.ex
  obtain ⟨fPk, fdPk, mPk, kPk, bPk, GPk⟩ := c.pick.ex
  obtain ⟨fNx, fdNx, mNx, kNx, bNx, GNx⟩ := c.next.ex
  obtain ⟨fOw, fdOw, mOw, kOw, bOw, GOw⟩ := c.own.ex
  obtain ⟨fPr, fdPr, mPr, kPr, bPr, GPr⟩ := c.pairs.ex
  obtain ⟨fCn, fdCn, mCn, kCn, bCn, GCn⟩ := c.cnt.ex
  obtain ⟨fTo, fdTo, mTo, kTo, bTo, GTo⟩ := c.told.ex
  have hr1 : Room 1 _ := hr.mono (by decide)
  have hr2 : Room 2 _ := hr.mono (by decide)
  have hr4 : Room 4 _ := hr.mono (by decide)
  have hr5 : Room 5 _ := hr.mono (by decide)
  have nd := scLaw.nd
  have tail := law_C (P := P) (w := w) (K := K) (mg := mg) (base := base) B c (f := f) (cdv := cdv) (A := A) (outer := outer) (s := s) (H := H) (E := E) hr
  refine pss_weak (t := _) (C8.pss_cut (ps_if (pt_not (pt_val (pe_call GEq hr rfl mEq kEq bEq .nil pass0 (pa_cons (pe_lst
          (pa_cons (pe_call GOw hr4 rfl mOw kOw bOw .nil pass0 (pa_cons (pv 2) pa_nil))
          (pa_cons (pe_call GPr hr4 rfl mPr kPr bPr .nil pass0 (pa_cons (pv 2) pa_nil))
          (pa_cons (pe_call GCn hr4 rfl mCn kCn bCn .nil pass0 (pa_cons (pv 2) pa_nil))
          (pa_cons (pe_call GTo hr5 rfl mTo kTo bTo .nil pass0 (pa_cons (pv 2) (pa_cons (pe_callB (r := rLen K) callLen (by rfl) B.len PySem.boot_len (pa_cons (pv 5) pa_nil)) pa_nil))) pa_nil)))))
          (pa_cons (pe_lst (pa_cons (pv 6) (pa_cons (pv 7) (pa_cons (pe_callB (r := rLen K) callLen (by rfl) B.len PySem.boot_len (pa_cons (pv 5) pa_nil)) (pa_cons (pe_lst (pa_cons pe_str pa_nil)) pa_nil))))) pa_nil))))) (pss_one ps_never) pss_nil)
    (pss_cons (ps_set (i := 8) nd rfl (Or.inl rfl) pe_int)
    (pss_cons (ps_for PassesOwn.never rfl (pi_range1 rfl B.range (pa_cons (pe_callB (r := rLen K) callLen (by rfl) B.len PySem.boot_len (pa_cons (pv 6) pa_nil)) pa_nil)) (pg_name (i := 9) nd rfl (Or.inl rfl))
        (pss_one (ps_set (i := 8) nd rfl (Or.inl rfl) (pe_op op_mul (pv 8) (pe_op op_add (pv 9) pe_int)))))
    (pss_cons (ps_for PassesOwn.never rfl (pi_range1 rfl B.range (pa_cons (pe_callB (r := rLen K) callLen (by rfl) B.len PySem.boot_len (pa_cons (pv 7) pa_nil)) pa_nil)) (pg_name (i := 9) nd rfl (Or.inl rfl))
        (pss_one (ps_set (i := 8) nd rfl (Or.inl rfl) (pe_op op_mul (pe_op op_mul (pv 8) pe_int) (pe_op op_add (pv 9) pe_int)))))
    (pss_cons (ps_if (pt_cmpR op_ne (pv 8) (pe_callB (r := rLen K) callLen (by rfl) B.len PySem.boot_len (pa_cons (pv 5) pa_nil)) (nomark _)) (pss_one ps_never) pss_nil)
    (pss_cons (ps_for PassesOwn.never rfl (pi_range1 rfl B.range (pa_cons pe_int pa_nil)) (pg_name (i := 10) nd rfl (Or.inl rfl))
        (pss_cons (ps_set (i := 11) nd rfl (Or.inl rfl) (pe_call GPk hr2 rfl mPk kPk bPk .nil pass0 (pa_cons (pv 1) (pa_cons (pe_lst (pa_cons pe_int (pa_cons (pe_op op_sub (pe_callB (r := rLen K) callLen (by rfl) B.len PySem.boot_len (pa_cons (pv 5) pa_nil)) pe_int)
            (pa_cons (pe_call GNx hr1 rfl mNx kNx bNx .nil pass0 (pa_cons (pv 1) (pa_cons (pe_callB (r := rLen K) callLen (by rfl) B.len PySem.boot_len (pa_cons (pv 5) pa_nil)) pa_nil))) pa_nil)))) pa_nil))))
        (pss_one (ps_if (pt_not (pt_val (pe_call GEq hr rfl mEq kEq bEq .nil pass0 (pa_cons (pe_call GTo hr5 rfl mTo kTo bTo .nil pass0 (pa_cons (pv 2) (pa_cons (pv 11) pa_nil)))
            (pa_cons (pe_ix (r := rIxL K) ix_list (pv 5) (pv 11) (fun _ _ => rfl)) pa_nil))))) (pss_one ps_never) pss_nil))))
    tail))))))
    fun D σ H hq => ?_
  obtain ⟨S, a, L, ow, pr, as, pas, p, v0, v4, v8, v9, v10, v11, v12, v13, v14, v15, v16, v17, v18, rfl, ls, hp, how, hpr, hpas, k⟩ := hq
  have h1 := (rows_len hp).1
  have h120 := (rows_len hp).2
  have h5 := hp.le5
  have hasl := ls.len
  have eln : (as.map V.ref).length = (rowsM p).length := by rw [List.length_map, hasl]
  -- own_marks, mark_pairs, count_renamings, BadValue("index")
  refine ⟨fun σ H' => σ = sg v0 (some (.ref S)) (some (.ref a)) (some (.int ((p.length : Nat) : Int))) v4 (some (.ref L)) (some (.ref ow)) (some (.ref pr)) v8 v9 v10 v11 v12 v13 v14 v15 v16 v17 v18 ∧ Same H H', ?_, ?_⟩
  · refine ⟨_, rfl, a, p, rfl, ls.ha, hp, fun H1 q1 s1 hq1 => ?_⟩
    refine ⟨_, rfl, a, p, rfl, s1 _ _ ls.ha, hp, fun H2 q2 as2 s2 hq2 has2 => ?_⟩
    have s12 := s1.trans s2
    refine ⟨_, rfl, a, p, rfl, s12 _ _ ls.ha, hp, fun H3 s3 => ?_⟩
    have s13 := s12.trans s3
    refine ⟨_, rfl, _, rfl, L, _, rfl, .inl (SqL.of (s13 _ _ ls.hL)), ?_⟩
    rw [eln]
    refine ⟨a, p, (rowsM p).length, rfl, s13 _ _ ls.ha, hp, fun c => absurd c (Nat.lt_irrefl _), fun _ H4 q4 s4 hq4 => ?_⟩
    have s14 := s13.trans s4
    refine ⟨by show 4 ≤ sizeLine; rw [sizeLine_eq]; decide, fun T1 hT1 => ?_⟩
    have sT1 : Same H4 (upd H4 T1 (.lst [.ref q1, .ref q2, .int (((rowsM p).length : Nat) : Int), .ref q4])) := Same.new hT1
    have s15 := s14.trans sT1
    refine ⟨_, rfl, _, rfl, _, rfl, L, _, rfl, .inl (SqL.of (s15 _ _ ls.hL)), ?_⟩
    rw [eln]
    refine ⟨by show 1 ≤ sizeLine; rw [sizeLine_eq]; decide, fun T3 hT3 => ?_⟩
    obtain ⟨H6, eH6⟩ : ∃ H6, H6 = upd (upd H4 T1 (.lst [.ref q1, .ref q2, .int (((rowsM p).length : Nat) : Int), .ref q4])) T3 (.lst [.str "index"]) := ⟨_, rfl⟩
    have sT3 : Same (upd H4 T1 (.lst [.ref q1, .ref q2, .int (((rowsM p).length : Nat) : Int), .ref q4])) H6 := by
      rw [eH6]
      exact Same.new hT3
    have hT36 : H6 T3 = some (.lst [.str "index"]) := by
      rw [eH6]
      exact upd_same
    rw [← eH6]
    refine ⟨by show 4 ≤ sizeLine; rw [sizeLine_eq]; decide, fun T2 hT2 => ?_⟩
    have sT2 : Same H6 (upd H6 T2 (.lst [.ref ow, .ref pr, .int (((rowsM p).length : Nat) : Int), .ref T3])) := Same.new hT2
    have sA := sT3.trans sT2
    have sB := sT1.trans sA
    have sC := s15.trans sA
    refine ⟨.ref T1, .ref T2, rfl, .inr ⟨T1, T2, [.ref q1, .ref q2, .int (((rowsM p).length : Nat) : Int), .ref q4], [.ref ow, .ref pr, .int (((rowsM p).length : Nat) : Int), .ref T3], rfl, rfl, rfl, by show 4 ≤ 1000; decide, .inr ⟨sA _ _ upd_same, upd_same⟩,
      dat4 ?_ ?_ (Dat.int 2 _) ?_⟩, fun H9 s9 => ⟨true, rfl, iteF ⟨rfl, sC.trans s9⟩⟩⟩
    · exact Dat.up 1 _ _ (Dat.row 0 (((s2.trans s3).trans s4).trans sB _ _ hq1) (sC _ _ how) (by have := ownM_len p; omega))
    · refine Dat.rows (((s3.trans s4).trans sB) _ _ hq2) (sC _ _ hpr) (rows_same ((s3.trans s4).trans sB) has2) (rows_same sC hpas) (by rw [pairRows_len]; have := pairsM_len p; omega) fun r hr => ?_
      obtain ⟨m, _, rfl⟩ := List.mem_map.mp hr
      exact (by decide : 2 ≤ 1000)
    · exact .inr ⟨q4, T3, [.str "index"], [.str "index"], rfl, rfl, rfl, by show 1 ≤ 1000; decide, .inr ⟨sB _ _ hq4, sT2 _ _ hT36⟩, fun i u v hu hv => by
        rw [hu] at hv
        have e := Option.some.inj hv
        subst e
        cases i with
        | zero =>
          have e2 := Option.some.inj (show some (V.str "index") = some u from hu)
          subst e2
          exact Dat.str 1 _
        | succ i => cases hu⟩
  rintro σ H1 ⟨rfl, s1⟩
  have ls1 := ls.same s1
  have how1 := s1 _ _ how
  have hpr1 := s1 _ _ hpr
  have o5 : (ownM p).length ≤ 5 := Nat.le_trans (ownM_len p) h5
  have p5 : (pairsM p).length ≤ 5 := Nat.le_trans (pairsM_len p) h5
  -- due
  refine ⟨_, rfl, ow, _, rfl, .inr (SqT.of how1), _, rfl, by rw [tn_len]; omega, by rw [tn_len]; omega, ?_⟩
  have eo : (((tn (ownM p)).length : Nat) : Int).toNat = (ownM p).length := by rw [tn_len]; rfl
  rw [eo]
  refine for_range (lo := 0) (n := (ownM p).length) (fun i σ H' => ∃ v9 : Option V, σ = sg v0 (some (.ref S)) (some (.ref a)) (some (.int ((p.length : Nat) : Int))) v4 (some (.ref L)) (some (.ref ow)) (some (.ref pr)) (some (.int ((due1 i : Nat) : Int))) v9 v10 v11 v12 v13 v14 v15 v16 v17 v18 ∧ H' = H1)
    ⟨v9, rfl, rfl⟩ ?_ ?_
  · rintro i σ H' hi ⟨v9', rfl, eH⟩
    refine ⟨_, rfl, _, rfl, _, _, rfl, rfl, _, _, rfl, rfl, .inr ⟨by omega, by omega⟩, ?_⟩
    refine ⟨some (.int (0 + ((i : Nat) : Int))), ?_, eH⟩
    have e : ((due1 i : Nat) : Int) * (0 + ((i : Nat) : Int) + 1) = ((due1 (i + 1) : Nat) : Int) := by
      show _ = ((due1 i * (i + 1) : Nat) : Int)
      rw [Int.natCast_mul, Int.zero_add]
      rfl
    dsimp only
    rw [e]
    rfl
  rintro σ H' ⟨v9', rfl, eH⟩
  rw [eH]
  refine ⟨_, rfl, pr, _, rfl, .inr (SqT.of hpr1), _, rfl, ?_, ?_, ?_⟩
  · rw [List.length_map, rows_len_as hpas, pairRows_len]
    omega
  · rw [List.length_map, rows_len_as hpas, pairRows_len]
    omega
  have ep : (((pas.map V.ref).length : Nat) : Int).toNat = (pairsM p).length := by
    rw [List.length_map, rows_len_as hpas, pairRows_len]
    rfl
  rw [ep]
  refine for_range (lo := 0) (n := (pairsM p).length) (fun i σ H' => ∃ v9 : Option V, σ = sg v0 (some (.ref S)) (some (.ref a)) (some (.int ((p.length : Nat) : Int))) v4 (some (.ref L)) (some (.ref ow)) (some (.ref pr)) (some (.int ((due2 (due1 (ownM p).length) i : Nat) : Int))) v9 v10 v11 v12 v13 v14 v15 v16 v17 v18 ∧ H' = H1)
    ⟨v9', rfl, rfl⟩ ?_ ?_
  · rintro i σ H' hi ⟨v9', rfl, eH⟩
    refine ⟨_, rfl, _, _, rfl, rfl, .inr ⟨by decide, by decide⟩, _, rfl, _, _, rfl, rfl, _, _, rfl, rfl, .inr ⟨by omega, by omega⟩, ?_⟩
    refine ⟨some (.int (0 + ((i : Nat) : Int))), ?_, eH⟩
    have e : ((due2 (due1 (ownM p).length) i : Nat) : Int) * 2 * (0 + ((i : Nat) : Int) + 1) = ((due2 (due1 (ownM p).length) (i + 1) : Nat) : Int) := by
      show _ = ((due2 (due1 (ownM p).length) i * 2 * (i + 1) : Nat) : Int)
      rw [Int.natCast_mul, Int.natCast_mul, Int.zero_add]
      rfl
    dsimp only
    rw [e]
    rfl
  rintro σ H' ⟨v9'', rfl, eH⟩
  rw [eH]
  -- due is the number of the rows
  refine ⟨_, rfl, _, rfl, L, _, rfl, .inl (SqL.of ls1.hL), rfl, _, rfl, ?_⟩
  rw [eln]
  have ed : (!decide (V.int ((due2 (due1 (ownM p).length) (pairsM p).length : Nat) : Int) = V.int (((rowsM p).length : Nat) : Int))) = false := by
    rw [due_rows hp, decide_eq_true rfl]
    rfl
  show if (!decide (V.int ((due2 (due1 (ownM p).length) (pairsM p).length : Nat) : Int) = V.int (((rowsM p).length : Nat) : Int))) = true then _ else _
  rw [ed]
  refine iteF ?_
  -- three renamings by their index
  refine ⟨3, rfl, by decide, by decide, ?_⟩
  refine for_range (lo := 0) (n := 3) (fun i σ H' => ∃ v10 v11 : Option V, σ = sg v0 (some (.ref S)) (some (.ref a)) (some (.int ((p.length : Nat) : Int))) v4 (some (.ref L)) (some (.ref ow)) (some (.ref pr)) (some (.int ((due2 (due1 (ownM p).length) (pairsM p).length : Nat) : Int))) v9'' v10 v11 v12 v13 v14 v15 v16 v17 v18 ∧ LS S a L as p H')
    ⟨v10, v11, rfl, ls1⟩ ?_ ?_
  · rintro i σ H2 hi ⟨v10', v11', rfl, ls2⟩
    refine ⟨_, rfl, _, rfl, L, _, rfl, .inl (SqL.of ls2.hL), _, _, rfl, rfl, _, rfl, _, rfl, L, _, rfl, .inl (SqL.of ls2.hL), ?_⟩
    rw [eln]
    refine ⟨S, (rowsM p).length, rfl, ls2.st, h1, by omega, fun H3 d s3 hS3 hd => ?_⟩
    have ls3 := ls2.but s3 hS3
    refine ⟨by show 3 ≤ sizeLine; rw [sizeLine_eq]; decide, fun X hX => ?_⟩
    have nXS : X ≠ S := fun e => by
      obtain ⟨l, hl⟩ := ls3.st.lst
      rw [e, hl] at hX
      cases hX
    have ls4 := ls3.same (Same.new (o := .lst [.int 0, .int ((((rowsM p).length : Nat) : Int) - 1), .int ((d : Nat) : Int)]) hX)
    refine ⟨S, X, [.int 0, .int ((((rowsM p).length : Nat) : Int) - 1), .int ((d : Nat) : Int)], rfl, ls4.st, upd_same, nXS, by show 1 ≤ 3; decide, by show 3 ≤ 1000; decide, fun H5 j v s5 hS5 hv => ?_⟩
    have ls5 := ls4.but s5 hS5
    obtain ⟨n, rfl, hn⟩ : ∃ n : Nat, v = .int ((n : Nat) : Int) ∧ n < (rowsM p).length := by
      match j, hv with
      | 0, hv =>
        have e := Option.some.inj (show some (V.int 0) = some v from hv)
        exact ⟨0, e.symm, by omega⟩
      | 1, hv =>
        have e := Option.some.inj (show some (V.int ((((rowsM p).length : Nat) : Int) - 1)) = some v from hv)
        refine ⟨(rowsM p).length - 1, ?_, by omega⟩
        rw [← e]
        exact congrArg V.int (by omega)
      | 2, hv =>
        have e := Option.some.inj (show some (V.int ((d : Nat) : Int)) = some v from hv)
        exact ⟨d, e.symm, hd⟩
      | j + 3, hv => cases hv
    have hna : n < as.length := by omega
    obtain ⟨row, hrow, hrat⟩ := rows_get ls5.hR (List.getElem?_eq_getElem hna)
    refine ⟨_, rfl, _, rfl, a, p, n, rfl, ls5.ha, hp, fun _ H6 q r s6 hr hq => ?_, fun c => absurd hn (Nat.not_lt_of_le c)⟩
    have ls6 := ls5.same s6
    have er : row = r := Option.some.inj (hrow.symm.trans hr)
    subst er
    refine ⟨_, rfl, _, rfl, L, _, _, .ref as[n], rfl, rfl, SqL.of ls6.hL, atI_nat ?_, ?_⟩
    · rw [List.getElem?_map, List.getElem?_eq_getElem hna]
      rfl
    · have hlr := (row_of hrow).len
      exact ⟨.ref q, .ref as[n], rfl, Dat.up 2 _ _ (Dat.up 1 _ _ (Dat.row 0 hq (s6 _ _ hrat) (by omega))), fun H7 s7 => ⟨true, rfl, iteF ⟨_, _, rfl, ls6.same s7⟩⟩⟩
  · rintro σ H2 ⟨v10', v11', rfl, ls2⟩
    exact ⟨S, a, L, as, p, v0, v4, _, _, _, _, v10', v11', v12, v13, v14, v15, v16, v17, v18, rfl, ls2, hp, k⟩
end
end QmD

namespace QmD
open PySem L2 QmR Qm
section
variable {P : Program} {w : World} {K : PySem.W.Frag} {mg : Str → Option Value} {base : Heap}
def spLaw (K : PySem.W.Frag) : Sp := fun vs H Q _ => ∃ (a : Addr) (ns : List Int), vs = [.ref a] ∧ SqL K H a (ns.map V.int) ∧ ns.length ≤ 63 ∧ ∀ H', Q (.bl true) H'
/-- does the row keep the counterpart of one mark -/
def cb (p r : List Nat) (m : Nat) : Bool := g p (g r m) == g r (g p m)
abbrev RBool (p r : List Nat) : Nat → List V → Hp → Prop := fun i l _ => l = ((List.range i).map (cb p r)).map V.bl ∧ i ≤ p.length
theorem RBool.stays {p r : List Nat} (h : p.length ≤ 5) : Stays (RBool p r) := ⟨fun _ _ _ _ _ h => h, fun i l _ e => by
  rw [e.1, List.length_map, List.length_map, List.length_range]
  have := e.2
  omega⟩
theorem law_A (B : Blt mg) (c : Callees P w K mg base) {f : Addr} {fd : FuncData} (F : Fun K "law" "law" sLaw f fd) : FnOk P w K mg base CX0 7 f fd ["_law_script"] (spLaw K) := by
  obtain ⟨fSt, fdSt, mSt, kSt, bSt, GSt⟩ := c.stream.ex
  obtain ⟨fPa, fdPa, mPa, kPa, bPa, GPa⟩ := c.paper.ex
  obtain ⟨fOr, fdOr, mOr, kOr, bOr, GOr⟩ := c.orders.ex
  refine F.ok scLaw (fun vs H Q E h => ?_) (fun cdv A outer s H vs Q E hr h => ?_)
  · obtain ⟨a, ns, rfl, _⟩ := h
    rfl
  · obtain ⟨scr, ns, rfl, hscr, h63, k⟩ := h
    have hr1 : Room 1 _ := hr.mono (by decide)
    have hr2 : Room 2 _ := hr.mono (by decide)
    have nd := scLaw.nd
    have tail := law_B (P := P) (w := w) (K := K) (mg := mg) (base := base) B c (f := f) (cdv := cdv) (A := A) (outer := outer) (s := s) (H := H) (E := E) hr
    refine ⟨_, pss_cons (ps_set (i := 1) nd rfl (Or.inl rfl) (pe_call GSt hr1 rfl mSt kSt bSt .nil pass0 (pa_cons (pv 0) pa_nil)))
      (pss_cons (ps_set (i := 2) nd rfl (Or.inr rfl) (pe_call GPa hr2 rfl mPa kPa bPa .nil pass0 (pa_cons (pv 1) (pa_cons pe_int pa_nil))))
      (pss_cons (ps_set (i := 3) nd rfl (Or.inr rfl) (pe_callB (r := rLen K) callLen (by rfl) B.len PySem.boot_len (pa_cons (pv 2) pa_nil)))
      (pss_cons (ps_setLc (i := 5) (own := [("_law_row", 4)]) (g := gName 4) (tt := tB (tCB (rAll K) (tCons (tLc (iRng1 (tCons (tVar 3) tNil)) (gName 19) tYes (tOp rEq (tOp (rIxT K) (tVar 2) (tOp (rIxT K) (tVar 4) (tVar 19))) (tOp (rIxT K) (tVar 4) (tOp (rIxT K) (tVar 2) (tVar 19)))) [19]) tNil)))
          rfl nd rfl rfl (sw_true rfl rfl rfl (by decide +kernel)) (pi_list (pe_call GOr hr1 rfl mOr kOr bOr .nil pass0 (pa_cons (pv 3) pa_nil))) (blkOk_by (N := NL) (sc := defScope sLaw) (by decide +kernel))
          (fun _ _ _ _ _ => pg_name (i := 4) nd rfl (Or.inr rfl))
          (fun _ _ _ _ _ => pts_one (pt_val (pe_callB (r := rAll K) (cr_all rfl) (by rfl) B.all (by decide +kernel) (pa_cons
              (pe_lc (own := [("_law_mark", 19)]) (g := gName 19) (tt := tYes) rfl nd (pi_range1 rfl B.range (pa_cons (pv 3) pa_nil)) (blkOk_by (N := NL) (sc := relS (lcSc (stVal (lawSt 3))) (defScope sLaw)) (by decide +kernel))
                (fun _ _ _ _ _ => pg_name (i := 19) nd rfl (Or.inl rfl)) (fun _ _ _ _ _ => pts_nil)
                (fun _ _ _ _ _ => pe_cmpR op_eq (pe_ix (r := rIxT K) ix_tup (pv 2) (pe_ix (r := rIxT K) ix_tup (pv 4) (pv 19) (fun _ _ => rfl)) (fun _ _ => rfl)) (pe_ix (r := rIxT K) ix_tup (pv 4) (pe_ix (r := rIxT K) ix_tup (pv 2) (pv 19) (fun _ _ => rfl)) (fun _ _ => rfl)) (nomark _))) pa_nil))))
          (fun _ _ _ _ _ => pv 4))
      (pss_cons (ps_set (i := 6) nd rfl (Or.inl rfl) (pe_callTy call_tuple_of (by rfl) B.tuple (by decide +kernel) (pa_cons
          (pe_lc (own := [("_law_mark", 19)]) (g := gName 19) (tt := tTest (tOp rEq (tOp (rIxT K) (tVar 2) (tVar 19)) (tVar 19))) rfl nd
            (pi_range1 rfl B.range (pa_cons (pv 3) pa_nil)) (blkOk_by (N := NL) (sc := defScope sLaw) (by decide +kernel))
            (fun _ _ _ _ _ => pg_name (i := 19) nd rfl (Or.inl rfl)) (fun _ _ _ _ _ => pts_one (pt_cmpR op_eq (pe_ix (r := rIxT K) ix_tup (pv 2) (pv 19) (fun _ _ => rfl)) (pv 19) (nomark _)))
            (fun _ _ _ _ _ => pv 19)) pa_nil)))
      (pss_cons (ps_set (i := 7) nd rfl (Or.inl rfl) (pe_callTy call_tuple_of (by rfl) B.tuple (by decide +kernel) (pa_cons
          (pe_lc (own := [("_law_mark", 19)]) (g := gName 19) (tt := tTest (tOp (rI0 fun i j => .bl (decide (i < j))) (tVar 19) (tOp (rIxT K) (tVar 2) (tVar 19)))) rfl nd
            (pi_range1 rfl B.range (pa_cons (pv 3) pa_nil)) (blkOk_by (N := NL) (sc := defScope sLaw) (by decide +kernel))
            (fun _ _ _ _ _ => pg_name (i := 19) nd rfl (Or.inl rfl)) (fun _ _ _ _ _ => pts_one (pt_cmpR op_lt (pv 19) (pe_ix (r := rIxT K) ix_tup (pv 2) (pv 19) (fun _ _ => rfl)) (nomark _)))
            (fun _ _ _ _ _ => pe_tup (pa_cons (pv 19) (pa_cons (pe_ix (r := rIxT K) ix_tup (pv 2) (pv 19) (fun _ _ => rfl)) pa_nil)))) pa_nil)))
      tail))))), ?_⟩
    -- stream, paper, many
    refine ⟨_, rfl, scr, ns, rfl, hscr, fun H1 S s1 _ hS1 => ?_⟩
    refine ⟨_, rfl, S, rfl, hS1, fun H2 a p s2 hS2 hp ha2 => ?_⟩
    have h1 := hp.pos
    have h5 := hp.le5
    refine ⟨_, rfl, a, _, rfl, .inr (SqT.of ha2), ?_⟩
    rw [tn_len]
    -- rows
    refine ⟨_, rfl, p.length, rfl, h5, fun H3 L as s3 _ hL hR => ⟨L, rfl, ⟨_, SqL.of hL⟩, fun Dl hDl => ?_⟩⟩
    have ha3 := s3 _ _ ha2
    have hS3 := hS2.same s3
    have nl := rows_len_as hR
    have olen : (orders p.length).length ≤ 3125 := ordLoop_small h5 (Nat.le_refl _)
    have stF : Stays (RRows (orders p.length).length fun i => ((orders p.length).take i).filter (commutes p)) := RRows.stays fun i hi => by
      have e := List.length_filter_le (commutes p) ((orders p.length).take i)
      rw [List.length_take] at e
      omega
    refine lc_list (xs := as.map V.ref) (PvL H3 Dl (RRows (orders p.length).length fun i => ((orders p.length).take i).filter (commutes p))) (PvL.start hDl stF ⟨Nat.zero_le _, [], rfl, .nil⟩) (fun i H' _ q => q.1.seq (SqL.of hL)) ?_ ?_
    · intro i x H4 hx q
      obtain ⟨s4, l, hl, hR4⟩ := q
      obtain ⟨ra, row, rfl, hra, hrow, hrat⟩ := rows_at (rows_same s4 hR) hx
      have hi : i < (orders p.length).length := (List.getElem?_eq_some_iff.mp hrow).1
      obtain ⟨rl, rnd, rlt⟩ := mem_orders.mp (List.mem_of_getElem? hrow)
      have ha4 := s4 _ _ ha3
      refine ⟨rfl, ?_⟩
      refine ⟨_, rfl, _, rfl, by omega, by omega, fun D2 hD2 => ?_⟩
      have en : ((p.length : Nat) : Int).toNat = p.length := rfl
      rw [en]
      refine lc_range (lo := 0) (PvL H4 D2 (RBool p row)) (PvL.start hD2 (RBool.stays h5) ⟨rfl, Nat.zero_le _⟩) ?_ ?_
      · intro m H5 hm q
        obtain ⟨s5, l5, hl5, el5, _⟩ := q
        have em : (0 : Int) + (m : Int) = ((m : Nat) : Int) := by omega
        rw [em]
        have ha5 := s5 _ _ ha4
        have hr5 := s5 _ _ hrat
        have gr : g row m < p.length := g_lt rl rlt hm
        have gp : g p m < row.length := by rw [rl]; exact hp.g_lt hm
        refine ⟨rfl, yesT ?_⟩
        refine ⟨_, rfl, _, rfl, _, rfl, ra, _, _, _, rfl, rfl, SqT.of hr5, tn_at (by rw [rl]; exact hm), a, _, _, _, rfl, rfl, SqT.of ha5, tn_at gr, ?_⟩
        refine ⟨_, rfl, _, rfl, _, rfl, a, _, _, _, rfl, rfl, SqT.of ha5, tn_at hm, ra, _, _, _, rfl, rfl, SqT.of hr5, tn_at gp, rfl, ?_⟩
        have e : decide (V.int ((g p (g row m) : Nat) : Int) = V.int ((g row (g p m) : Nat) : Int)) = cb p row m := by
          unfold cb
          rw [Bool.eq_iff_iff, decide_eq_true_eq, beq_iff_eq]
          exact ⟨fun z => Int.ofNat_inj.mp (V.int.inj z), fun z => by rw [z]⟩
        rw [e]
        refine PvL.put hD2 (RBool.stays h5) s5 hl5 (Same.refl _) ⟨?_, hm⟩
        rw [el5, List.range_succ, List.map_append, List.map_append]
        rfl
      · intro H5 q
        obtain ⟨s5, l5, hl5, el5, _⟩ := q
        refine ⟨D2, (List.range p.length).map (cb p row), rfl, SqL.of (by rw [hl5, el5]), _, rfl, ?_⟩
        have e : ((List.range p.length).map (cb p row)).all id = commutes p row := by
          rw [List.all_map]
          rfl
        rw [e]
        have fs := filter_snoc (f := commutes p) hrow
        refine ite2 (fun c => ?_) (fun c => ?_)
        · refine ⟨_, rfl, ?_⟩
          refine PvL.put hDl stF s4 hl s5 (hR4.more hi s5 (s5 _ _ hrat) ?_)
          rw [fs, if_pos c]
        · refine PvL.skip s4 hl s5 ?_
          obtain ⟨_, cs, ecs, hcs⟩ := hR4
          refine ⟨hi, cs, ecs, ?_⟩
          dsimp only
          rw [fs, if_neg c, List.append_nil]
          exact rows_same s5 hcs
    intro H4 q
    obtain ⟨s4, l, hl, _, rs, el, hrs⟩ := q
    dsimp only at hrs
    have eall : (orders p.length).take (as.map V.ref).length = orders p.length := by rw [List.length_map, nl, List.take_length]
    rw [eall] at hrs
    have ls4 : LS S a Dl rs p H4 := ⟨hS3.same s4, s4 _ _ ha3, by rw [hl, el], hrs⟩
    have en : ((p.length : Nat) : Int).toNat = p.length := rfl
    -- own
    refine ⟨_, rfl, _, rfl, by omega, by omega, fun D hD => ?_⟩
    rw [en]
    have st : Stays (fun i l (_ : Hp) => l = tn ((List.range i).filter fun m => g p m == m) ∧ i ≤ p.length) := ⟨fun _ _ _ _ _ h => h, fun i l _ e => by
      rw [e.1, tn_len]
      have := filter_range_len (fun m => g p m == m) i
      have := e.2
      omega⟩
    refine lc_range (lo := 0) (PvL H4 D _) (PvL.start hD st ⟨rfl, Nat.zero_le _⟩) ?_ ?_
    · intro i H5 hi q
      obtain ⟨s5, l5, hl5, el5, _⟩ := q
      have ei : (0 : Int) + (i : Int) = ((i : Nat) : Int) := by omega
      rw [ei]
      have ha5 := s5 _ _ ls4.ha
      refine ⟨rfl, _, rfl, _, rfl, a, _, _, _, rfl, rfl, SqT.of ha5, tn_at hi, _, rfl, rfl, _, rfl, ?_⟩
      have fs := filter_range_succ (fun m => g p m == m) i
      by_cases c : g p i = i
      · have cbt : (g p i == i) = true := beq_iff_eq.mpr c
        rw [decide_eq_true (by rw [c])]
        refine iteT ⟨_, rfl, PvL.put hD st s5 hl5 (Same.refl _) ⟨?_, hi⟩⟩
        rw [fs]
        simp only [cbt, if_true]
        rw [tn_snoc, el5]
      · have cbf : (g p i == i) = false := beq_eq_false_iff_ne.mpr c
        rw [decide_eq_false (fun e => c (Int.ofNat_inj.mp (V.int.inj e)))]
        refine iteF (PvL.skip s5 hl5 (Same.refl _) ⟨?_, hi⟩)
        rw [fs]
        simp only [cbf, Bool.false_eq_true, if_false, List.append_nil]
        exact el5
    intro H5 q
    obtain ⟨s5, l5, hl5, el5, _⟩ := q
    refine ⟨D, l5, rfl, .inl ⟨SqL.of hl5, fun ow how0 => ?_⟩⟩
    obtain ⟨H6, eH6⟩ : ∃ H6, H6 = upd H5 ow (.tup l5) := ⟨_, rfl⟩
    have s6 : Same H5 H6 := by rw [eH6]; exact Same.new how0
    have how : H6 ow = some (.tup (tn (ownM p))) := by
      rw [eH6, upd_same, el5]
      rfl
    rw [← eH6]
    have ls6 := (ls4.same s5).same s6
    -- pairs
    refine ⟨_, rfl, _, rfl, by omega, by omega, fun D3 hD3 => ?_⟩
    rw [en]
    have stP : Stays (RRows p.length fun i => ((List.range i).filter fun m => decide (m < g p m)).map fun m => [m, g p m]) := RRows.stays fun i hi => by
      rw [List.length_map]
      have := filter_range_len (fun m => decide (m < g p m)) i
      omega
    refine lc_range (lo := 0) (PvL H6 D3 _) (PvL.start hD3 stP ⟨Nat.zero_le _, [], rfl, .nil⟩) ?_ ?_
    · intro i H7 hi q
      obtain ⟨s7, l7, hl7, hR7⟩ := q
      have ei : (0 : Int) + (i : Int) = ((i : Nat) : Int) := by omega
      rw [ei]
      have ha7 := s7 _ _ ls6.ha
      refine ⟨rfl, _, rfl, _, rfl, _, rfl, a, _, _, _, rfl, rfl, SqT.of ha7, tn_at hi, _, _, rfl, rfl, _, rfl, ?_⟩
      have fs := filter_range_succ (fun m => decide (m < g p m)) i
      by_cases c : i < g p i
      · have cbt : decide (i < g p i) = true := decide_eq_true c
        rw [decide_eq_true (by omega)]
        refine iteT ⟨_, rfl, _, rfl, _, rfl, a, _, _, _, rfl, rfl, SqT.of ha7, tn_at hi, by show 2 ≤ sizeLine; rw [sizeLine_eq]; decide, fun t ht => ?_⟩
        refine PvL.put hD3 stP s7 hl7 (Same.new ht) (hR7.more hi (Same.new ht) (row := [i, g p i]) upd_same ?_)
        rw [fs, List.map_append]
        simp only [cbt, if_true, List.map_cons, List.map_nil]
      · have cbf : decide (i < g p i) = false := decide_eq_false c
        rw [decide_eq_false (by omega)]
        refine iteF (PvL.skip s7 hl7 (Same.refl _) ?_)
        obtain ⟨_, as7, el7, r7⟩ := hR7
        refine ⟨hi, as7, el7, ?_⟩
        dsimp only
        rw [fs, List.map_append]
        simp only [cbf, Bool.false_eq_true, if_false, List.map_nil, List.append_nil]
        exact r7
    intro H7 q
    obtain ⟨s7, l7, hl7, _, as7, el7, r7⟩ := q
    refine ⟨D3, l7, rfl, .inl ⟨SqL.of hl7, fun pr hpr => ?_⟩⟩
    have s8 : Same H7 (upd H7 pr (.tup l7)) := Same.new hpr
    exact ⟨S, a, Dl, ow, pr, rs, as7, p, _, _, _, _, _, _, _, _, _, _, _, _, _, rfl, (ls6.same s7).same s8, hp, s8 _ _ (s7 _ _ how), by rw [upd_same, el7], rows_same s8 r7, fun H' => k H'⟩
end
end QmD

namespace QmD
open PySem L2 QmR Qm
/-! ### what the top has written -/
theorem dfn_mk {K : PySem.W.Frag} {mg : Str → Option Value} {x : Str} {st : Stmt} {ps : List Str} {f : Addr} {oc : Value} {od an : Option Addr} {osl : Array (Option Value)} {kV doc pm cdv ct : Value}
    (m : mg x = some (.ref f)) (l : K.lookup f = some ⟨oc, od, .func (PySem.W.fnOf x x (defArgs st) (defBody st) (defScope st) .none kV doc pm an cdv ct), osl⟩) (c : PySem.W.codeIn K cdv x = true) (k : PySem.W.keepIn K (.ref f) = true)
    (b : ∀ (kV doc pm : Value) (an : Option Addr) (cdv ct : Value) (us : List Value), us.length = ps.length → bindArgs (PySem.W.fnOf x x (defArgs st) (defBody st) (defScope st) .none kV doc pm an cdv ct) ⟨us, []⟩ = pure (ps.zip us)) : Dfn K mg x st ps :=
  have F := fun_mk (st := st) l c k
  ⟨_, _, F, m, F.binds b⟩
/-- an error of the class at S is what «except S» names -/
theorem exm_self {K : PySem.W.Frag} {S : Addr} (h1 : PySem.W.subIn K (.ref S) (.type "BaseException") = some true) (h2 : PySem.W.isClsIn K S = true) (h3 : PySem.W.typeIn K (.ref S) = some (.type "type")) (h4 : PySem.W.subIn K (.ref S) (.ref S) = some true) :
    PySem.W.exmOne K (.ref S) (.ref S) = some true := by
  have e1 : (PySem.W.subIn K (.ref S) (.type "BaseException") == some true) = true := by rw [h1] <;> rfl
  have e2 : ((PySem.W.clsIn K S).isSome && PySem.W.typeIn K (.ref S) == some (.type "type")) = true := by
    have h2' : (PySem.W.clsIn K S).isSome = true := h2
    rw [h2', h3] <;> rfl
  show (if (PySem.W.subIn K (.ref S) (.type "BaseException") == some true) = true then (if ((PySem.W.clsIn K S).isSome && PySem.W.typeIn K (.ref S) == some (.type "type")) = true then PySem.W.subIn K (.ref S) (.ref S) else none) else none) = some true
  rw [if_pos e1, if_pos e2]
  exact h4
/-- all the defs but the law -/
structure Defs (K : PySem.W.Frag) (mg : Str → Option Value) : Prop where
  d0 : Dfn K mg "is_whole" sWhole ["value", "low", "high"]
  d1 : Dfn K mg "is_paper" sPaper ["value"]
  d2 : Dfn K mg "are_marks" sMarks ["paper", "value"]
  d3 : Dfn K mg "is_sequence" sSeq ["paper", "value"]
  d4 : Dfn K mg "check_paper" sChkP ["paper"]
  d5 : Dfn K mg "check_sequence" sChkS ["paper", "sequence"]
  d6 : Dfn K mg "reflected_of" sReflO ["paper", "sequence"]
  d7 : Dfn K mg "reflected" sRefl ["paper", "sequence"]
  d8 : Dfn K mg "own_marks" sOwn ["paper"]
  d9 : Dfn K mg "mark_pairs" sPairs ["paper"]
  d10 : Dfn K mg "keeps" sKeeps ["paper", "names"]
  d11 : Dfn K mg "renamings_of" sRens ["paper"]
  d12 : Dfn K mg "count_renamings" sCnt ["paper"]
  d13 : Dfn K mg "nth_renaming" sNth ["paper", "index"]
  d14 : Dfn K mg "renamed_by" sRby ["sequence", "names"]
  d15 : Dfn K mg "first_alike" sFirst ["paper", "sequence"]
  d16 : Dfn K mg "count_alike" sCntA ["paper", "sequence"]
  d17 : Dfn K mg "check_two" sChk2 ["paper", "first", "second"]
  d18 : Dfn K mg "renaming" sRen ["paper", "first", "second"]
  d19 : Dfn K mg "_law_stream" sStream ["_law_script"]
  d20 : Dfn K mg "_law_next" sNext ["_law_stream_here", "_law_many"]
  d21 : Dfn K mg "_law_is_integer" sIsI ["_law_actual"]
  d22 : Dfn K mg "_law_equal" sEq ["_law_actual", "_law_due"]
  d23 : Dfn K mg "_law_pick" sPick ["_law_stream_here", "_law_rows"]
  d24 : Dfn K mg "_law_paper" sLPap ["_law_stream_here", "_law_most"]
  d25 : Dfn K mg "_law_sequence" sLSeq ["_law_stream_here", "_law_paper_here", "_law_most"]
  d26 : Dfn K mg "_law_reflected" sLRefl ["_law_paper_here", "_law_sequence_here"]
  d27 : Dfn K mg "_law_orders" sOrd ["_law_many"]
  d28 : Dfn K mg "_law_told" sTold ["_law_paper_here", "_law_index"]
section
variable {P : Program} {w : World} {K : PySem.W.Frag} {mg : Str → Option Value} {base : Heap}
theorem callees {C fI : Addr} {fdI : FuncData} (B : Blt mg) (T : ExcT K mg C fI fdI) (D : Defs K mg) : Callees P w K mg base := by
  have hW : Has P w K mg base CX0 1 "is_whole" _ spWhole := ok_whole B D.d0
  have hPap := ok_paper B D.d1 hW
  have hMar := ok_marks B D.d2 hW
  have hSeq := ok_seq B D.d3 hMar
  have hCP := ok_chkP D.d4 hPap
  have hCS := ok_chkS D.d5 hCP hSeq
  have hRO : Has P w K mg base CX0 1 "reflected_of" _ spRefl := ok_reflO B D.d6
  have hRf := ok_refl D.d7 hCS hRO
  have hOwn := ok_own B D.d8 hCP
  have hPrs := ok_pairs B D.d9 hCP
  have hKp : Has P w K mg base CX0 1 "keeps" _ spKeeps := ok_keeps B D.d10
  have hRens := ok_rens B D.d11 hKp
  have hCnt := ok_cnt B D.d12 hCP hRens
  have hNth := ok_nth B T D.d13 hCP hRens hW
  have hRby : Has P w K mg base CX0 1 "renamed_by" _ spRby := ok_rby B D.d14
  have hFi := ok_first B D.d15 hCS hRens hRby
  have hCA := ok_cntA B D.d16 hCS hRens hRby
  have hC2 := ok_chk2 D.d17 hCP hSeq
  have hRen := ok_ren B D.d18 hC2 hRens hRby
  have hSt : Has P w K mg base CX0 1 "_law_stream" _ (spStream K) := ok_stream B D.d19
  have hNx : Has P w K mg base CX0 1 "_law_next" _ spNext := ok_next B D.d20
  have hII : Has P w K mg base CX0 1 "_law_is_integer" _ spIsI := ok_isI B D.d21
  have hEq := ok_eq B D.d22 hII 4
  have hPk := ok_pick B D.d23 hNx
  have hLP := ok_lpap B D.d24 hNx
  have hLS := ok_lseq B D.d25 hNx
  have hLR : Has P w K mg base CX0 1 "_law_reflected" _ spRefl := ok_lrefl B D.d26
  have hOr : Has P w K mg base CX0 1 "_law_orders" _ spOrd := ok_ord B D.d27
  have hTo := ok_told T D.d28 hNth
  exact ⟨hSt, hLP, hOr, hEq, hOwn, hPrs, hCnt, hTo, hPk, hNx, hLS, hLR, hRf, hFi, hCA, hRen⟩
end
theorem all_mk {l : PySem.W.OpenLaw} {w : World} {K : PySem.W.Frag} {h : Heap} {mg : Str → Option Value} {fa C fI cQ : Addr} {tm tl : Tok} (X : K.In h) (G : h.Ns mainGlobals mg) (hfa : mg "law" = some (.ref fa))
    {nm q : Str} {N : Addr} {bs : List Value} {sn : List Str} {sub : List Value} {ab : Bool} {col : Option Bool} {dd : Option Addr} {m0 m1 m2 m3 m5 : Option Value}
    {odI anI : Option Addr} {slI : Array (Option Value)} {ocI kVI dcI pmI cdI ctI : Value}
    {od0 an0 : Option Addr} {sl0 : Array (Option Value)} {f0 : Addr} {oc0 kV0 dc0 pm0 cd0 ct0 : Value}
    {od1 an1 : Option Addr} {sl1 : Array (Option Value)} {f1 : Addr} {oc1 kV1 dc1 pm1 cd1 ct1 : Value}
    {od2 an2 : Option Addr} {sl2 : Array (Option Value)} {f2 : Addr} {oc2 kV2 dc2 pm2 cd2 ct2 : Value}
    {od3 an3 : Option Addr} {sl3 : Array (Option Value)} {f3 : Addr} {oc3 kV3 dc3 pm3 cd3 ct3 : Value}
    {od4 an4 : Option Addr} {sl4 : Array (Option Value)} {f4 : Addr} {oc4 kV4 dc4 pm4 cd4 ct4 : Value}
    {od5 an5 : Option Addr} {sl5 : Array (Option Value)} {f5 : Addr} {oc5 kV5 dc5 pm5 cd5 ct5 : Value}
    {od6 an6 : Option Addr} {sl6 : Array (Option Value)} {f6 : Addr} {oc6 kV6 dc6 pm6 cd6 ct6 : Value}
    {od7 an7 : Option Addr} {sl7 : Array (Option Value)} {f7 : Addr} {oc7 kV7 dc7 pm7 cd7 ct7 : Value}
    {od8 an8 : Option Addr} {sl8 : Array (Option Value)} {f8 : Addr} {oc8 kV8 dc8 pm8 cd8 ct8 : Value}
    {od9 an9 : Option Addr} {sl9 : Array (Option Value)} {f9 : Addr} {oc9 kV9 dc9 pm9 cd9 ct9 : Value}
    {od10 an10 : Option Addr} {sl10 : Array (Option Value)} {f10 : Addr} {oc10 kV10 dc10 pm10 cd10 ct10 : Value}
    {od11 an11 : Option Addr} {sl11 : Array (Option Value)} {f11 : Addr} {oc11 kV11 dc11 pm11 cd11 ct11 : Value}
    {od12 an12 : Option Addr} {sl12 : Array (Option Value)} {f12 : Addr} {oc12 kV12 dc12 pm12 cd12 ct12 : Value}
    {od13 an13 : Option Addr} {sl13 : Array (Option Value)} {f13 : Addr} {oc13 kV13 dc13 pm13 cd13 ct13 : Value}
    {od14 an14 : Option Addr} {sl14 : Array (Option Value)} {f14 : Addr} {oc14 kV14 dc14 pm14 cd14 ct14 : Value}
    {od15 an15 : Option Addr} {sl15 : Array (Option Value)} {f15 : Addr} {oc15 kV15 dc15 pm15 cd15 ct15 : Value}
    {od16 an16 : Option Addr} {sl16 : Array (Option Value)} {f16 : Addr} {oc16 kV16 dc16 pm16 cd16 ct16 : Value}
    {od17 an17 : Option Addr} {sl17 : Array (Option Value)} {f17 : Addr} {oc17 kV17 dc17 pm17 cd17 ct17 : Value}
    {od18 an18 : Option Addr} {sl18 : Array (Option Value)} {f18 : Addr} {oc18 kV18 dc18 pm18 cd18 ct18 : Value}
    {od19 an19 : Option Addr} {sl19 : Array (Option Value)} {f19 : Addr} {oc19 kV19 dc19 pm19 cd19 ct19 : Value}
    {od20 an20 : Option Addr} {sl20 : Array (Option Value)} {f20 : Addr} {oc20 kV20 dc20 pm20 cd20 ct20 : Value}
    {od21 an21 : Option Addr} {sl21 : Array (Option Value)} {f21 : Addr} {oc21 kV21 dc21 pm21 cd21 ct21 : Value}
    {od22 an22 : Option Addr} {sl22 : Array (Option Value)} {f22 : Addr} {oc22 kV22 dc22 pm22 cd22 ct22 : Value}
    {od23 an23 : Option Addr} {sl23 : Array (Option Value)} {f23 : Addr} {oc23 kV23 dc23 pm23 cd23 ct23 : Value}
    {od24 an24 : Option Addr} {sl24 : Array (Option Value)} {f24 : Addr} {oc24 kV24 dc24 pm24 cd24 ct24 : Value}
    {od25 an25 : Option Addr} {sl25 : Array (Option Value)} {f25 : Addr} {oc25 kV25 dc25 pm25 cd25 ct25 : Value}
    {od26 an26 : Option Addr} {sl26 : Array (Option Value)} {f26 : Addr} {oc26 kV26 dc26 pm26 cd26 ct26 : Value}
    {od27 an27 : Option Addr} {sl27 : Array (Option Value)} {f27 : Addr} {oc27 kV27 dc27 pm27 cd27 ct27 : Value}
    {od28 an28 : Option Addr} {sl28 : Array (Option Value)} {f28 : Addr} {oc28 kV28 dc28 pm28 cd28 ct28 : Value}
    {od29 an29 : Option Addr} {sl29 : Array (Option Value)} {f29 : Addr} {oc29 kV29 dc29 pm29 cd29 ct29 : Value}
    (a0 : PySem.W.nsIn K mainGlobals "is_whole" = some (some (.ref f0))) (l0 : K.lookup f0 = some ⟨oc0, od0, .func (PySem.W.fnOf "is_whole" "is_whole" (defArgs sWhole) (defBody sWhole) (defScope sWhole) .none kV0 dc0 pm0 an0 cd0 ct0), sl0⟩) (c0 : PySem.W.codeIn K cd0 "is_whole" = true) (k0 : PySem.W.keepIn K (.ref f0) = true)
    (a1 : PySem.W.nsIn K mainGlobals "is_paper" = some (some (.ref f1))) (l1 : K.lookup f1 = some ⟨oc1, od1, .func (PySem.W.fnOf "is_paper" "is_paper" (defArgs sPaper) (defBody sPaper) (defScope sPaper) .none kV1 dc1 pm1 an1 cd1 ct1), sl1⟩) (c1 : PySem.W.codeIn K cd1 "is_paper" = true) (k1 : PySem.W.keepIn K (.ref f1) = true)
    (a2 : PySem.W.nsIn K mainGlobals "are_marks" = some (some (.ref f2))) (l2 : K.lookup f2 = some ⟨oc2, od2, .func (PySem.W.fnOf "are_marks" "are_marks" (defArgs sMarks) (defBody sMarks) (defScope sMarks) .none kV2 dc2 pm2 an2 cd2 ct2), sl2⟩) (c2 : PySem.W.codeIn K cd2 "are_marks" = true) (k2 : PySem.W.keepIn K (.ref f2) = true)
    (a3 : PySem.W.nsIn K mainGlobals "is_sequence" = some (some (.ref f3))) (l3 : K.lookup f3 = some ⟨oc3, od3, .func (PySem.W.fnOf "is_sequence" "is_sequence" (defArgs sSeq) (defBody sSeq) (defScope sSeq) .none kV3 dc3 pm3 an3 cd3 ct3), sl3⟩) (c3 : PySem.W.codeIn K cd3 "is_sequence" = true) (k3 : PySem.W.keepIn K (.ref f3) = true)
    (a4 : PySem.W.nsIn K mainGlobals "check_paper" = some (some (.ref f4))) (l4 : K.lookup f4 = some ⟨oc4, od4, .func (PySem.W.fnOf "check_paper" "check_paper" (defArgs sChkP) (defBody sChkP) (defScope sChkP) .none kV4 dc4 pm4 an4 cd4 ct4), sl4⟩) (c4 : PySem.W.codeIn K cd4 "check_paper" = true) (k4 : PySem.W.keepIn K (.ref f4) = true)
    (a5 : PySem.W.nsIn K mainGlobals "check_sequence" = some (some (.ref f5))) (l5 : K.lookup f5 = some ⟨oc5, od5, .func (PySem.W.fnOf "check_sequence" "check_sequence" (defArgs sChkS) (defBody sChkS) (defScope sChkS) .none kV5 dc5 pm5 an5 cd5 ct5), sl5⟩) (c5 : PySem.W.codeIn K cd5 "check_sequence" = true) (k5 : PySem.W.keepIn K (.ref f5) = true)
    (a6 : PySem.W.nsIn K mainGlobals "reflected_of" = some (some (.ref f6))) (l6 : K.lookup f6 = some ⟨oc6, od6, .func (PySem.W.fnOf "reflected_of" "reflected_of" (defArgs sReflO) (defBody sReflO) (defScope sReflO) .none kV6 dc6 pm6 an6 cd6 ct6), sl6⟩) (c6 : PySem.W.codeIn K cd6 "reflected_of" = true) (k6 : PySem.W.keepIn K (.ref f6) = true)
    (a7 : PySem.W.nsIn K mainGlobals "reflected" = some (some (.ref f7))) (l7 : K.lookup f7 = some ⟨oc7, od7, .func (PySem.W.fnOf "reflected" "reflected" (defArgs sRefl) (defBody sRefl) (defScope sRefl) .none kV7 dc7 pm7 an7 cd7 ct7), sl7⟩) (c7 : PySem.W.codeIn K cd7 "reflected" = true) (k7 : PySem.W.keepIn K (.ref f7) = true)
    (a8 : PySem.W.nsIn K mainGlobals "own_marks" = some (some (.ref f8))) (l8 : K.lookup f8 = some ⟨oc8, od8, .func (PySem.W.fnOf "own_marks" "own_marks" (defArgs sOwn) (defBody sOwn) (defScope sOwn) .none kV8 dc8 pm8 an8 cd8 ct8), sl8⟩) (c8 : PySem.W.codeIn K cd8 "own_marks" = true) (k8 : PySem.W.keepIn K (.ref f8) = true)
    (a9 : PySem.W.nsIn K mainGlobals "mark_pairs" = some (some (.ref f9))) (l9 : K.lookup f9 = some ⟨oc9, od9, .func (PySem.W.fnOf "mark_pairs" "mark_pairs" (defArgs sPairs) (defBody sPairs) (defScope sPairs) .none kV9 dc9 pm9 an9 cd9 ct9), sl9⟩) (c9 : PySem.W.codeIn K cd9 "mark_pairs" = true) (k9 : PySem.W.keepIn K (.ref f9) = true)
    (a10 : PySem.W.nsIn K mainGlobals "keeps" = some (some (.ref f10))) (l10 : K.lookup f10 = some ⟨oc10, od10, .func (PySem.W.fnOf "keeps" "keeps" (defArgs sKeeps) (defBody sKeeps) (defScope sKeeps) .none kV10 dc10 pm10 an10 cd10 ct10), sl10⟩) (c10 : PySem.W.codeIn K cd10 "keeps" = true) (k10 : PySem.W.keepIn K (.ref f10) = true)
    (a11 : PySem.W.nsIn K mainGlobals "renamings_of" = some (some (.ref f11))) (l11 : K.lookup f11 = some ⟨oc11, od11, .func (PySem.W.fnOf "renamings_of" "renamings_of" (defArgs sRens) (defBody sRens) (defScope sRens) .none kV11 dc11 pm11 an11 cd11 ct11), sl11⟩) (c11 : PySem.W.codeIn K cd11 "renamings_of" = true) (k11 : PySem.W.keepIn K (.ref f11) = true)
    (a12 : PySem.W.nsIn K mainGlobals "count_renamings" = some (some (.ref f12))) (l12 : K.lookup f12 = some ⟨oc12, od12, .func (PySem.W.fnOf "count_renamings" "count_renamings" (defArgs sCnt) (defBody sCnt) (defScope sCnt) .none kV12 dc12 pm12 an12 cd12 ct12), sl12⟩) (c12 : PySem.W.codeIn K cd12 "count_renamings" = true) (k12 : PySem.W.keepIn K (.ref f12) = true)
    (a13 : PySem.W.nsIn K mainGlobals "nth_renaming" = some (some (.ref f13))) (l13 : K.lookup f13 = some ⟨oc13, od13, .func (PySem.W.fnOf "nth_renaming" "nth_renaming" (defArgs sNth) (defBody sNth) (defScope sNth) .none kV13 dc13 pm13 an13 cd13 ct13), sl13⟩) (c13 : PySem.W.codeIn K cd13 "nth_renaming" = true) (k13 : PySem.W.keepIn K (.ref f13) = true)
    (a14 : PySem.W.nsIn K mainGlobals "renamed_by" = some (some (.ref f14))) (l14 : K.lookup f14 = some ⟨oc14, od14, .func (PySem.W.fnOf "renamed_by" "renamed_by" (defArgs sRby) (defBody sRby) (defScope sRby) .none kV14 dc14 pm14 an14 cd14 ct14), sl14⟩) (c14 : PySem.W.codeIn K cd14 "renamed_by" = true) (k14 : PySem.W.keepIn K (.ref f14) = true)
    (a15 : PySem.W.nsIn K mainGlobals "first_alike" = some (some (.ref f15))) (l15 : K.lookup f15 = some ⟨oc15, od15, .func (PySem.W.fnOf "first_alike" "first_alike" (defArgs sFirst) (defBody sFirst) (defScope sFirst) .none kV15 dc15 pm15 an15 cd15 ct15), sl15⟩) (c15 : PySem.W.codeIn K cd15 "first_alike" = true) (k15 : PySem.W.keepIn K (.ref f15) = true)
    (a16 : PySem.W.nsIn K mainGlobals "count_alike" = some (some (.ref f16))) (l16 : K.lookup f16 = some ⟨oc16, od16, .func (PySem.W.fnOf "count_alike" "count_alike" (defArgs sCntA) (defBody sCntA) (defScope sCntA) .none kV16 dc16 pm16 an16 cd16 ct16), sl16⟩) (c16 : PySem.W.codeIn K cd16 "count_alike" = true) (k16 : PySem.W.keepIn K (.ref f16) = true)
    (a17 : PySem.W.nsIn K mainGlobals "check_two" = some (some (.ref f17))) (l17 : K.lookup f17 = some ⟨oc17, od17, .func (PySem.W.fnOf "check_two" "check_two" (defArgs sChk2) (defBody sChk2) (defScope sChk2) .none kV17 dc17 pm17 an17 cd17 ct17), sl17⟩) (c17 : PySem.W.codeIn K cd17 "check_two" = true) (k17 : PySem.W.keepIn K (.ref f17) = true)
    (a18 : PySem.W.nsIn K mainGlobals "renaming" = some (some (.ref f18))) (l18 : K.lookup f18 = some ⟨oc18, od18, .func (PySem.W.fnOf "renaming" "renaming" (defArgs sRen) (defBody sRen) (defScope sRen) .none kV18 dc18 pm18 an18 cd18 ct18), sl18⟩) (c18 : PySem.W.codeIn K cd18 "renaming" = true) (k18 : PySem.W.keepIn K (.ref f18) = true)
    (a19 : PySem.W.nsIn K mainGlobals "_law_stream" = some (some (.ref f19))) (l19 : K.lookup f19 = some ⟨oc19, od19, .func (PySem.W.fnOf "_law_stream" "_law_stream" (defArgs sStream) (defBody sStream) (defScope sStream) .none kV19 dc19 pm19 an19 cd19 ct19), sl19⟩) (c19 : PySem.W.codeIn K cd19 "_law_stream" = true) (k19 : PySem.W.keepIn K (.ref f19) = true)
    (a20 : PySem.W.nsIn K mainGlobals "_law_next" = some (some (.ref f20))) (l20 : K.lookup f20 = some ⟨oc20, od20, .func (PySem.W.fnOf "_law_next" "_law_next" (defArgs sNext) (defBody sNext) (defScope sNext) .none kV20 dc20 pm20 an20 cd20 ct20), sl20⟩) (c20 : PySem.W.codeIn K cd20 "_law_next" = true) (k20 : PySem.W.keepIn K (.ref f20) = true)
    (a21 : PySem.W.nsIn K mainGlobals "_law_is_integer" = some (some (.ref f21))) (l21 : K.lookup f21 = some ⟨oc21, od21, .func (PySem.W.fnOf "_law_is_integer" "_law_is_integer" (defArgs sIsI) (defBody sIsI) (defScope sIsI) .none kV21 dc21 pm21 an21 cd21 ct21), sl21⟩) (c21 : PySem.W.codeIn K cd21 "_law_is_integer" = true) (k21 : PySem.W.keepIn K (.ref f21) = true)
    (a22 : PySem.W.nsIn K mainGlobals "_law_equal" = some (some (.ref f22))) (l22 : K.lookup f22 = some ⟨oc22, od22, .func (PySem.W.fnOf "_law_equal" "_law_equal" (defArgs sEq) (defBody sEq) (defScope sEq) .none kV22 dc22 pm22 an22 cd22 ct22), sl22⟩) (c22 : PySem.W.codeIn K cd22 "_law_equal" = true) (k22 : PySem.W.keepIn K (.ref f22) = true)
    (a23 : PySem.W.nsIn K mainGlobals "_law_pick" = some (some (.ref f23))) (l23 : K.lookup f23 = some ⟨oc23, od23, .func (PySem.W.fnOf "_law_pick" "_law_pick" (defArgs sPick) (defBody sPick) (defScope sPick) .none kV23 dc23 pm23 an23 cd23 ct23), sl23⟩) (c23 : PySem.W.codeIn K cd23 "_law_pick" = true) (k23 : PySem.W.keepIn K (.ref f23) = true)
    (a24 : PySem.W.nsIn K mainGlobals "_law_paper" = some (some (.ref f24))) (l24 : K.lookup f24 = some ⟨oc24, od24, .func (PySem.W.fnOf "_law_paper" "_law_paper" (defArgs sLPap) (defBody sLPap) (defScope sLPap) .none kV24 dc24 pm24 an24 cd24 ct24), sl24⟩) (c24 : PySem.W.codeIn K cd24 "_law_paper" = true) (k24 : PySem.W.keepIn K (.ref f24) = true)
    (a25 : PySem.W.nsIn K mainGlobals "_law_sequence" = some (some (.ref f25))) (l25 : K.lookup f25 = some ⟨oc25, od25, .func (PySem.W.fnOf "_law_sequence" "_law_sequence" (defArgs sLSeq) (defBody sLSeq) (defScope sLSeq) .none kV25 dc25 pm25 an25 cd25 ct25), sl25⟩) (c25 : PySem.W.codeIn K cd25 "_law_sequence" = true) (k25 : PySem.W.keepIn K (.ref f25) = true)
    (a26 : PySem.W.nsIn K mainGlobals "_law_reflected" = some (some (.ref f26))) (l26 : K.lookup f26 = some ⟨oc26, od26, .func (PySem.W.fnOf "_law_reflected" "_law_reflected" (defArgs sLRefl) (defBody sLRefl) (defScope sLRefl) .none kV26 dc26 pm26 an26 cd26 ct26), sl26⟩) (c26 : PySem.W.codeIn K cd26 "_law_reflected" = true) (k26 : PySem.W.keepIn K (.ref f26) = true)
    (a27 : PySem.W.nsIn K mainGlobals "_law_orders" = some (some (.ref f27))) (l27 : K.lookup f27 = some ⟨oc27, od27, .func (PySem.W.fnOf "_law_orders" "_law_orders" (defArgs sOrd) (defBody sOrd) (defScope sOrd) .none kV27 dc27 pm27 an27 cd27 ct27), sl27⟩) (c27 : PySem.W.codeIn K cd27 "_law_orders" = true) (k27 : PySem.W.keepIn K (.ref f27) = true)
    (a28 : PySem.W.nsIn K mainGlobals "_law_told" = some (some (.ref f28))) (l28 : K.lookup f28 = some ⟨oc28, od28, .func (PySem.W.fnOf "_law_told" "_law_told" (defArgs sTold) (defBody sTold) (defScope sTold) .none kV28 dc28 pm28 an28 cd28 ct28), sl28⟩) (c28 : PySem.W.codeIn K cd28 "_law_told" = true) (k28 : PySem.W.keepIn K (.ref f28) = true)
    (a29 : PySem.W.nsIn K mainGlobals "law" = some (some (.ref f29))) (l29 : K.lookup f29 = some ⟨oc29, od29, .func (PySem.W.fnOf "law" "law" (defArgs sLaw) (defBody sLaw) (defScope sLaw) .none kV29 dc29 pm29 an29 cd29 ct29), sl29⟩) (c29 : PySem.W.codeIn K cd29 "law" = true) (k29 : PySem.W.keepIn K (.ref f29) = true)
    (z_isinstance : PySem.W.nsIn K mainGlobals "isinstance" = some none)
    (z_int : PySem.W.nsIn K mainGlobals "int" = some none)
    (z_bool : PySem.W.nsIn K mainGlobals "bool" = some none)
    (z_tuple : PySem.W.nsIn K mainGlobals "tuple" = some none)
    (z_list : PySem.W.nsIn K mainGlobals "list" = some none)
    (z_str : PySem.W.nsIn K mainGlobals "str" = some none)
    (z_len : PySem.W.nsIn K mainGlobals "len" = some none)
    (z_all : PySem.W.nsIn K mainGlobals "all" = some none)
    (z_range : PySem.W.nsIn K mainGlobals "range" = some none)
    (z_min : PySem.W.nsIn K mainGlobals "min" = some none)
    (z_abs : PySem.W.nsIn K mainGlobals "abs" = some none)
    (mm : PySem.W.nsIn K mainGlobals "MOST_MARKS" = some (some (.int 6 tm)))
    (ml : PySem.W.nsIn K mainGlobals "MOST_LEAVES" = some (some (.int 16 tl)))
    (aC : PySem.W.nsIn K mainGlobals "BadValue" = some (some (.ref C)))
    (xL : K.lookup C = some (excClassObj nm q C N bs [.ref cQ, .type "ValueError", .type "Exception", .type "BaseException", .type "object"] true sn sub ab col dd m0 m1 m2 m3 m5 "ValueError.__new__"))
    (sa : PySem.W.findIn K (.ref C) "__setattr__" = some (some (.builtin "object.__setattr__"))) (ga : PySem.W.findIn K (.ref C) "__getattribute__" = some (some (.builtin "BaseException.__getattribute__"))) (gg : PySem.W.findIn K (.ref C) "__getattr__" = some none) (nn : PySem.W.findIn K (.ref C) "name" = some none)
    (ai : PySem.W.findIn K (.ref C) "__init__" = some (some (.ref fI))) (ti : PySem.W.typeIn K (.ref fI) = some (.type "function"))
    (li : K.lookup fI = some ⟨ocI, odI, .func (PySem.W.fnOf "__init__" "BadValue.__init__" (defArgs sInit) (defBody sInit) (defScope sInit) .none kVI dcI pmI anI cdI ctI), slI⟩) (ci : PySem.W.codeIn K cdI "BadValue.__init__" = true) (ki : PySem.W.keepIn K (.ref fI) = true)
    (kC : PySem.W.keepIn K (.ref C) = true) (eC : PySem.W.subIn K (.ref C) (.type "BaseException") = some true) (tC0 : PySem.W.typeIn K (.ref C) = some (.type "type")) (hC : PySem.W.hasDictIn K C = true) (iC : PySem.W.isClsIn K C = true) (sC : PySem.W.subIn K (.ref C) (.ref C) = some true) :
    ∃ fd : FuncData, (∀ (s : Shared) (v : Value), BindsTo s fd ⟨[v], []⟩ [("_law_script", v)]) ∧ ∀ base : Heap, K.In base → base.Ns mainGlobals mg → FnOk l.prog w K mg base CX0 7 fa fd ["_law_script"] (spLaw K) := by
  have e := hfa.symm.trans (PySem.W.mg_of X G a29)
  cases e
  have B : Blt mg := ⟨PySem.W.mg_none_of X G z_isinstance, PySem.W.mg_none_of X G z_int, PySem.W.mg_none_of X G z_bool, PySem.W.mg_none_of X G z_tuple, PySem.W.mg_none_of X G z_list, PySem.W.mg_none_of X G z_str, PySem.W.mg_none_of X G z_len, PySem.W.mg_none_of X G z_all, PySem.W.mg_none_of X G z_range, PySem.W.mg_none_of X G z_min, PySem.W.mg_none_of X G z_abs, ⟨_, PySem.W.mg_of X G mm⟩, ⟨_, PySem.W.mg_of X G ml⟩⟩
  have FI := fun_mk (st := sInit) li ci ki
  have T : ExcT K mg C fI _ := ⟨PySem.W.mg_of X G aC, ⟨⟨nm, q, N, bs, _, sn, sub, ab, col, dd, m0, m1, m2, m3, m5, xL, rfl⟩, sa, eC, tC0, kC⟩, ⟨ga, gg, eC, hC⟩, nn, ai, ti, exm_self eC iC tC0 sC, FI,
    FI.binds (ps := ["self", "name"]) fun _ _ _ _ _ _ us hl => match us, hl with | [_, _], _ => rfl⟩
  have D : Defs K mg := {
    d0 := dfn_mk (PySem.W.mg_of X G a0) l0 c0 k0 fun _ _ _ _ _ _ us hl => match us, hl with | [_, _, _], _ => rfl
    d1 := dfn_mk (PySem.W.mg_of X G a1) l1 c1 k1 fun _ _ _ _ _ _ us hl => match us, hl with | [_], _ => rfl
    d2 := dfn_mk (PySem.W.mg_of X G a2) l2 c2 k2 fun _ _ _ _ _ _ us hl => match us, hl with | [_, _], _ => rfl
    d3 := dfn_mk (PySem.W.mg_of X G a3) l3 c3 k3 fun _ _ _ _ _ _ us hl => match us, hl with | [_, _], _ => rfl
    d4 := dfn_mk (PySem.W.mg_of X G a4) l4 c4 k4 fun _ _ _ _ _ _ us hl => match us, hl with | [_], _ => rfl
    d5 := dfn_mk (PySem.W.mg_of X G a5) l5 c5 k5 fun _ _ _ _ _ _ us hl => match us, hl with | [_, _], _ => rfl
    d6 := dfn_mk (PySem.W.mg_of X G a6) l6 c6 k6 fun _ _ _ _ _ _ us hl => match us, hl with | [_, _], _ => rfl
    d7 := dfn_mk (PySem.W.mg_of X G a7) l7 c7 k7 fun _ _ _ _ _ _ us hl => match us, hl with | [_, _], _ => rfl
    d8 := dfn_mk (PySem.W.mg_of X G a8) l8 c8 k8 fun _ _ _ _ _ _ us hl => match us, hl with | [_], _ => rfl
    d9 := dfn_mk (PySem.W.mg_of X G a9) l9 c9 k9 fun _ _ _ _ _ _ us hl => match us, hl with | [_], _ => rfl
    d10 := dfn_mk (PySem.W.mg_of X G a10) l10 c10 k10 fun _ _ _ _ _ _ us hl => match us, hl with | [_, _], _ => rfl
    d11 := dfn_mk (PySem.W.mg_of X G a11) l11 c11 k11 fun _ _ _ _ _ _ us hl => match us, hl with | [_], _ => rfl
    d12 := dfn_mk (PySem.W.mg_of X G a12) l12 c12 k12 fun _ _ _ _ _ _ us hl => match us, hl with | [_], _ => rfl
    d13 := dfn_mk (PySem.W.mg_of X G a13) l13 c13 k13 fun _ _ _ _ _ _ us hl => match us, hl with | [_, _], _ => rfl
    d14 := dfn_mk (PySem.W.mg_of X G a14) l14 c14 k14 fun _ _ _ _ _ _ us hl => match us, hl with | [_, _], _ => rfl
    d15 := dfn_mk (PySem.W.mg_of X G a15) l15 c15 k15 fun _ _ _ _ _ _ us hl => match us, hl with | [_, _], _ => rfl
    d16 := dfn_mk (PySem.W.mg_of X G a16) l16 c16 k16 fun _ _ _ _ _ _ us hl => match us, hl with | [_, _], _ => rfl
    d17 := dfn_mk (PySem.W.mg_of X G a17) l17 c17 k17 fun _ _ _ _ _ _ us hl => match us, hl with | [_, _, _], _ => rfl
    d18 := dfn_mk (PySem.W.mg_of X G a18) l18 c18 k18 fun _ _ _ _ _ _ us hl => match us, hl with | [_, _, _], _ => rfl
    d19 := dfn_mk (PySem.W.mg_of X G a19) l19 c19 k19 fun _ _ _ _ _ _ us hl => match us, hl with | [_], _ => rfl
    d20 := dfn_mk (PySem.W.mg_of X G a20) l20 c20 k20 fun _ _ _ _ _ _ us hl => match us, hl with | [_, _], _ => rfl
    d21 := dfn_mk (PySem.W.mg_of X G a21) l21 c21 k21 fun _ _ _ _ _ _ us hl => match us, hl with | [_], _ => rfl
    d22 := dfn_mk (PySem.W.mg_of X G a22) l22 c22 k22 fun _ _ _ _ _ _ us hl => match us, hl with | [_, _], _ => rfl
    d23 := dfn_mk (PySem.W.mg_of X G a23) l23 c23 k23 fun _ _ _ _ _ _ us hl => match us, hl with | [_, _], _ => rfl
    d24 := dfn_mk (PySem.W.mg_of X G a24) l24 c24 k24 fun _ _ _ _ _ _ us hl => match us, hl with | [_, _], _ => rfl
    d25 := dfn_mk (PySem.W.mg_of X G a25) l25 c25 k25 fun _ _ _ _ _ _ us hl => match us, hl with | [_, _, _], _ => rfl
    d26 := dfn_mk (PySem.W.mg_of X G a26) l26 c26 k26 fun _ _ _ _ _ _ us hl => match us, hl with | [_, _], _ => rfl
    d27 := dfn_mk (PySem.W.mg_of X G a27) l27 c27 k27 fun _ _ _ _ _ _ us hl => match us, hl with | [_], _ => rfl
    d28 := dfn_mk (PySem.W.mg_of X G a28) l28 c28 k28 fun _ _ _ _ _ _ us hl => match us, hl with | [_, _], _ => rfl
  }
  have FL := fun_mk (st := sLaw) l29 c29 k29
  exact ⟨_, fun s v => .of_eq rfl, fun base _ _ => law_A B (callees B T D) FL⟩
theorem walk {l : PySem.W.OpenLaw} {q : Program} {loose : List Str} {XP : (Str → Option Value) → Heap → Prop} {YP : World → Heap → Prop} {d : DefRec} {K : Params → PySem.W.Frag} (hn : l.most = some 63) (hdf : d.params.defaults = [])
    (hY : ∀ (w : World) (h : Heap), YP w h → (K w.params).In h)
    (F : ∀ (w : World) (mg : Str → Option Value) (fa : Addr) (h : Heap), (K w.params).In h → h.Ns mainGlobals mg → mg d.name = some (.ref fa) →
      ∃ fd : FuncData, (∀ (s : Shared) (u : Value), BindsTo s fd ⟨[u], []⟩ [("_law_script", u)]) ∧ ∀ base : Heap, (K w.params).In base → base.Ns mainGlobals mg → FnOk l.prog w (K w.params) mg base CX0 7 fa fd ["_law_script"] (spLaw (K w.params))) :
    PySem.W.WalkO q loose XP YP l.row.toRowW d [] (fun f vs => PySem.call f vs) :=
  L2.walk_of (n := 63) (k := 7) (x := "_law_script") (CX := fun _ => CX0) (sp := fun w => spLaw (K w.params)) hn (by decide) hdf ⟨rfl, by decide, by decide⟩ hY F (fun _ _ a ns hl _ hS => ⟨a, ns, rfl, hS, hl, fun _ => rfl⟩) fun _ _ _ _ _ z => z
end QmD

open PySem PySem.W PyProof.Rows
set_option maxRecDepth 100000 in
set_option maxHeartbeats 0 in
theorem PySem.Challenge.cw_quiremarks_k02_whole_reflections_and_ren_holds : PySem.Challenge.rw_quiremarks_k02_whole_reflections_and_ren.Holds := by
  w_on; o_law; k_head; (case hw => w_witness2)
  k_fill
  refine QmD.walk (l := PySem.Challenge.rw_quiremarks_k02_whole_reflections_and_ren) rfl rfl (fun w h Y => PySem.W.kIn_of Y) ?F
  case F =>
    intro w mg fa h KX G hmg
    refine' QmD.all_mk KX G hmg ?a0 ?l0 ?c0 ?k0 ?a1 ?l1 ?c1 ?k1 ?a2 ?l2 ?c2 ?k2 ?a3 ?l3 ?c3 ?k3 ?a4 ?l4 ?c4 ?k4 ?a5 ?l5 ?c5 ?k5 ?a6 ?l6 ?c6 ?k6 ?a7 ?l7 ?c7 ?k7 ?a8 ?l8 ?c8 ?k8 ?a9 ?l9 ?c9 ?k9 ?a10 ?l10 ?c10 ?k10 ?a11 ?l11 ?c11 ?k11 ?a12 ?l12 ?c12 ?k12 ?a13 ?l13 ?c13 ?k13 ?a14 ?l14 ?c14 ?k14 ?a15 ?l15 ?c15 ?k15 ?a16 ?l16 ?c16 ?k16 ?a17 ?l17 ?c17 ?k17 ?a18 ?l18 ?c18 ?k18 ?a19 ?l19 ?c19 ?k19 ?a20 ?l20 ?c20 ?k20 ?a21 ?l21 ?c21 ?k21 ?a22 ?l22 ?c22 ?k22 ?a23 ?l23 ?c23 ?k23 ?a24 ?l24 ?c24 ?k24 ?a25 ?l25 ?c25 ?k25 ?a26 ?l26 ?c26 ?k26 ?a27 ?l27 ?c27 ?k27 ?a28 ?l28 ?c28 ?k28 ?a29 ?l29 ?c29 ?k29 ?z_isinstance ?z_int ?z_bool ?z_tuple ?z_list ?z_str ?z_len ?z_all ?z_range ?z_min ?z_abs ?mm ?ml ?aC ?xL ?sa ?ga ?gg ?nn ?ai ?ti ?li ?ci ?ki ?kC ?eC ?tC0 ?hC ?iC ?sC
    (case a0 => k_is)
    (case l0 => k_is)
    (case c0 => k_is)
    (case k0 => k_is)
    (case a1 => k_is)
    (case l1 => k_is)
    (case c1 => k_is)
    (case k1 => k_is)
    (case a2 => k_is)
    (case l2 => k_is)
    (case c2 => k_is)
    (case k2 => k_is)
    (case a3 => k_is)
    (case l3 => k_is)
    (case c3 => k_is)
    (case k3 => k_is)
    (case a4 => k_is)
    (case l4 => k_is)
    (case c4 => k_is)
    (case k4 => k_is)
    (case a5 => k_is)
    (case l5 => k_is)
    (case c5 => k_is)
    (case k5 => k_is)
    (case a6 => k_is)
    (case l6 => k_is)
    (case c6 => k_is)
    (case k6 => k_is)
    (case a7 => k_is)
    (case l7 => k_is)
    (case c7 => k_is)
    (case k7 => k_is)
    (case a8 => k_is)
    (case l8 => k_is)
    (case c8 => k_is)
    (case k8 => k_is)
    (case a9 => k_is)
    (case l9 => k_is)
    (case c9 => k_is)
    (case k9 => k_is)
    (case a10 => k_is)
    (case l10 => k_is)
    (case c10 => k_is)
    (case k10 => k_is)
    (case a11 => k_is)
    (case l11 => k_is)
    (case c11 => k_is)
    (case k11 => k_is)
    (case a12 => k_is)
    (case l12 => k_is)
    (case c12 => k_is)
    (case k12 => k_is)
    (case a13 => k_is)
    (case l13 => k_is)
    (case c13 => k_is)
    (case k13 => k_is)
    (case a14 => k_is)
    (case l14 => k_is)
    (case c14 => k_is)
    (case k14 => k_is)
    (case a15 => k_is)
    (case l15 => k_is)
    (case c15 => k_is)
    (case k15 => k_is)
    (case a16 => k_is)
    (case l16 => k_is)
    (case c16 => k_is)
    (case k16 => k_is)
    (case a17 => k_is)
    (case l17 => k_is)
    (case c17 => k_is)
    (case k17 => k_is)
    (case a18 => k_is)
    (case l18 => k_is)
    (case c18 => k_is)
    (case k18 => k_is)
    (case a19 => k_is)
    (case l19 => k_is)
    (case c19 => k_is)
    (case k19 => k_is)
    (case a20 => k_is)
    (case l20 => k_is)
    (case c20 => k_is)
    (case k20 => k_is)
    (case a21 => k_is)
    (case l21 => k_is)
    (case c21 => k_is)
    (case k21 => k_is)
    (case a22 => k_is)
    (case l22 => k_is)
    (case c22 => k_is)
    (case k22 => k_is)
    (case a23 => k_is)
    (case l23 => k_is)
    (case c23 => k_is)
    (case k23 => k_is)
    (case a24 => k_is)
    (case l24 => k_is)
    (case c24 => k_is)
    (case k24 => k_is)
    (case a25 => k_is)
    (case l25 => k_is)
    (case c25 => k_is)
    (case k25 => k_is)
    (case a26 => k_is)
    (case l26 => k_is)
    (case c26 => k_is)
    (case k26 => k_is)
    (case a27 => k_is)
    (case l27 => k_is)
    (case c27 => k_is)
    (case k27 => k_is)
    (case a28 => k_is)
    (case l28 => k_is)
    (case c28 => k_is)
    (case k28 => k_is)
    (case a29 => k_is)
    (case l29 => k_is)
    (case c29 => k_is)
    (case k29 => k_is)
    (case z_isinstance => k_is)
    (case z_int => k_is)
    (case z_bool => k_is)
    (case z_tuple => k_is)
    (case z_list => k_is)
    (case z_str => k_is)
    (case z_len => k_is)
    (case z_all => k_is)
    (case z_range => k_is)
    (case z_min => k_is)
    (case z_abs => k_is)
    (case mm => k_is)
    (case ml => k_is)
    (case aC => k_is)
    (case xL => k_is)
    (case sa => k_is)
    (case ga => k_is)
    (case gg => k_is)
    (case nn => k_is)
    (case ai => k_is)
    (case ti => k_is)
    (case li => k_is)
    (case ci => k_is)
    (case ki => k_is)
    (case kC => k_is)
    (case eC => k_is)
    (case tC0 => k_is)
    (case hC => k_is)
    (case iC => k_is)
    (case sC => k_is)
#print axioms PySem.Challenge.cw_quiremarks_k02_whole_reflections_and_ren_holds
