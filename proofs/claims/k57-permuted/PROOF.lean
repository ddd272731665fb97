import PyProof.Rows.All
import Wide.All
import OpenK.AllK
import Wide.FinOn
import KE.KExcIs
import KE.GoesEnum
import HandS.ForMost
import HandS.Exc
import HandS.ExcInit
import HandS.ExcField
import HandS.ExcIs
import HandS.IsInst
import HandS.TupAny
import HandS.Conv
import HandS.Deep
import HandS.Walk
import HandS.Zip
import HandS.More
import HandS.WordsExc
import HandS.Evl
import HandS.SetFor
import PySem.Challenge.RW_wishdeeds_k57_whole_permuted_or_not
set_option Elab.async false
set_option linter.all false
set_option maxRecDepth 100000
set_option maxHeartbeats 4000000
/-! The mathematics: two partings of n things, told by the least thing of each block. -/
namespace K57
/-- each thing tells the least one of its block -/
def Par (n : Nat) (p : Nat → Nat) : Prop := ∀ k, k < n → p k ≤ k ∧ p (p k) = p k
/-- t goes with b by the one, with e by the other -/
def hit (p q : Nat → Nat) (b e t : Nat) : Bool := decide (p t = p b) && decide (q t = q e)
def amid (n : Nat) (p q : Nat → Nat) (b e : Nat) : Option Nat := (List.range n).find? (hit p q b e)
def amids (n : Nat) (p q : Nat → Nat) (b e : Nat) : List Nat := (List.range n).filter (hit p q b e)
def goes (n : Nat) (p q : Nat → Nat) (b e : Nat) : Bool := (amid n p q b e).isSome
def line (n : Nat) (p q : Nat → Nat) (b m : Nat) : List (Nat × Nat) := ((List.range m).filter (goes n p q b)).map fun e => (b, e)
def upto (n : Nat) (p q : Nat → Nat) (m : Nat) : List (Nat × Nat) := (List.range m).flatMap fun b => line n p q b n
def prs (n : Nat) (p q : Nat → Nat) : List (Nat × Nat) := upto n p q n
/-- whether both orders lead alike -/
def perm (n : Nat) (p q : Nat → Nat) : Bool := (prs n p q).all fun x => goes n q p x.1 x.2
def home (n : Nat) (p q : Nat → Nat) (b e : Nat) : Nat := (amid n q p b e).getD 0

theorem hit_swap (p q : Nat → Nat) (b e t : Nat) : hit p q b e t = hit q p e b t := Bool.and_comm _ _
theorem hit_iff {p q : Nat → Nat} {b e t : Nat} : hit p q b e t = true ↔ p t = p b ∧ q t = q e := by
  unfold hit
  rw [Bool.and_eq_true, decide_eq_true_eq, decide_eq_true_eq]
theorem goes_iff {n : Nat} {p q : Nat → Nat} {b e : Nat} : goes n p q b e = true ↔ ∃ t, t < n ∧ p t = p b ∧ q t = q e := by
  unfold goes amid
  rw [List.find?_isSome]
  constructor
  · rintro ⟨t, ht, h⟩
    exact ⟨t, List.mem_range.mp ht, hit_iff.mp h⟩
  · rintro ⟨t, ht, h⟩
    exact ⟨t, List.mem_range.mpr ht, hit_iff.mpr h⟩
theorem goes_swap {n : Nat} {p q : Nat → Nat} {b e : Nat} : goes n p q b e = goes n q p e b := by
  rw [Bool.eq_iff_iff, goes_iff, goes_iff]
  constructor
  · rintro ⟨t, h, h1, h2⟩
    exact ⟨t, h, h2, h1⟩
  · rintro ⟨t, h, h1, h2⟩
    exact ⟨t, h, h2, h1⟩
theorem amids_nil {n : Nat} {p q : Nat → Nat} {b e : Nat} : (amids n p q b e = []) ↔ goes n p q b e = false := by
  unfold amids
  rw [List.filter_eq_nil_iff]
  constructor
  · intro h
    cases g : goes n p q b e with
    | false => rfl
    | true =>
      obtain ⟨t, ht, hh⟩ := goes_iff.mp g
      exact absurd (hit_iff.mpr hh) (h t (List.mem_range.mpr ht))
  · intro h t ht hh
    have g := goes_iff.mpr ⟨t, List.mem_range.mp ht, hit_iff.mp hh⟩
    rw [h] at g
    cases g
theorem amid_some {n : Nat} {p q : Nat → Nat} {b e t : Nat} (h : amid n p q b e = some t) : t < n ∧ p t = p b ∧ q t = q e := by
  unfold amid at h
  exact ⟨List.mem_range.mp (List.mem_of_find?_eq_some h), hit_iff.mp (List.find?_some h)⟩
theorem amid_of {n : Nat} {p q : Nat → Nat} {b e : Nat} (h : goes n p q b e = true) : ∃ t, amid n p q b e = some t ∧ t < n ∧ p t = p b ∧ q t = q e := by
  obtain ⟨t, ht⟩ := Option.isSome_iff_exists.mp h
  exact ⟨t, ht, amid_some ht⟩
theorem amid_none {n : Nat} {p q : Nat → Nat} {b e : Nat} (h : goes n p q b e = false) : amid n p q b e = none := by
  unfold goes at h
  cases e' : amid n p q b e with
  | none => rfl
  | some t =>
    rw [e'] at h
    cases h
theorem mem_line {n : Nat} {p q : Nat → Nat} {b m : Nat} {x : Nat × Nat} : x ∈ line n p q b m ↔ x.1 = b ∧ x.2 < m ∧ goes n p q x.1 x.2 = true := by
  unfold line
  rw [List.mem_map]
  constructor
  · rintro ⟨e, he, rfl⟩
    obtain ⟨h1, h2⟩ := List.mem_filter.mp he
    exact ⟨rfl, List.mem_range.mp h1, h2⟩
  · obtain ⟨b', e⟩ := x
    rintro ⟨rfl, h1, h2⟩
    exact ⟨e, List.mem_filter.mpr ⟨List.mem_range.mpr h1, h2⟩, rfl⟩
theorem mem_upto {n : Nat} {p q : Nat → Nat} {m : Nat} {x : Nat × Nat} : x ∈ upto n p q m ↔ x.1 < m ∧ x.2 < n ∧ goes n p q x.1 x.2 = true := by
  unfold upto
  rw [List.mem_flatMap]
  constructor
  · rintro ⟨b, hb, h⟩
    obtain ⟨h1, h2, h3⟩ := mem_line.mp h
    rw [h1]
    rw [h1] at h3
    exact ⟨List.mem_range.mp hb, h2, h3⟩
  · rintro ⟨h1, h2, h3⟩
    exact ⟨x.1, List.mem_range.mpr h1, mem_line.mpr ⟨rfl, h2, h3⟩⟩
theorem mem_prs {n : Nat} {p q : Nat → Nat} {x : Nat × Nat} : x ∈ prs n p q ↔ x.1 < n ∧ x.2 < n ∧ goes n p q x.1 x.2 = true := mem_upto
theorem upto_succ {n : Nat} {p q : Nat → Nat} {m : Nat} : upto n p q (m + 1) = upto n p q m ++ line n p q m n := by
  unfold upto
  rw [List.range_succ, List.flatMap_append]
  show _ ++ (line n p q m n ++ []) = _
  rw [List.append_nil]
theorem line_yes {n : Nat} {p q : Nat → Nat} {b m : Nat} (h : goes n p q b m = true) : line n p q b (m + 1) = line n p q b m ++ [(b, m)] := by
  unfold line
  rw [List.range_succ, List.filter_append, List.map_append, List.filter_cons, if_pos h] <;> rfl
theorem line_no {n : Nat} {p q : Nat → Nat} {b m : Nat} (h : goes n p q b m = false) : line n p q b (m + 1) = line n p q b m := by
  unfold line
  rw [List.range_succ, List.filter_append, List.map_append, List.filter_cons, if_neg (by rw [h]; decide)]
  show _ ++ [] = _
  rw [List.append_nil]
theorem line_len {n : Nat} {p q : Nat → Nat} {b m : Nat} : (line n p q b m).length ≤ m := by
  unfold line
  rw [List.length_map]
  have h := List.length_filter_le (goes n p q b) (List.range m)
  rw [List.length_range] at h
  exact h
theorem upto_len {n : Nat} {p q : Nat → Nat} : ∀ m, (upto n p q m).length ≤ m * n
  | 0 => Nat.zero_le _
  | m + 1 => by
    rw [upto_succ, List.length_append, Nat.succ_mul]
    exact Nat.add_le_add (upto_len m) line_len

/-! ### both orders -/
theorem perm_iff {n : Nat} {p q : Nat → Nat} : perm n p q = true ↔ ∀ b e, b < n → e < n → goes n p q b e = true → goes n q p b e = true := by
  unfold perm
  rw [List.all_eq_true]
  constructor
  · intro h b e hb he g
    exact h (b, e) (mem_prs.mpr ⟨hb, he, g⟩)
  · intro h x hx
    obtain ⟨h1, h2, h3⟩ := mem_prs.mp hx
    exact h _ _ h1 h2 h3
theorem perm_swap {n : Nat} {p q : Nat → Nat} : perm n p q = perm n q p := by
  have key : ∀ p q : Nat → Nat, perm n p q = true → perm n q p = true := fun p q h => by
    rw [perm_iff] at h ⊢
    intro b e hb he g
    rw [goes_swap] at g ⊢
    exact h e b he hb g
  rw [Bool.eq_iff_iff]
  exact ⟨key p q, key q p⟩
theorem perm_self {n : Nat} {p : Nat → Nat} : perm n p p = true := by
  rw [perm_iff]
  intro b e _ _ g
  exact g
theorem not_perm {n : Nat} {p q : Nat → Nat} {b e : Nat} (hb : b < n) (he : e < n) (g : goes n p q b e = true) (g' : goes n q p b e = false) : perm n p q = false := by
  cases h : perm n p q with
  | false => rfl
  | true =>
    have z := perm_iff.mp h b e hb he g
    rw [g'] at z
    cases z
section
variable {n : Nat} {p q : Nat → Nat}
theorem g_refl {k : Nat} (hk : k < n) : goes n p q k k = true := goes_iff.mpr ⟨k, hk, rfl, rfl⟩
theorem g_p {a b : Nat} (hb : b < n) (h : p a = p b) : goes n p q a b = true := goes_iff.mpr ⟨b, hb, h.symm, rfl⟩
theorem g_q {a b : Nat} (ha : a < n) (h : q a = q b) : goes n p q a b = true := goes_iff.mpr ⟨a, ha, rfl, h⟩
theorem g_sym (P : perm n p q = true) {a b : Nat} (ha : a < n) (hb : b < n) (g : goes n p q a b = true) : goes n p q b a = true := by
  rw [goes_swap]
  exact perm_iff.mp P a b ha hb g
theorem g_trans (P : perm n p q = true) {a b c : Nat} (hb : b < n) (g : goes n p q a b = true) (g' : goes n p q b c = true) : goes n p q a c = true := by
  obtain ⟨t, ht, h1, h2⟩ := goes_iff.mp g
  obtain ⟨s, hs, h3, h4⟩ := goes_iff.mp g'
  have k : goes n p q s t = true := goes_iff.mpr ⟨b, hb, h3.symm, h2.symm⟩
  obtain ⟨r, hr, h5, h6⟩ := goes_iff.mp (g_sym P hs ht k)
  exact goes_iff.mpr ⟨r, hr, h5.trans h1, h6.trans h4⟩
end

/-! ### the least of a list; joining -/
def least : List Nat → Nat
  | [] => 0
  | [x] => x
  | x :: y :: r => min x (least (y :: r))
theorem least_mem : ∀ {l : List Nat}, l ≠ [] → least l ∈ l
  | [], h => absurd rfl h
  | [x], _ => List.mem_cons_self
  | x :: y :: r, _ => by
    have ih := least_mem (l := y :: r) (by intro z; cases z)
    show min x (least (y :: r)) ∈ x :: y :: r
    by_cases h : x ≤ least (y :: r)
    · rw [Nat.min_eq_left h]
      exact List.mem_cons_self
    · rw [Nat.min_eq_right (by omega)]
      exact List.mem_cons_of_mem _ ih
theorem least_le : ∀ {l : List Nat} {x : Nat}, x ∈ l → least l ≤ x
  | [], x, h => by cases h
  | [y], x, h => by
    rw [List.mem_singleton.mp h]
    exact Nat.le_refl _
  | y :: z :: r, x, h => by
    show min y (least (z :: r)) ≤ x
    rcases List.mem_cons.mp h with e | h
    · rw [e]
      exact Nat.min_le_left _ _
    · exact Nat.le_trans (Nat.min_le_right _ _) (least_le h)
def pick (n : Nat) (f m : Nat → Nat) (v : Nat) : List Nat := ((List.range n).filter fun k => decide (f k = v)).map m
def stepJ (n : Nat) (f m : Nat → Nat) : Nat → Nat := fun k => least (pick n f m (f k))
def iterJ (n : Nat) (p q : Nat → Nat) : Nat → Nat → Nat
  | 0 => fun k => k
  | t + 1 => stepJ n q (stepJ n p (iterJ n p q t))
def joinJ (n : Nat) (p q : Nat → Nat) : Nat → Nat := iterJ n p q (2 * n)
theorem pick_mem {n : Nat} {f m : Nat → Nat} {v x : Nat} : x ∈ pick n f m v ↔ ∃ k, k < n ∧ f k = v ∧ m k = x := by
  unfold pick
  rw [List.mem_map]
  constructor
  · rintro ⟨k, hk, e⟩
    obtain ⟨h1, h2⟩ := List.mem_filter.mp hk
    exact ⟨k, List.mem_range.mp h1, of_decide_eq_true h2, e⟩
  · rintro ⟨k, h1, h2, e⟩
    exact ⟨k, List.mem_filter.mpr ⟨List.mem_range.mpr h1, decide_eq_true h2⟩, e⟩
theorem pick_ne {n : Nat} {f m : Nat → Nat} {k : Nat} (hk : k < n) : pick n f m (f k) ≠ [] := fun z => by
  have h : m k ∈ pick n f m (f k) := pick_mem.mpr ⟨k, hk, rfl, rfl⟩
  rw [z] at h
  cases h
theorem step_of {n : Nat} {f m : Nat → Nat} {k : Nat} (hk : k < n) : ∃ t, t < n ∧ f t = f k ∧ stepJ n f m k = m t := by
  obtain ⟨t, h1, h2, h3⟩ := pick_mem.mp (least_mem (pick_ne (f := f) (m := m) hk))
  exact ⟨t, h1, h2, h3.symm⟩
theorem step_le {n : Nat} {f m : Nat → Nat} {k t : Nat} (ht : t < n) (h : f t = f k) : stepJ n f m k ≤ m t := least_le (pick_mem.mpr ⟨t, ht, h, rfl⟩)
/-- m tells of each thing the least thing that leads to it -/
def Cls (n : Nat) (p q m : Nat → Nat) : Prop := ∀ k, k < n → m k < n ∧ goes n p q (m k) k = true ∧ ∀ s, s < n → goes n p q s k = true → m k ≤ s
section
variable {n : Nat} {p q : Nat → Nat}
theorem cls_first : Cls n p q (stepJ n q (stepJ n p fun k => k)) := fun k hk => by
  obtain ⟨t, ht, h1, h2⟩ := step_of (f := q) (m := stepJ n p fun k => k) hk
  obtain ⟨u, hu, h3, h4⟩ := step_of (f := p) (m := fun k => k) ht
  have e : stepJ n q (stepJ n p fun k => k) k = u := h2.trans h4
  rw [e]
  refine ⟨hu, goes_iff.mpr ⟨t, ht, h3.symm, h1⟩, fun s hs g => ?_⟩
  obtain ⟨r, hr, h5, h6⟩ := goes_iff.mp g
  rw [← e]
  exact Nat.le_trans (step_le (f := q) (m := stepJ n p fun k => k) hr h6) (step_le (f := p) (m := fun k => k) hs h5.symm)
theorem cls_step (P : perm n p q = true) {f m : Nat → Nat} (C : Cls n p q m) (hf : ∀ a b, a < n → b < n → f a = f b → goes n p q a b = true) : Cls n p q (stepJ n f m) := fun k hk => by
  obtain ⟨t, ht, h1, h2⟩ := step_of (f := f) (m := m) hk
  rw [h2]
  obtain ⟨c1, c2, c3⟩ := C t ht
  have g := hf t k ht hk h1
  exact ⟨c1, g_trans P ht c2 g, fun s hs gs => c3 s hs (g_trans P hk gs (g_sym P ht hk g))⟩
theorem cls_iter (P : perm n p q = true) : ∀ t, Cls n p q (iterJ n p q (t + 1))
  | 0 => cls_first
  | t + 1 => cls_step P (cls_step P (cls_iter P t) fun _ _ _ hb h => g_p hb h) fun _ _ ha _ h => g_q ha h
theorem cls_join (P : perm n p q = true) (hn : 0 < n) : Cls n p q (joinJ n p q) := by
  unfold joinJ
  obtain ⟨t, e⟩ : ∃ t, 2 * n = t + 1 := ⟨2 * n - 1, by omega⟩
  rw [e]
  exact cls_iter P t
theorem cls_iff (P : perm n p q = true) {m : Nat → Nat} (C : Cls n p q m) {a b : Nat} (ha : a < n) (hb : b < n) : m a = m b ↔ goes n p q a b = true := by
  obtain ⟨a1, a2, a3⟩ := C a ha
  obtain ⟨b1, b2, b3⟩ := C b hb
  constructor
  · intro e
    rw [← e] at b2
    exact g_trans P a1 (g_sym P a1 ha a2) b2
  · intro g
    have h1 := b3 (m a) a1 (g_trans P ha a2 g)
    have h2 := a3 (m b) b1 (g_trans P hb b2 (g_sym P ha hb g))
    omega
end

/-! ### counting -/
theorem sum_map_eq {α : Type} {f g : α → Nat} : ∀ {l : List α}, (∀ x ∈ l, f x = g x) → (l.map f).sum = (l.map g).sum
  | [], _ => rfl
  | x :: r, h => by
    rw [List.map_cons, List.map_cons, List.sum_cons, List.sum_cons, h x List.mem_cons_self, sum_map_eq fun y hy => h y (List.mem_cons_of_mem _ hy)]
theorem prs_len (n : Nat) (p q : Nat → Nat) : (prs n p q).length = ((List.range n).map fun b => ((List.range n).filter (goes n p q b)).length).sum := by
  unfold prs upto
  rw [List.length_flatMap]
  refine sum_map_eq fun b _ => ?_
  unfold line
  rw [List.length_map]
theorem filter_len_eq {α : Type} {f g : α → Bool} : ∀ {l : List α}, (∀ x ∈ l, f x = g x) → (l.filter f).length = (l.filter g).length
  | [], _ => rfl
  | x :: r, h => by
    have ih := filter_len_eq (l := r) fun y hy => h y (List.mem_cons_of_mem _ hy)
    rw [List.filter_cons, List.filter_cons, h x List.mem_cons_self]
    split
    · rw [List.length_cons, List.length_cons, ih]
    · exact ih
theorem count_len {m : Nat → Nat} {v : Nat} : ∀ {l : List Nat}, (l.map m).count v = (l.filter fun e => decide (m e = v)).length
  | [] => rfl
  | x :: r => by
    have ih := count_len (m := m) (v := v) (l := r)
    rw [List.map_cons, List.count_cons, List.filter_cons, ih]
    by_cases h : m x = v
    · rw [if_pos (by simpa using h), if_pos (decide_eq_true h), List.length_cons]
    · rw [if_neg (by simpa using h), if_neg (by simpa using h), Nat.add_zero]
/-- the pairs are as many as the joined marks say -/
theorem prs_count {n : Nat} {p q : Nat → Nat} (P : perm n p q = true) (hn : 0 < n) :
    (prs n p q).length = ((List.range n).map fun b => ((List.range n).map (joinJ n p q)).count (joinJ n p q b)).sum := by
  rw [prs_len]
  refine sum_map_eq fun b hb => ?_
  rw [count_len]
  refine filter_len_eq fun e he => ?_
  have z := cls_iff P (cls_join P hn) (List.mem_range.mp he) (List.mem_range.mp hb)
  rw [Bool.eq_iff_iff, decide_eq_true_eq, z]
  constructor
  · exact g_sym P (List.mem_range.mp hb) (List.mem_range.mp he)
  · exact g_sym P (List.mem_range.mp he) (List.mem_range.mp hb)

/-! ### marks made a parting -/
def firstAt (ms : List Int) (v : Int) : Nat := (ms.findIdx? fun x => decide (x = v)).getD 0
def ofMarks (ms : List Int) (k : Nat) : Nat := firstAt ms (ms.getD k 0)
theorem firstAt_of {ms : List Int} {v : Int} {k : Nat} (h : ms[k]? = some v) : ∃ j, firstAt ms v = j ∧ j ≤ k ∧ ms[j]? = some v ∧ ∀ m, m < j → ∀ x, ms[m]? = some x → x ≠ v := by
  obtain ⟨hk, ek⟩ := List.getElem?_eq_some_iff.mp h
  cases e : ms.findIdx? (fun x => decide (x = v)) with
  | none =>
    have z := List.findIdx?_eq_none_iff.mp e v (List.mem_iff_getElem?.mpr ⟨k, h⟩)
    simp at z
  | some j =>
    obtain ⟨hj, h1, h2⟩ := List.findIdx?_eq_some_iff_getElem.mp e
    have hjk : j ≤ k := by
      by_cases hc : j ≤ k
      · exact hc
      · have := h2 k (by omega)
        simp [ek] at this
    refine ⟨j, by unfold firstAt; rw [e]; rfl, hjk, ?_, fun m hm x hx => ?_⟩
    · rw [List.getElem?_eq_getElem hj]
      exact congrArg some (of_decide_eq_true h1)
    · have q := h2 m hm
      obtain ⟨hm2, em⟩ := List.getElem?_eq_some_iff.mp hx
      rw [em] at q
      simpa using q
theorem ofMarks_at {ms : List Int} {k : Nat} {v : Int} (h : ms[k]? = some v) : ofMarks ms k = firstAt ms v := by
  unfold ofMarks
  rw [List.getD_eq_getElem?_getD, h] <;> rfl
theorem ofMarks_par {ms : List Int} {n : Nat} (hn : ms.length = n) : Par n (ofMarks ms) := fun k hk => by
  have e : ms[k]? = some ms[k] := List.getElem?_eq_getElem (by omega)
  obtain ⟨j, e1, e2, e3, _⟩ := firstAt_of e
  rw [ofMarks_at e, e1]
  refine ⟨e2, ?_⟩
  rw [ofMarks_at e3, e1]
end K57
/-! Further rules: enumerate of a tuple; script + [0]; WishError.__init__(self, ..); isinstance of a caught error that has fields; a try whose first clause, named, is the one that takes. -/
namespace K57
open PySem PySem.Spec PyProof.Rows L2 Evl

/-! ### enumerate(tuple) -/
theorem enum_meets {v : Value} {o : Obj} {Hv : Heap → Prop} (B : Begins v o Hv) :
    Meets (Builtin.«enumerate.__new__» ⟨[.type "enumerate", v], []⟩) (fun _ R s => Hv s.heap ∧
      R (.ok (.ret (.ref (s.heap.push o).objs.size))) { s with heap := (s.heap.push o).push { cls := .type "enumerate", data := .fields #[.none, .bool false, .ref s.heap.objs.size, rawInt 0, .none, .none] } }) :=
  .of_wp fun prog w A R s h => by
    obtain ⟨hp, gs, dr, tk, os⟩ := s
    obtain ⟨hv, hr⟩ := h
    have se := sub_enumerate
    have it1 : ∀ {A' : Around} {E : Value → Shared → Prop} {Q : Value → Shared → Prop}, Q (.ref hp.objs.size) ⟨hp.push o, gs, dr, tk, os⟩ → wpAny (model prog w) A' (pyIter v) Q E ⟨hp, gs, dr, tk, os⟩ :=
      fun z => B.iter prog w _ _ ⟨hp, gs, dr, tk, os⟩ _ hv z
    wp_walk using it1
    refine wpAny_stack_any fun st => wpAny_pure ?_
    split
    · rename_i c _ _ _ _ _
      cases (c == Value.type "enumerate") <;> (wp_walk using it1; exact ⟨_, rfl, hr⟩)
    · wp_walk using it1
      exact ⟨_, rfl, hr⟩
theorem enum_tup {prog : Program} {w : World} {A : Around} {E : Value → Shared → Prop} {s : Shared} {t : Addr} {items : Array Value} {Q : Value → Shared → Prop} (ht : s.heap.IsTuple t items)
    (h : ∀ h', IsEnum h' (s.heap.objs.size + 1) s.heap.objs.size 0 .none → h'.IsTupleIter s.heap.objs.size t 0 → h'.objs.size = s.heap.objs.size + 2 →
      (∀ b o, s.heap.get? b = some o → h'.get? b = some o) → Q (.ref (s.heap.objs.size + 1)) { s with heap := h' }) : wpAny (model prog w) A (call (.type "enumerate") [.ref t]) Q E s := by
  have B := begins_tuple t items
  refine callType_new F.called_enumerate (by decide) (F.typeCall_enumerate_1 _) (F.newCall_enumerate_1 _) (fun obj => F.args_object_init_2 obj _) F.entry_enumerate_new (enum_meets B) ⟨ht, ?_⟩
  have sz : (s.heap.push { cls := .type "tuple_iterator", data := .fields #[.ref t, .int 0 0] }).objs.size = s.heap.objs.size + 1 := Heap.size_push ..
  show _ ∧ _
  rw [sz]
  have e0 := Heap.get?_push_size (s.heap.push { cls := .type "tuple_iterator", data := .fields #[.ref t, .int 0 0] })
    (o := { cls := .type "enumerate", data := .fields #[.none, .bool false, .ref s.heap.objs.size, rawInt 0, .none, .none] }) rfl
  rw [sz] at e0
  exact ⟨⟨_, e0, rfl⟩, h _ e0 ⟨_, Heap.get?_push_of_some _ (Heap.get?_push_size _ rfl), rfl, rfl⟩ (by rw [Heap.size_push, sz]) fun b o x => Heap.get?_push_of_some _ (Heap.get?_push_of_some _ x)⟩
/-- the tuple at a as it stands, each item in a new pair -/
def ItE (K : PySem.W.Frag) (a : Addr) : It where
  go := fun i H => ∃ (xs : List V) (x : V), SqT K H a xs ∧ xs[i]? = some x
  yld := fun i H v H' => ∃ T x, v = .ref T ∧ H T = none ∧ H' = upd H T (.tup [.int (i : Nat), x]) ∧ ∀ xs, SqT K H a xs → xs[i]? = some x
  stop := fun i H => ∃ xs : List V, SqT K H a xs ∧ xs.length ≤ i
theorem turnE {P : Program} {w : World} {K : PySem.W.Frag} {elts : List Expr} {kk : Nat} {tpos : Pos} (a e it : Addr) :
    Turn P w K (.Tuple elts kk tpos) (ItE K a) [e, it] e (fun i h => (∃ old, IsEnum h e it ((i : Nat) : Int) old) ∧ h.IsTupleIter it a i ∧ e ≠ it) where
  mem := List.mem_cons_self
  obj := fun i h st b hb => by
    obtain ⟨⟨old, he⟩, ⟨o, ho, _, hd⟩, _⟩ := st
    rcases List.mem_cons.mp hb with z | z
    · exact ⟨_, (by rw [z]; exact he), fun v q => Data.noConfusion q⟩
    · rw [List.mem_singleton.mp z]
      exact ⟨o, ho, fun v q => by rw [hd] at q; cases q⟩
  keep := fun i h h' st k => let ⟨⟨old, he⟩, hi, hne⟩ := st; ⟨⟨old, k e (by simp) _ he⟩, hi.at fun o q => k it (by simp) o q, hne⟩
  item := by
    intro X hP hw hK hc i pins s σ H E I hf st hg
    subst hP hw hK
    obtain ⟨⟨old, he⟩, hit, hne⟩ := st
    obtain ⟨xs, x, hq, hx⟩ := hg
    obtain ⟨its, rv, p, hz⟩ := I.tuple hq
    obtain ⟨u, hu, ru⟩ := rv.get hx
    have p' : s.heap.IsTuple a its.toArray := p
    have ea : e ≠ a := fun z => by
      obtain ⟨o, ho, hoc, _⟩ := p'
      have he' := he
      rw [z] at he'
      have eo := Option.some.inj (ho.symm.trans he')
      rw [eo] at hoc
      have w : Value.type "enumerate" = Value.type "tuple" := hoc
      exact absurd (Value.type.inj w) (by decide)
    have ia : a ≠ it := fun z => by
      obtain ⟨o, ho, hoc, _⟩ := p'
      obtain ⟨o2, ho2, hoc2, _⟩ := hit
      rw [← z, ho] at ho2
      cases ho2
      rw [hoc] at hoc2
      exact absurd (Value.type.inj hoc2) (by decide)
    have hel : e < s.heap.objs.size := Heap.lt_size he
    have hil : it < s.heap.objs.size := by
      obtain ⟨_, q, _⟩ := hit
      exact Heap.lt_size q
    have hlen : i < its.toArray.size := by
      rw [List.size_toArray]
      exact (List.getElem?_eq_some_iff.mp hu).1
    refine wpAny_pyNext_enum_itemD (Draws.tuple (A := X.A.in1) (I.ok.hd hc) it a ia its.toArray) (i := i) he ⟨hit, p'⟩ hlen hne (by simp [hne, ea]) fun y h' tk hy ho st' hT hsz hk => ?_
    have ey : y = u := by
      rw [List.getElem?_toArray, hu] at hy
      exact (Option.some.inj hy).symm
    subst ey
    refine ⟨_, rfl, wpAny_letOwnedTupleGo_enum (s := { s with heap := h', toks := tk + 1 }) ho fun h2 he2 sb => ?_⟩
    have hT2 : h2.get? s.heap.objs.size = some { cls := .type "tuple", data := .seq #[.int i tk, y] } := (sb.2 _ (Nat.ne_of_gt hel)).trans hT
    have new : ObjOk X.prog X.w (upd H s.heap.objs.size (.tup [.int (i : Nat), x])) h2 s.heap.objs.size (.tup [.int (i : Nat), x]) :=
      ⟨by show 2 ≤ sizeLine; decide, [.int i tk, y], .cons ⟨_, rfl⟩ (.cons ru .nil), ⟨_, hT2, rfl, _, rfl⟩⟩
    have I1 : Inv X pins σ (upd H s.heap.objs.size (.tup [.int (i : Nat), x])) { s with heap := h2, toks := tk + 1 } :=
      I.turnedNew (ch := [e, it]) (fun b ob hb q => (sb.2 b (fun z => hb (by simp [z]))).trans (hk b ob (fun z => hb (by simp [z])) (fun z => hb (by simp [z])) q)) hf (Nat.le_refl _) new
    refine ⟨.ref s.heap.objs.size, _, I1, rfl, ⟨_, x, rfl, I.hok.fresh (Nat.le_refl _), rfl, fun ys hy2 => by rw [I.tuple_inj hy2 hq]; exact hx⟩, ⟨⟨y, ?_⟩, st'.1.at fun o q => (sb.2 it (Ne.symm hne)).trans q, hne⟩, fun b hb => ?_⟩
    · have e1 : ((i + 1 : Nat) : Int) = (i : Int) + 1 := by omega
      rw [e1]
      exact he2
    · have hb' : b < s.heap.objs.size := by
        rcases List.mem_cons.mp hb with z | z
        · rw [z]
          exact hel
        · rw [List.mem_singleton.mp z]
          exact hil
      rw [upd_ne (Nat.ne_of_lt hb')]
      exact (hf b hb).1
  done := by
    intro X hP hw hK hc i pins s σ H E I hf st hg
    subst hP hw hK
    obtain ⟨⟨old, he⟩, hit, hne⟩ := st
    obtain ⟨xs, hq, hx⟩ := hg
    obtain ⟨its, rv, p, hz⟩ := I.tuple hq
    have p' : s.heap.IsTuple a its.toArray := p
    have hl := rv.length
    obtain ⟨f0, f1, f2, f3, f4, f5⟩ := hf it (by simp)
    have hT : s.TypeIs (.ref e) "enumerate" := ⟨_, he, rfl⟩
    unfold pyNext
    refine wpAny_bind (wpAny_attempt (wpAny_callSpecial?_slot (name := Str.ofString "__next__") hT F.slot_enumerate_next
      (wpAny_call_entry F.slot_enumerate_next hT F.entry_enumerate_next ?_ (F.args_enumerate_next_1 _))))
    show wpAny _ _ (field (.ref e) 2 >>= _) _ _ _
    refine wpAny_bind (wpAny_field he rfl (x := .ref it) rfl ?_)
    refine wpAny_bind (wpAny_nextOf_tuple_end (I.ok.hd hc) hit p' (by simp; omega) fun h' x eb hx' => ?_)
    obtain ⟨o, ho, hc'⟩ := hx'
    exact wpAny_bind (wpAny_isInstance (T := "StopIteration") (b := true) ⟨o, ho, hc'⟩ isSubtype_stop (wpAny_pure ⟨rfl, I.turned (t' := s.toks) (fun b o hb q => eb b o hb q) f0 f1 f3 f4 f5⟩))
  self := fun A i s Q E st h => let ⟨⟨_, he⟩, _⟩ := st; wpAny_pyIter_enum he h
def iEnumT (K : PySem.W.Frag) (ta : TA) : TI := fun σ H R => ta σ H fun vs H1 => ∃ a xs, vs = [.ref a] ∧ SqT K H1 a xs ∧ R (ItE K a) H1
theorem pi_enumT {X : Cx} {e : Expr} {ta : TA} {p pos tpos : Pos} {elts : List Expr} {kk : Nat} (hg : Gl X "enumerate") (hm : X.mg "enumerate" = none) (ha : PA X [e] ta) (hs : starEach [e] X.env = [(false, eval e X.env)] := by rfl) :
    PI X (.Tuple elts kk tpos) (.Call (.Name "enumerate" p) [e] [] pos) (iEnumT X.K ta) := by
  refine ⟨fun pins s σ H R I h => ?_⟩
  refine Call_ (ld_blt I hg hm boot_enumerate (PyProof.Rows.callWith_type1 (thn (ha.run pos pins s σ H _ I h) fun us s1 ⟨vs, H1, I1, r1, a, xs, ex, hq, q⟩ => ?_) hs rfl))
  subst ex
  cases r1 with
  | cons r rr =>
    cases rr
    cases r
    obtain ⟨its, rv, p', hz⟩ := I1.tuple hq
    refine enum_tup (show s1.heap.IsTuple a its.toArray from p') fun h' he hit hsz hk => wpAny_pyIter_enum he ?_
    refine ⟨s1.heap.objs.size + 1, [s1.heap.objs.size + 1, s1.heap.objs.size], _, _, H1, rfl, I1.kept (t' := s1.toks) hk, turnE a (s1.heap.objs.size + 1) s1.heap.objs.size, ⟨⟨.none, he⟩, hit, Nat.succ_ne_self _⟩, fun b hb => ?_, q⟩
    have hle : s1.heap.objs.size ≤ b := by
      rcases List.mem_cons.mp hb with z | z
      · rw [z]
        exact Nat.le_add_right _ _
      · rw [List.mem_singleton.mp z]
        exact Nat.le_refl _
    exact I1.fpOk hle (I1.hok.fresh hle)
/-- n turns over such a tuple -/
theorem walkE {K : PySem.W.Frag} {a : Addr} {xs : List V} : Walk (ItE K a) xs.length (fun H => SqT K H a xs) (YPair (fun i => some (.int (i : Nat))) fun i => xs[i]?) where
  goes := fun i H hi h => ⟨xs, xs[i], h, List.getElem?_eq_getElem hi⟩
  stops := fun H h => ⟨xs, h, Nat.le_refl _⟩
  yields := fun i H x H' _ h ⟨T, y, e1, e2, e3, e4⟩ => ⟨T, .int (i : Nat), y, e1, e2, e3, rfl, e4 xs h⟩

/-! ### xs + ys, xs a list that is read (the script), ys a new one -/
def rCatS (K : PySem.W.Frag) : R2 := fun x y H Q => ∃ l b xs zs, x = .ref l ∧ y = .ref b ∧ SqL K H l xs ∧ SqL K H b zs ∧ xs.length + zs.length ≤ sizeLine ∧ ∀ p, H p = none → Q (.ref p) (upd H p (.lst (xs ++ zs)))
theorem op_catS {X : Cx} : OpR X (binaryOp .Add) (rCatS X.K) := by
  intro pins s σ H x y v u Q I rx ry h
  obtain ⟨l, b, xs, zs, rfl, rfl, hl, hb, hz, q⟩ := h
  cases rx
  cases ry
  obtain ⟨its, r, ⟨⟨c1, d1, t1, sl1⟩, n1, o1, oc1, od1, oe1⟩, _⟩ := I.list hl
  obtain ⟨jts, r2, ⟨⟨c2, d2, t2, sl2⟩, n2, o2, oc2, od2, oe2⟩, _⟩ := I.list hb
  simp only at oc1 oe1 oc2 oe2
  subst oc1 oe1 oc2 oe2
  have e1 := r.length
  have e2 := r2.length
  have ea : its.toArray ++ jts.toArray = (its ++ jts).toArray := by simp
  refine concat_meets ⟨_, o1, rfl⟩ ⟨_, o2, rfl⟩ noFill_list_add seq_list_add PySem.F.slot_list_add PySem.F.entry_list_add (PySem.F.args_list_add_2 _ _) (list_addW l b its.toArray jts.toArray n1 n2 d1 d2 sl1 sl2 (by rw [List.size_toArray, List.size_toArray]; omega)) ⟨o1, o2, ?_⟩
  rw [ea]
  exact ⟨.ref _, _, I.lnew (t' := s.toks) (r.append r2) (by rw [List.length_append]; omega), rfl, q _ I.fresh⟩

/-! ### WishError.__init__(self, ..) -/
structure WI (K : PySem.W.Frag) (W : Addr) : Prop where
  ga : PySem.W.specialIn K (.ref W) "__getattribute__" = some (some (.builtin "type.__getattribute__"))
  rd : ∃ mc, PySem.W.readsIn K W mc = true ∧ PySem.W.findCls K (.ref W) mc "__init__" = some (.val (.builtin "ValueError.__init__"))
theorem pe_winit {X : Cx} {x : Str} {W : Addr} {e : Expr} {es : List Expr} {ta : TA} {p1 p2 pos : Pos} {pl : Sem Bool} (hg : Gl X x) (hm : X.mg x = some (.ref W)) (T : WI X.K W) (hd : (x == ("__debug__" : Str)) = false) (ha : PA X (e :: es) ta)
    (hc : eval (.Call (.Attribute (.Name x p1) "__init__" p2) (e :: es) [] pos) X.env = (do
      let ov ← eval (.Name x p1) X.env
      standAt p2.atName
      let (f, first) ← holding [ov] (getMethod ov "__init__" pl)
      callWith pos f first (backTo pos (starEach (e :: es) X.env)) (backToKw pos (keywordEach [] X.env))) := by rfl)
    (he : starEach (e :: es) X.env = (false, eval e X.env) :: starEach es X.env := by rfl) (hpl : (backTo pos (starEach es X.env)).any (·.1) = false := by rfl) :
    PE X (.Call (.Attribute (.Name x p1) "__init__" p2) (e :: es) [] pos) (tVeI X.K ta) := by
  refine ⟨fun pins s σ H Q I h => ?_⟩
  refine PySem.W.methodCall_KW (ld_glob I hg hm ?_ hd) hc
  obtain ⟨mc, h1, h2⟩ := T.rd
  refine PySem.W.method_cls I.kIn T.ga (PySem.W.cls_value I.kIn h1 h2 rfl ?_)
  show wpAny _ _ (callWith pos (Value.builtin "ValueError.__init__") [] (backTo pos (starEach (e :: es) X.env)) []) _ _ _
  refine PyProof.Rows.callWith_method1 (thn (ha.run pos pins _ σ H _ (I.tok _) h) fun us s1 ⟨vs, H1, I1, r1, a, C, ws, ev, hl, O, ea, q⟩ => ?_) he hpl
  subst ev
  cases r1 with
  | @cons _ u0 _ ur ra rw' =>
    obtain rfl : u0 = Value.ref a := ra
    have hz : ur.length ≤ sizeLine := by
      rw [← Paired.length rw', sizeLine_eq]
      omega
    exact oinit_ok O I1 ea hz fun s' J => ⟨.non, H1, J, rfl, q⟩

/-! ### isinstance(e, c), e a caught error with a dict of its own -/
def rIsX (K : PySem.W.Frag) (D a : Addr) : List V → Hp → VK → Prop := fun xs H Q => ∃ (c : V) (cv : Value) (dd : Addr) (fs : List (Str × V)) (b : Bool), xs = [.ref a, c] ∧ (∀ u, RelV c u → u = cv) ∧ PySem.W.kitOne K (.ref D) cv = some b ∧ H dd = some (.xd fs) ∧ Q (.bl b) H
theorem call_isX {X : Cx} {a D : Addr} {oe : Obj} {d : Option Addr} {pn : List (Addr × Obj)} (C : ExcC X.K D) (hz : Zc (.ref D) d oe) (hf : ∃ vs, oe.data = .fields vs) {dd : Addr} (ed : d = some dd) :
    CallR (X.suite a ((a, oe) :: pn)) (.builtin "isinstance") (fun xs H Q => ∃ (c : V) (cv : Value) (fs : List (Str × V)) (b : Bool), xs = [.ref a, c] ∧ (∀ u, RelV c u → u = cv) ∧ PySem.W.kitOne X.K (.ref D) cv = some b ∧ H dd = some (.xd fs) ∧ Q (.bl b) H) := by
  intro pins s σ H xs us Q I r h
  subst ed
  obtain ⟨c, cv, fs, b, rfl, hcv, e, hd, q⟩ := h
  cases r with
  | cons rx rr =>
    cases rr with
    | cons rt rr =>
      cases rr
      cases rx
      have ec := hcv _ rt
      subst ec
      obtain ⟨hget, _⟩ := I.pin (a, oe) (List.mem_append.mpr (.inl List.mem_cons_self))
      obtain ⟨vs, hv⟩ := hf
      have hx : ObjOk X.prog X.w H s.heap dd (.xd fs) := I.hok dd _ hd
      obtain ⟨mA, hns, _⟩ := hx
      obtain ⟨od, ho, _⟩ := lookIn_ns hns
      have J : PySem.W.InstAt s.heap a oe D (some od) := ⟨hget, hz.1, by unfold PySem.W.notCls; rw [hv] <;> rfl, by rw [hz.2]; exact ho⟩
      have hcl : (PySem.W.clsIn X.K D).isSome = true := by
        obtain ⟨cd, hc, _⟩ := PySem.W.any_some C.hd
        rw [hc]
        rfl
      exact PySem.W.kia_one (PySem.W.kitx_exc hcl C.hg C.hk C.hs C.ha C.hn C.ht C.hm) I.kIn J e (fun z => nomatch z) fun tk => ⟨.bl b, H, I.kept (t' := tk) fun _ _ z => z, rfl, q⟩
end K57
/-! A try of several clauses whose first one, «except x as n», takes whatever the body raises. -/
namespace K57
open PySem PySem.Spec PyProof.Rows L2 Evl
/-- behind the suite the slot of n is empty -/
def Ends.drop (D : Ends) (i : Nat) : Ends := { nx := fun σ H => D.nx (σ.set i none) H, rt := D.rt, bk := fun σ H => D.bk (σ.set i none) H, ct := fun σ H => D.ct (σ.set i none) H }
/-- the wish of such a clause -/
def wHit (K : PySem.W.Frag) (c : Value) (i : Nat) (ts : Addr → Value → Option Addr → TS) (D : Ends) : WX := fun cls d σ H =>
  PySem.W.exmOne K cls c = some true ∧ ∀ a, H a = none → ts a cls d (Ends.drop D i) (σ.set i (some (.ref a))) H
section
variable {X : Cx} {x n : Str} {c : Value} {i : Nat} {body suite : List Stmt} {b₀ : Stmt} {np pos pos' : Pos} {more : List ExceptHandler} {tb : WX → TS} {ts : Addr → Value → Option Addr → TS}
theorem ps_try_hit (hs : X.stack = X.env :: X.outer) (hf : X.env.frame = some X.env.locals) (hN : X.N.Nodup) (hi : X.N[i]? = some n) (hl : X.env.kindOf n = some .local) (hc : Names X x c)
    (hb : ∀ (W : WX) (pn : List (Addr × Obj)) (xe : Value → Shared → Prop), Takes (X.tr pn xe) W → PassesOwn (model X.prog X.w) X.A X.env xe → PSs (X.tr pn xe) body (tb W))
    (hsu : ∀ (a : Addr) (oe : Obj) (cls : Value) (d : Option Addr) (pn : List (Addr × Obj)), Zc cls d oe → (∃ vs, oe.data = .fields vs) → PSs (X.suite a ((a, oe) :: pn)) (b₀ :: suite) (ts a cls d)) :
    PS X (.Try body (.ExceptHandler (some (.Name x np)) (some n) (b₀ :: suite) pos' :: more) [] [] pos) (fun D σ H => tb (wHit X.K c i ts D) D σ H) := by
  refine ⟨fun pins s σ H D I h => ?_⟩
  have ok := I.ok
  have frames : X.A.frames = some (X.env :: X.outer) := by rw [ok.frames, hs]
  refine wpAny_Try_except ?_
  -- what is wanted of an exception of the body: the clauses' walk
  let xe : Value → Shared → Prop := fun e s₁ => wpAny (model X.prog X.w) X.A (noteFrame e X.env) (fun _ s₂ => wpAny (model X.prog X.w) X.A (setFlight e none) (fun _ s₃ =>
    wpAny (model X.prog X.w) X.A (handleBy e X.env (.ExceptHandler (some (.Name x np)) (some n) (b₀ :: suite) pos' :: more)) (SP X pins D) X.xe s₃) X.xe s₂) X.xe s₁
  have taken : Takes (X.tr (X.pn ++ pins) xe) (wHit X.K c i ts D) := by
    rintro u s' ⟨a, B, sI, pins', σ', H', cls, d, rfl, J', nb, up, sky, na, os, ag, hit, hts⟩
    have J : Inv X pins σ' H' sI := J'.ofTry ok
    have sky2 : Sky B (X.env :: X.outer) a (Zc cls d) X.env.locals s'.heap := by rw [← hs]; exact sky
    show wpAny (model X.prog X.w) X.A (noteFrame (.ref a) X.env) _ _ _
    refine Sky.land Zc.steady frames hf sky2 fun h3 fl3 up3 => ?_
    have J3 : Inv X pins σ' H' { s' with heap := h3 } := J.landed nb fl3.1 (up.trans up3) os ag
    obtain ⟨oe3, vs3, at3, z3, d3⟩ := fl3.there
    -- the exception is none of the frames
    have apart : a ∉ frs (X.env :: X.outer) := fun hm => by
      obtain ⟨_, o, e, nf⟩ := fl3.2.2.1.mem hm
      rw [at3] at e
      cases e
      exact nf _ d3
    have aL : a ≠ X.env.locals := fun z => apart (List.mem_filterMap.mpr ⟨X.env, List.mem_cons_self, by rw [hf, z]⟩)
    have aF : a ∉ X.fs := fun hm => by
      obtain ⟨e, he, q⟩ := List.mem_filterMap.mp hm
      exact apart (List.mem_filterMap.mpr ⟨e, List.mem_cons_of_mem _ he, q⟩)
    have S3 := J3.suite at3 d3 na aL aF
    refine wpAny_handleBy_cons (codeAny_handlers_test ?_) (by intro q; cases q)
    have LT : PySem.W.Looks (model X.prog X.w) h3 (typeOf (.ref a)) cls := fun A Q E s k q => wpAny_typeOf_ref (k _ _ at3) (by rw [z3.1]; exact q)
    have LM := PySem.W.exm_one (M := model X.prog X.w) (J3.kIn) LT hit
    have named : ∀ {Q : Value → Shared → Prop} {E : Value → Shared → Prop}, Q c { s' with heap := h3 } → wpAny (model X.prog X.w) (X.A.mark (some (.ref a))) (eval (.Name x np) X.env) Q E { s' with heap := h3 } := fun {Q E} q => by
      obtain ⟨hg, hdbg, hm | ⟨hm, hv, hnn⟩⟩ := hc
      · exact ld_glob (X := X.suite a ((a, oe3) :: (X.pn ++ pins))) S3 hg hm q hdbg
      · exact ld_blt (X := X.suite a ((a, oe3) :: (X.pn ++ pins))) S3 hg hm hv q hnn hdbg
    refine named (LM.here ?_)
    refine codeAny_handlers_suite_as ?_
    refine HandSPX.lands_againZ fl3 fun h4 fl4 up4 => ?_
    have J4 : Inv X pins σ' H' { s' with heap := h4 } := J.landed nb fl4.1 ((up.trans up3).trans up4) os ag
    obtain ⟨oe4, vs4, at4, z4, d4⟩ := fl4.there
    have S4 := J4.suite at4 d4 na aL aF
    refine store_ok (X := X.suite a ((a, oe4) :: (X.pn ++ pins))) (v := .ref a) S4 hN hi (.inl hl) rfl (fun s5 S5 => ?_) (.inr hl)
    refine wpAny_mono ((hsu a oe4 cls d (X.pn ++ pins) z4 ⟨_, d4⟩).run [] s5 _ H' _ S5 (hts a na)) (fun f s6 q6 => ?_) (fun _ _ z => False.elim z)
    have close : ∀ {σ6 : L2.St} {H6 : Hp} {Q : Shared → Prop}, Inv (X.suite a ((a, oe4) :: (X.pn ++ pins))) [] σ6 H6 s6 → (∀ s7, Inv X pins (σ6.set i none) H6 s7 → Q s7) →
        wpAny (model X.prog X.w) X.A (do bindName X.env n .none; unbindBehindTheSuite X.env n pos') (fun _ s7 => Q s7) X.xe s6 := fun {σ6 H6 Q} S6 hq => gone_ok (S6.unsuite ok) hN hi hl hq
    cases f with
    | ret u =>
      obtain ⟨v6, σ6, H6, S6, r6, w6⟩ := q6
      exact close S6 fun s7 J7 => ⟨_, _, _, J7, r6, w6⟩
    | next =>
      obtain ⟨σ6, H6, S6, w6⟩ := q6
      exact close S6 fun s7 J7 => ⟨_, _, J7, w6⟩
    | brk =>
      obtain ⟨σ6, H6, S6, w6⟩ := q6
      exact close S6 fun s7 J7 => ⟨_, _, J7, w6⟩
    | cont =>
      obtain ⟨σ6, H6, S6, w6⟩ := q6
      exact close S6 fun s7 J7 => ⟨_, _, J7, w6⟩
  refine wpAny_mono ((hb (wHit X.K c i ts D) (X.pn ++ pins) xe taken PassesOwn.looking).run [] s σ H D (I.toTry _) h) (fun f s1 q1 => ?_) (fun e s1 he => he)
  cases f with
  | ret u =>
    obtain ⟨v, σ', H', J', r, q⟩ := q1
    exact ⟨v, σ', H', J'.ofTry ok, r, q⟩
  | next =>
    obtain ⟨σ', H', J', q⟩ := q1
    exact wpAny_execs_nil ⟨σ', H', J'.ofTry ok, q⟩
  | brk =>
    obtain ⟨σ', H', J', q⟩ := q1
    exact ⟨σ', H', J'.ofTry ok, q⟩
  | cont =>
    obtain ⟨σ', H', J', q⟩ := q1
    exact ⟨σ', H', J'.ofTry ok, q⟩
end
end K57
/-! What a reading gives, told by data alone: each slot's value is a datum that stands in a part G of the heap which nobody changes; one list of the def's own (O) and one list that was handed in (W: the well) stand outside G. -/
namespace K57
open PySem PySem.Spec PyProof.Rows L2 Evl

/-! ### data in a growing heap -/
section
variable {K : PySem.W.Frag}
mutual
theorem dp_mono {H H' : Hp} (e : Ex H H') : ∀ (d : PyData) (v : V), Dp K H v d → Dp K H' v d
  | .none, _, h => by cases h; exact .non
  | .bool b, _, h => by cases h; exact .bl b
  | .int i, _, h => by cases h; exact .int i
  | .str x, _, h => by cases h; exact .str x
  | .list ds, _, h => by
    cases h with
    | lst hs ha => exact .lst (ex_l e hs) (dps_mono e ds _ ha)
  | .tuple ds, _, h => by
    cases h with
    | tup hs ha => exact .tup (ex_t e hs) (dps_mono e ds _ ha)
  | .dict _, _, h => by cases h
theorem dps_mono {H H' : Hp} (e : Ex H H') : ∀ (ds : List PyData) (vs : List V), DpAll K H vs ds → DpAll K H' vs ds
  | [], _, h => by cases h; exact .nil
  | d :: ds, _, h => by
    cases h with
    | cons h1 h2 => exact .cons (dp_mono e d _ h1) (dps_mono e ds _ h2)
end
theorem _root_.L2.Dp.up {H H' : Hp} {v : V} {d : PyData} (h : Dp K H v d) (e : Ex H H') : Dp K H' v d := dp_mono e d v h
theorem _root_.L2.DpAll.up {H H' : Hp} {vs : List V} {ds : List PyData} (h : DpAll K H vs ds) (e : Ex H H') : DpAll K H' vs ds := dps_mono e ds vs h
theorem dpa_len {H : Hp} : ∀ {vs : List V} {ds : List PyData}, DpAll K H vs ds → vs.length = ds.length
  | _, [], h => by cases h; rfl
  | _, d :: ds, h => by
    cases h with
    | cons _ h2 => rw [List.length_cons, List.length_cons, dpa_len h2]
theorem dpa_at {H : Hp} : ∀ {vs : List V} {ds : List PyData} {i : Nat} {d : PyData}, DpAll K H vs ds → ds[i]? = some d → ∃ v, vs[i]? = some v ∧ Dp K H v d
  | _, [], _, _, _, e => by simp at e
  | _, x :: ds, 0, d, h, e => by
    cases h with
    | cons h1 _ =>
      have e' : x = d := by simpa using e
      exact ⟨_, rfl, e' ▸ h1⟩
  | _, x :: ds, i + 1, d, h, e => by
    cases h with
    | cons _ h2 =>
      obtain ⟨v, e1, h3⟩ := dpa_at (i := i) h2 (by simpa using e)
      exact ⟨v, by simpa using e1, h3⟩
theorem dpa_app {H : Hp} : ∀ {vs ws : List V} {ds es : List PyData}, DpAll K H vs ds → DpAll K H ws es → DpAll K H (vs ++ ws) (ds ++ es)
  | _, _, [], _, h, q => by cases h; exact q
  | _, _, d :: ds, _, h, q => by
    cases h with
    | cons h1 h2 => exact .cons h1 (dpa_app h2 q)
theorem dpa_take {H : Hp} : ∀ {vs : List V} {ds : List PyData} (n : Nat), DpAll K H vs ds → DpAll K H (vs.take n) (ds.take n)
  | _, _, 0, _ => .nil
  | _, [], n + 1, h => by cases h; exact .nil
  | _, d :: ds, n + 1, h => by
    cases h with
    | cons h1 h2 => exact .cons h1 (dpa_take n h2)
theorem dpa_drop {H : Hp} : ∀ {vs : List V} {ds : List PyData} (n : Nat), DpAll K H vs ds → DpAll K H (vs.drop n) (ds.drop n)
  | _, _, 0, h => h
  | _, [], n + 1, h => by cases h; exact .nil
  | _, d :: ds, n + 1, h => by
    cases h with
    | cons _ h2 => exact dpa_drop n h2
theorem dpa_ints {H : Hp} : ∀ {vs : List V} {ns : List Int}, DpAll K H vs (ns.map PyData.int) → vs = ns.map V.int
  | _, [], h => by cases h; rfl
  | _, n :: ns, h => by
    cases h with
    | cons h1 h2 =>
      cases h1
      rw [dpa_ints h2]
      rfl
theorem dpa_ofInts {H : Hp} : ∀ ns : List Int, DpAll K H (ns.map V.int) (ns.map PyData.int)
  | [] => .nil
  | n :: ns => .cons (.int n) (dpa_ofInts ns)
theorem dpa_bools {H : Hp} : ∀ {vs : List V} {bs : List Bool}, DpAll K H vs (bs.map PyData.bool) → vs = bs.map V.bl
  | _, [], h => by cases h; rfl
  | _, b :: bs, h => by
    cases h with
    | cons h1 h2 =>
      cases h1
      rw [dpa_bools h2]
      rfl
theorem _root_.L2.DpAll.len {H : Hp} {vs : List V} {ds : List PyData} (h : DpAll K H vs ds) : vs.length = ds.length := dpa_len h
theorem _root_.L2.DpAll.at {H : Hp} {vs : List V} {ds : List PyData} {i : Nat} {d : PyData} (h : DpAll K H vs ds) (e : ds[i]? = some d) : ∃ v, vs[i]? = some v ∧ Dp K H v d := dpa_at h e
theorem _root_.L2.DpAll.app {H : Hp} {vs ws : List V} {ds es : List PyData} (h : DpAll K H vs ds) (q : DpAll K H ws es) : DpAll K H (vs ++ ws) (ds ++ es) := dpa_app h q
theorem _root_.L2.DpAll.take {H : Hp} {vs : List V} {ds : List PyData} (n : Nat) (h : DpAll K H vs ds) : DpAll K H (vs.take n) (ds.take n) := dpa_take n h
theorem _root_.L2.DpAll.drop {H : Hp} {vs : List V} {ds : List PyData} (n : Nat) (h : DpAll K H vs ds) : DpAll K H (vs.drop n) (ds.drop n) := dpa_drop n h
theorem _root_.L2.DpAll.ints {H : Hp} {vs : List V} {ns : List Int} (h : DpAll K H vs (ns.map PyData.int)) : vs = ns.map V.int := dpa_ints h
theorem _root_.L2.DpAll.bools {H : Hp} {vs : List V} {bs : List Bool} (h : DpAll K H vs (bs.map PyData.bool)) : vs = bs.map V.bl := dpa_bools h
theorem _root_.L2.Dp.tupOf {H : Hp} {v : V} {ds : List PyData} (h : Dp K H v (.tuple ds)) : ∃ a xs, v = .ref a ∧ SqT K H a xs ∧ DpAll K H xs ds := by
  cases h with
  | tup hs ha => exact ⟨_, _, rfl, hs, ha⟩
theorem _root_.L2.Dp.lstOf {H : Hp} {v : V} {ds : List PyData} (h : Dp K H v (.list ds)) : ∃ a xs, v = .ref a ∧ SqL K H a xs ∧ DpAll K H xs ds := by
  cases h with
  | lst hs ha => exact ⟨_, _, rfl, hs, ha⟩
theorem _root_.L2.Dp.intOf {H : Hp} {v : V} {i : Int} (h : Dp K H v (.int i)) : v = .int i := by cases h; rfl
theorem _root_.L2.Dp.boolOf {H : Hp} {v : V} {b : Bool} (h : Dp K H v (.bool b)) : v = .bl b := by cases h; rfl
theorem _root_.L2.Dp.strOf {H : Hp} {v : V} {x : Str} (h : Dp K H v (.str x)) : v = .str x := by cases h; rfl
theorem _root_.L2.Dp.noneOf {H : Hp} {v : V} (h : Dp K H v .none) : v = .non := by cases h; rfl
end

/-! ### from (G, H) to (G2, H2) -/
structure GrW (W : Option Addr) (G H G2 H2 : Hp) : Prop where
  g : Ex G G2
  i : Ex G2 H2
  h : ∀ b o, W ≠ some b → H b = some o → H2 b = some o
  s : ∀ b, H b ≠ none → G b = none → G2 b = none
abbrev Gr := GrW none
theorem GrW.refl {W : Option Addr} {G H : Hp} (e : Ex G H) : GrW W G H G H := ⟨Ex.refl G, e, fun _ _ _ h => h, fun _ _ h => h⟩
theorem Gr.ex {G H G2 H2 : Hp} (r : Gr G H G2 H2) : Ex H H2 := fun b o e => r.h b o (fun z => nomatch z) e
theorem Gr.toW {W : Option Addr} {G H G2 H2 : Hp} (r : Gr G H G2 H2) : GrW W G H G2 H2 := ⟨r.g, r.i, fun b o _ e => r.ex b o e, r.s⟩
theorem GrW.there {W : Option Addr} {G H G2 H2 : Hp} (r : GrW W G H G2 H2) (w : ∀ a, W = some a → H2 a ≠ none) {b : Addr} (h : H b ≠ none) : H2 b ≠ none := by
  by_cases e : W = some b
  · exact w b e
  · cases hb : H b with
    | none => exact absurd hb h
    | some o =>
      rw [r.h b o e hb]
      exact fun z => nomatch z
theorem GrW.trans {W : Option Addr} {G H G2 H2 G3 H3 : Hp} (a : GrW W G H G2 H2) (w : ∀ a, W = some a → H2 a ≠ none) (b : GrW W G2 H2 G3 H3) : GrW W G H G3 H3 :=
  ⟨a.g.trans b.g, b.i, fun c o n e => b.h c o n (a.h c o n e), fun c h n => b.s c (a.there w h) (a.s c h n)⟩
theorem Gr.trans {G H G2 H2 G3 H3 : Hp} (a : Gr G H G2 H2) (b : Gr G2 H2 G3 H3) : Gr G H G3 H3 := GrW.trans a (fun _ z => nomatch z) b
theorem ex_free {G H : Hp} (e : Ex G H) {p : Addr} (h : H p = none) : G p = none := fresh_back e h
/-- a new object, known from now on -/
theorem Gr.new {G H : Hp} {p : Addr} {o : HO} (e : Ex G H) (hp : H p = none) : Gr G H (upd G p o) (upd H p o) where
  g := Ex.new (ex_free e hp)
  i := fun b u hb => by
    by_cases q : b = p
    · rw [q] at hb ⊢
      rw [upd_same] at hb ⊢
      exact hb
    · rw [upd_ne q] at hb ⊢
      exact e b u hb
  h := fun b u _ hb => Ex.new hp b u hb
  s := fun b hb n => by
    by_cases q : b = p
    · rw [q] at hb
      exact absurd hp hb
    · rw [upd_ne q]
      exact n
/-- a new object, not known yet -/
theorem Gr.hid {G H : Hp} {p : Addr} {o : HO} (e : Ex G H) (hp : H p = none) : Gr G H G (upd H p o) where
  g := Ex.refl G
  i := Ex.mut e (ex_free e hp)
  h := fun b u _ hb => Ex.new hp b u hb
  s := fun _ _ n => n

/-! ### the slots -/
section
variable {K : PySem.W.Frag}
structure StD (K : PySem.W.Frag) (H : Hp) (σ : L2.St) (τ : List (Option PyData)) : Prop where
  len : σ.length = τ.length
  get : ∀ (i : Nat) (d : PyData), τ[i]? = some (some d) → ∃ v, σ[i]? = some (some v) ∧ Dp K H v d
theorem StD.up {H H' : Hp} {σ : L2.St} {τ : List (Option PyData)} (s : StD K H σ τ) (e : Ex H H') : StD K H' σ τ :=
  ⟨s.len, fun i d h => let ⟨v, e1, h1⟩ := s.get i d h; ⟨v, e1, Dp.up h1 e⟩⟩
theorem StD.set {H : Hp} {σ : L2.St} {τ : List (Option PyData)} (s : StD K H σ τ) {v : V} {d : PyData} (h : Dp K H v d) (j : Nat) : StD K H (σ.set j (some v)) (τ.set j (some d)) := by
  refine ⟨by rw [List.length_set, List.length_set]; exact s.len, fun i x e => ?_⟩
  by_cases hij : j = i
  · subst hij
    by_cases hl : j < τ.length
    · rw [List.getElem?_set_self hl] at e
      have e' := Option.some.inj (Option.some.inj e)
      subst e'
      exact ⟨v, List.getElem?_set_self (by rw [s.len]; exact hl), h⟩
    · rw [List.getElem?_eq_none (by rw [List.length_set]; omega)] at e
      cases e
  · rw [List.getElem?_set_ne hij] at e ⊢
    exact s.get i x e
theorem StD.unset {H : Hp} {σ : L2.St} {τ : List (Option PyData)} (s : StD K H σ τ) (x : Option V) (j : Nat) : StD K H (σ.set j x) (τ.set j none) := by
  refine ⟨by rw [List.length_set, List.length_set]; exact s.len, fun i d e => ?_⟩
  by_cases hij : j = i
  · subst hij
    by_cases hl : j < τ.length
    · rw [List.getElem?_set_self hl] at e
      cases e
    · rw [List.getElem?_eq_none (by rw [List.length_set]; omega)] at e
      cases e
  · rw [List.getElem?_set_ne hij] at e ⊢
    exact s.get i d e
def wipeD (τ : List (Option PyData)) : List Nat → List (Option PyData)
  | [] => τ
  | v :: vs => (wipeD τ vs).set v none
theorem StD.wipe {H : Hp} {σ : L2.St} {τ : List (Option PyData)} (s : StD K H σ τ) : ∀ vs, StD K H (L2.wipe σ vs) (wipeD τ vs)
  | [] => s
  | v :: vs => (StD.wipe s vs).unset none v
theorem wipe_in {j : Nat} {x : Option V} : ∀ {vs : List Nat} {σ : L2.St}, j ∈ vs → L2.wipe (σ.set j x) vs = L2.wipe σ vs
  | [], _, h => by cases h
  | v :: vs, σ, h => by
    show (L2.wipe (σ.set j x) vs).set v none = (L2.wipe σ vs).set v none
    by_cases hv : j ∈ vs
    · rw [wipe_in hv]
    · have e : j = v := by
        rcases List.mem_cons.mp h with e | e
        · exact e
        · exact absurd e hv
      subst e
      have key : ∀ (ws : List Nat), j ∉ ws → L2.wipe (σ.set j x) ws = (L2.wipe σ ws).set j x := by
        intro ws
        induction ws with
        | nil => intro _; rfl
        | cons w ws ih =>
          intro hn
          show (L2.wipe (σ.set j x) ws).set w none = ((L2.wipe σ ws).set w none).set j x
          rw [ih (fun z => hn (List.mem_cons_of_mem _ z))]
          exact List.set_comm _ _ (fun z => hn (z ▸ List.mem_cons_self))
      rw [key vs hv, List.set_set]
theorem wipe_wipe : ∀ (vs : List Nat) (σ : L2.St), L2.wipe (L2.wipe σ vs) vs = L2.wipe σ vs
  | [], _ => rfl
  | v :: vs, σ => by
    have h1 : L2.wipe ((L2.wipe σ vs).set v none) (v :: vs) = L2.wipe (L2.wipe σ vs) (v :: vs) := wipe_in List.mem_cons_self
    show L2.wipe ((L2.wipe σ vs).set v none) (v :: vs) = L2.wipe σ (v :: vs)
    rw [h1]
    show (L2.wipe (L2.wipe σ vs) vs).set v none = (L2.wipe σ vs).set v none
    rw [wipe_wipe vs σ]

/-! ### what an expression gives -/
def EvD (K : PySem.W.Frag) (te : TE) (τ : List (Option PyData)) (d : PyData) : Prop := ∀ σ G H, Ex G H → StD K G σ τ → ∀ Q : VK, (∀ v G2 H2, Gr G H G2 H2 → Dp K G2 v d → Q v H2) → te σ H Q
def EvB (K : PySem.W.Frag) (tt : TT) (τ : List (Option PyData)) (b : Bool) : Prop := ∀ σ G H, Ex G H → StD K G σ τ → ∀ Q : Bool → Hp → Prop, (∀ G2 H2, Gr G H G2 H2 → Q b H2) → tt σ H Q
def EvS (K : PySem.W.Frag) (ta : TA) (τ : List (Option PyData)) (ds : List PyData) : Prop := ∀ σ G H, Ex G H → StD K G σ τ → ∀ Q : List V → Hp → Prop, (∀ vs G2 H2, Gr G H G2 H2 → DpAll K G2 vs ds → Q vs H2) → ta σ H Q
def EvP (K : PySem.W.Frag) (to : TO) (τ : List (Option PyData)) (o : Option Int) : Prop := ∀ σ G H, Ex G H → StD K G σ τ → ∀ Q : Option Int → Hp → Prop, (∀ G2 H2, Gr G H G2 H2 → Q o H2) → to σ H Q
/-- a new list -/
def EvN (K : PySem.W.Frag) (te : TE) (τ : List (Option PyData)) (ds : List PyData) : Prop := ∀ σ G H, Ex G H → StD K G σ τ → ∀ Q : VK,
  (∀ l xs G2 H2, Gr G H G2 H2 → H l = none → G2 l = none → H2 l = some (.lst xs) → DpAll K G2 xs ds → Q (.ref l) H2) → te σ H Q
/-- what an operator makes of data -/
def RD (K : PySem.W.Frag) (r : R2) (d1 d2 d : PyData) : Prop := ∀ G H x y, Ex G H → Dp K G x d1 → Dp K G y d2 → ∀ Q : VK, (∀ v G2 H2, Gr G H G2 H2 → Dp K G2 v d → Q v H2) → r x y H Q

variable {τ : List (Option PyData)} {ta tb te tc : TE} {tt tu : TT} {d d1 d2 : PyData} {r : R2}
/-- a list let go: a datum from now on -/
theorem own_known {G H : Hp} {l : Addr} {o : HO} (e : Ex G H) (hl : G l = none) (h : H l = some o) : Ex (upd G l o) H ∧ Ex G (upd G l o) := by
  refine ⟨fun b u hb => ?_, Ex.new hl⟩
  by_cases q : b = l
  · rw [q] at hb ⊢
    rw [upd_same] at hb
    rw [h, ← hb]
  · rw [upd_ne q] at hb
    exact e b u hb
theorem EvN.dat {ds : List PyData} (h : EvN K te τ ds) : EvD K te τ (.list ds) := fun σ G H e s Q q => h σ G H e s Q fun l xs G2 H2 r hl gl h2 da => by
  obtain ⟨k1, k2⟩ := own_known r.i gl h2
  refine q (.ref l) (upd G2 l (.lst xs)) H2 ⟨r.g.trans k2, k1, r.h, fun b hb n => ?_⟩ (.lst (.inl (.inl upd_same)) (DpAll.up da k2))
  rw [upd_ne (fun z => hb (by rw [z]; exact hl))]
  exact r.s b hb n
theorem d_var {i : Nat} (h : τ[i]? = some (some d)) : EvD K (tVar i) τ d := fun σ G H e s Q q => by
  obtain ⟨v, e1, h1⟩ := s.get i d h
  exact ⟨v, e1, q v G H (GrW.refl e) h1⟩
theorem d_c {v : V} (h : ∀ H, Dp K H v d) : EvD K (tC v) τ d := fun σ G H e _ Q q => q v G H (GrW.refl e) (h G)
theorem d_int {i : Int} : EvD K (tC (.int i)) τ (.int i) := d_c fun _ => .int i
theorem d_str {x : Str} : EvD K (tC (.str x)) τ (.str x) := d_c fun _ => .str x
theorem d_bl {b : Bool} : EvD K (tC (.bl b)) τ (.bool b) := d_c fun _ => .bl b
theorem d_non : EvD K (tC .non) τ .none := d_c fun _ => .non
theorem EvD.is (h : EvD K te τ d1) (e : d1 = d2) : EvD K te τ d2 := e ▸ h
theorem EvB.is {a b : Bool} (h : EvB K tt τ a) (e : a = b) : EvB K tt τ b := e ▸ h
theorem d_op (ha : EvD K ta τ d1) (hb : EvD K tb τ d2) (hr : RD K r d1 d2 d) : EvD K (tOp r ta tb) τ d := fun σ G H e s Q q =>
  ha σ G H e s _ fun x G1 H1 r1 dx => hb σ G1 H1 r1.i (s.up r1.g) _ fun y G2 H2 r2 dy => hr G2 H2 x y r2.i (dx.up r2.g) dy Q fun v G3 H3 r3 dv => q v G3 H3 ((r1.trans r2).trans r3) dv
theorem d_un {f : V → Hp → VK → Prop} {g : Int → V} {i : Int} (ha : EvD K ta τ (.int i)) (hg : ∀ H, Dp K H (g i) d) : EvD K (tUn (rU g) ta) τ d := fun σ G H e s Q q =>
  ha σ G H e s _ fun x G1 H1 r1 dx => ⟨i, dx.intOf, q _ G1 H1 r1 (hg G1)⟩
theorem d_neg {i : Int} (ha : EvD K ta τ (.int i)) : EvD K (tUn (rU fun i => .int (-i)) ta) τ (.int (-i)) := d_un (f := fun _ _ _ => True) ha fun _ => .int _

theorem rd_I0 {g : Int → Int → V} {i j : Int} (h : ∀ H, Dp K H (g i j) d) : RD K (rI0 g) (.int i) (.int j) d := fun G H x y e hx hy Q q =>
  ⟨i, j, hx.intOf, hy.intOf, q _ G H (GrW.refl e) (h G)⟩
theorem rd_I {C : Int → Int → Prop} {g : Int → Int → V} {i j : Int} (hc : C i j) (h : ∀ H, Dp K H (g i j) d) : RD K (rI C g) (.int i) (.int j) d := fun G H x y e hx hy Q q =>
  ⟨i, j, hx.intOf, hy.intOf, hc, q _ G H (GrW.refl e) (h G)⟩
theorem rd_add {i j : Int} : RD K (rI0 fun i j => .int (i + j)) (.int i) (.int j) (.int (i + j)) := rd_I0 fun _ => .int _
theorem rd_sub {i j : Int} : RD K (rI0 fun i j => .int (i - j)) (.int i) (.int j) (.int (i - j)) := rd_I0 fun _ => .int _
theorem rd_mul {i j : Int} (h : CMul i j) : RD K (rI CMul fun i j => .int (i * j)) (.int i) (.int j) (.int (i * j)) := rd_I h fun _ => .int _
theorem rd_div {i j : Int} (h : CDiv i j) : RD K (rI CDiv fun i j => .int (i / j)) (.int i) (.int j) (.int (i / j)) := rd_I h fun _ => .int _
theorem rd_mod {i j : Int} (h : 0 < j) : RD K (rI (fun _ j => 0 < j) fun i j => .int (i % j)) (.int i) (.int j) (.int (i % j)) := rd_I h fun _ => .int _
theorem rd_le {i j : Int} : RD K (rI0 fun i j => .bl (decide (i ≤ j))) (.int i) (.int j) (.bool (decide (i ≤ j))) := rd_I0 fun _ => .bl _
theorem rd_lt {i j : Int} : RD K (rI0 fun i j => .bl (decide (i < j))) (.int i) (.int j) (.bool (decide (i < j))) := rd_I0 fun _ => .bl _
theorem rd_gt {i j : Int} : RD K (rI0 fun i j => .bl (decide (j < i))) (.int i) (.int j) (.bool (decide (j < i))) := rd_I0 fun _ => .bl _
theorem rd_ge {i j : Int} : RD K (rI0 fun i j => .bl (decide (j ≤ i))) (.int i) (.int j) (.bool (decide (j ≤ i))) := rd_I0 fun _ => .bl _
theorem rd_eqI {i j : Int} : RD K rEq (.int i) (.int j) (.bool (decide (i = j))) := fun G H x y e hx hy Q q => by
  rw [hx.intOf, hy.intOf]
  refine ⟨rfl, ?_⟩
  rw [dec_int, Bool.beq_eq_decide_eq]
  exact q _ G H (GrW.refl e) (.bl _)
theorem rd_neI {i j : Int} : RD K rNe (.int i) (.int j) (.bool (!decide (i = j))) := fun G H x y e hx hy Q q => by
  rw [hx.intOf, hy.intOf]
  refine ⟨rfl, ?_⟩
  rw [dec_int, Bool.beq_eq_decide_eq]
  exact q _ G H (GrW.refl e) (.bl _)
theorem rd_eqS {i j : Str} : RD K rEq (.str i) (.str j) (.bool (decide (i = j))) := fun G H x y e hx hy Q q => by
  rw [hx.strOf, hy.strOf]
  refine ⟨rfl, ?_⟩
  rw [dec_str, Bool.beq_eq_decide_eq]
  exact q _ G H (GrW.refl e) (.bl _)
theorem rd_neS {i j : Str} : RD K rNe (.str i) (.str j) (.bool (!decide (i = j))) := fun G H x y e hx hy Q q => by
  rw [hx.strOf, hy.strOf]
  refine ⟨rfl, ?_⟩
  rw [dec_str, Bool.beq_eq_decide_eq]
  exact q _ G H (GrW.refl e) (.bl _)
theorem rd_ixT {ds : List PyData} {k : Nat} (h : ds[k]? = some d) : RD K (rIxT K) (.tuple ds) (.int (k : Nat)) d := fun G H x y e hx hy Q q => by
  obtain ⟨a, xs, ex, hs, ha⟩ := hx.tupOf
  obtain ⟨v, hv, dv⟩ := ha.at h
  exact ⟨a, xs, k, v, ex, hy.intOf, ex_t e hs, atI_nat hv, q v G H (GrW.refl e) dv⟩
theorem rd_ixL {ds : List PyData} {k : Nat} (h : ds[k]? = some d) : RD K (rIxL K) (.list ds) (.int (k : Nat)) d := fun G H x y e hx hy Q q => by
  obtain ⟨a, xs, ex, hs, ha⟩ := hx.lstOf
  obtain ⟨v, hv, dv⟩ := ha.at h
  exact ⟨a, xs, k, v, ex, hy.intOf, ex_l e hs, atI_nat hv, q v G H (GrW.refl e) dv⟩
theorem rd_eqD (s1 : SeqAt.shaped d1 = true) (s2 : SeqAt.shaped d2 = true) : RD K (rEqD K) d1 d2 (.bool (PyData.eqv d1 d2)) := fun G H x y e hx hy Q q =>
  ⟨d1, d2, hx.up e, hy.up e, s1, s2, q _ G H (GrW.refl e) (.bl _)⟩
theorem rd_neD (s1 : SeqAt.shaped d1 = true) (s2 : SeqAt.shaped d2 = true) : RD K (rNeD K) d1 d2 (.bool (!PyData.eqv d1 d2)) := fun G H x y e hx hy Q q =>
  ⟨d1, d2, hx.up e, hy.up e, s1, s2, q _ G H (GrW.refl e) (.bl _)⟩
theorem rd_notIn {ds : List PyData} (s1 : SeqAt.shaped d1 = true) (s2 : SeqAt.shaped (.list ds) = true) : RD K (rNotInD K) d1 (.list ds) (.bool (!ds.any fun z => PyData.eqv z d1)) := fun G H x y e hx hy Q q =>
  ⟨d1, ds, hx.up e, hy.up e, s1, s2, q _ G H (GrW.refl e) (.bl _)⟩
theorem rd_catA {as bs : List PyData} (hz : as.length + bs.length ≤ 1000) : RD K (rCatA K) (.tuple as) (.tuple bs) (.tuple (as ++ bs)) := fun G H x y e hx hy Q q => by
  obtain ⟨a, xs, ex, hs, ha⟩ := hx.tupOf
  obtain ⟨b, ys, ey, ht, hb⟩ := hy.tupOf
  have hlen : xs.length + ys.length ≤ 1000 := by rw [ha.len, hb.len]; exact hz
  refine ⟨a, b, xs, ys, ex, ey, ex_t e hs, ex_t e ht, sz_of (by omega), fun z => ?_, fun _ z => ?_, fun _ _ p hp => ?_⟩
  · subst z
    cases ha
    rw [← ey]
    exact q _ G H (GrW.refl e) hy
  · subst z
    cases hb
    rw [← ex, List.append_nil] at *
    exact q _ G H (GrW.refl e) hx
  · have g := Gr.new (o := .tup (xs ++ ys)) e hp
    exact q _ _ _ g (.tup (.inl (.inl upd_same)) ((ha.app hb).up g.g))
theorem rd_catS {as bs : List PyData} (hz : as.length + bs.length ≤ 1000) : RD K (rCatS K) (.list as) (.list bs) (.list (as ++ bs)) := fun G H x y e hx hy Q q => by
  obtain ⟨a, xs, ex, hs, ha⟩ := hx.lstOf
  obtain ⟨b, ys, ey, ht, hb⟩ := hy.lstOf
  have hlen : xs.length + ys.length ≤ 1000 := by rw [ha.len, hb.len]; exact hz
  refine ⟨a, b, xs, ys, ex, ey, ex_l e hs, ex_l e ht, sz_of (by omega), fun p hp => ?_⟩
  have g := Gr.new (o := .lst (xs ++ ys)) e hp
  exact q _ _ _ g (.lst (.inl (.inl upd_same)) ((ha.app hb).up g.g))

/-! tests -/
theorem b_of {b : Bool} (h : EvD K te τ (.bool b)) : EvB K (tTest te) τ b := fun σ G H e s Q q => h σ G H e s _ fun v G2 H2 r dv => ⟨b, dv.boolOf, q G2 H2 r⟩
theorem b_B {b : Bool} (h : EvD K te τ (.bool b)) : EvB K (tB te) τ b := fun σ G H e s Q q => h σ G H e s _ fun v G2 H2 r dv => ⟨b, dv.boolOf, q G2 H2 r⟩
theorem b_and {a b : Bool} (h1 : EvB K tt τ a) (h2 : a = true → EvB K tu τ b) : EvB K (tAnd tt tu) τ (a && b) := fun σ G H e s Q q => h1 σ G H e s _ fun G2 H2 r => by
  cases a with
  | true =>
    show tu σ H2 Q
    exact h2 rfl σ G2 H2 r.i (s.up r.g) Q fun G3 H3 r3 => q G3 H3 (r.trans r3)
  | false =>
    show Q false H2
    exact q G2 H2 r
theorem b_or {a b : Bool} (h1 : EvB K tt τ a) (h2 : a = false → EvB K tu τ b) : EvB K (tOr tt tu) τ (a || b) := fun σ G H e s Q q => h1 σ G H e s _ fun G2 H2 r => by
  cases a with
  | true =>
    show Q true H2
    exact q G2 H2 r
  | false =>
    show tu σ H2 Q
    exact h2 rfl σ G2 H2 r.i (s.up r.g) Q fun G3 H3 r3 => q G3 H3 (r.trans r3)
theorem b_not {a : Bool} (h : EvB K tt τ a) : EvB K (tNot tt) τ (!a) := fun σ G H e s Q q => h σ G H e s _ fun G2 H2 r => q G2 H2 r
theorem b_yes : EvB K tYes τ true := fun σ G H e s Q q => q G H (GrW.refl e)
/-- values of and, or, not -/
theorem d_and {a : Bool} {b : Bool} (h1 : EvD K ta τ (.bool a)) (h2 : a = true → EvD K tb τ (.bool b)) : EvD K (tAndV ta tb) τ (.bool (a && b)) := fun σ G H e s Q q => h1 σ G H e s _ fun x G2 H2 r dx => ⟨a, dx.boolOf, by
  cases a with
  | true =>
    show tb σ H2 Q
    exact h2 rfl σ G2 H2 r.i (s.up r.g) Q fun v G3 H3 r3 dv => q v G3 H3 (r.trans r3) dv
  | false =>
    show Q (.bl false) H2
    exact q _ G2 H2 r (.bl _)⟩
theorem d_not {a : Bool} (h1 : EvD K ta τ (.bool a)) : EvD K (tNotV ta) τ (.bool (!a)) := fun σ G H e s Q q => h1 σ G H e s _ fun x G2 H2 r dx => ⟨a, dx.boolOf, q _ G2 H2 r (.bl _)⟩
theorem d_if {b : Bool} (h : EvB K tt τ b) (h1 : b = true → EvD K ta τ d) (h2 : b = false → EvD K tb τ d) : EvD K (tIf tt ta tb) τ d := fun σ G H e s Q q => h σ G H e s _ fun G2 H2 r => by
  cases b with
  | true =>
    show ta σ H2 Q
    exact h1 rfl σ G2 H2 r.i (s.up r.g) Q fun v G3 H3 r3 dv => q v G3 H3 (r.trans r3) dv
  | false =>
    show tb σ H2 Q
    exact h2 rfl σ G2 H2 r.i (s.up r.g) Q fun v G3 H3 r3 dv => q v G3 H3 (r.trans r3) dv
def isN : PyData → Bool
  | .none => true
  | _ => false
theorem _root_.L2.Dp.isN {H : Hp} {v : V} (h : Dp K H v d) : decide (v = V.non) = isN d := by
  cases h <;> rfl
theorem d_isN (h : EvD K ta τ d) : EvD K (tIsN ta) τ (.bool (isN d)) := fun σ G H e s Q q => h σ G H e s _ fun x G2 H2 r dx => by
  show Q (.bl (decide (x = .non))) H2
  rw [dx.isN]
  exact q _ G2 H2 r (.bl _)
theorem d_notN (h : EvD K ta τ d) : EvD K (tNotN ta) τ (.bool (!isN d)) := fun σ G H e s Q q => h σ G H e s _ fun x G2 H2 r dx => by
  show Q (.bl (!decide (x = .non))) H2
  rw [dx.isN]
  exact q _ G2 H2 r (.bl _)
/-- a op b op' c -/
theorem d_chain {r' : R2} {a b : Bool} {d3 : PyData} (ha : EvD K ta τ d1) (hb : EvD K tb τ d2) (hr : RD K r d1 d2 (.bool a)) (hc : a = true → EvD K tc τ d3) (hr' : a = true → RD K r' d2 d3 (.bool b)) : EvD K (tChain r r' ta tb tc) τ (.bool (a && b)) := fun σ G H e s Q q =>
  ha σ G H e s _ fun x G1 H1 r1 dx => hb σ G1 H1 r1.i (s.up r1.g) _ fun y G2 H2 r2 dy => hr G2 H2 x y r2.i (dx.up r2.g) dy _ fun z G3 H3 r3 dz => ⟨a, dz.boolOf, by
    have s3 := s.up ((r1.g.trans r2.g).trans r3.g)
    cases a with
    | true =>
      show tc σ H3 fun w' H4 => r' y w' H4 Q
      exact hc rfl σ G3 H3 r3.i s3 _ fun w G4 H4 r4 dw => hr' rfl G4 H4 y w r4.i (dy.up (r3.g.trans r4.g)) dw Q fun v G5 H5 r5 dv => q v G5 H5 ((((r1.trans r2).trans r3).trans r4).trans r5) dv
    | false =>
      show Q (.bl false) H3
      exact q _ G3 H3 ((r1.trans r2).trans r3) (.bl _)⟩

/-! arguments, displays -/
theorem s_nil : EvS K tNil τ [] := fun σ G H e s Q q => q [] G H (GrW.refl e) .nil
theorem s_cons {tr : TA} {ds : List PyData} (h : EvD K ta τ d) (hr : EvS K tr τ ds) : EvS K (tCons ta tr) τ (d :: ds) := fun σ G H e s Q q =>
  h σ G H e s _ fun x G1 H1 r1 dx => hr σ G1 H1 r1.i (s.up r1.g) _ fun xs G2 H2 r2 dxs => q _ G2 H2 (r1.trans r2) (.cons (dx.up r2.g) dxs)
theorem s_one (h : EvD K ta τ d) : EvS K (tCons ta tNil) τ [d] := s_cons h s_nil
theorem s_two {tb : TE} (h : EvD K ta τ d1) (h2 : EvD K tb τ d2) : EvS K (tCons ta (tCons tb tNil)) τ [d1, d2] := s_cons h (s_one h2)
theorem d_tup {t : TA} {ds : List PyData} (h : EvS K t τ ds) (hz : ds.length ≤ 1000) : EvD K (tTup t) τ (.tuple ds) := fun σ G H e s Q q =>
  h σ G H e s _ fun xs G1 H1 r1 da => ⟨sz_of (by rw [da.len]; omega), fun p hp => by
    have g := Gr.new (o := .tup xs) r1.i hp
    exact q _ _ _ (r1.trans g) (.tup (.inl (.inl upd_same)) (da.up g.g))⟩
theorem n_lst {t : TA} {ds : List PyData} (h : EvS K t τ ds) (hz : ds.length ≤ 1000) : EvN K (tLst t) τ ds := fun σ G H e s Q q =>
  h σ G H e s _ fun xs G1 H1 r1 da => ⟨sz_of (by rw [da.len]; omega), fun p hp =>
    q p xs G1 _ (r1.trans (Gr.hid r1.i hp)) (ex_free r1.ex hp) (ex_free r1.i hp) upd_same da⟩
theorem p_none : EvP K tNoPart τ none := fun σ G H e s Q q => q G H (GrW.refl e)
theorem p_some {i : Int} (h : EvD K te τ (.int i)) : EvP K (tPart te) τ (some i) := fun σ G H e s Q q => h σ G H e s _ fun v G2 H2 r dv => ⟨i, dv.intOf, q G2 H2 r⟩
/-- the items of a slice -/
def cutD (ds : List PyData) (lo hi : Option Int) : List PyData := (ds.drop (HT.sIx ds.length 0 lo)).take (HT.sIx ds.length ds.length hi - HT.sIx ds.length 0 lo)
theorem _root_.L2.DpAll.cut {H : Hp} {vs : List V} {ds : List PyData} (h : DpAll K H vs ds) (lo hi : Option Int) : DpAll K H (cutV vs lo hi) (cutD ds lo hi) := by
  unfold cutV cutD
  rw [h.len]
  exact (h.drop _).take _
theorem d_slT {tl th : TO} {ds : List PyData} {lo hi : Option Int} (h : EvD K te τ (.tuple ds)) (h1 : EvP K tl τ lo) (h2 : EvP K th τ hi) : EvD K (tSl (rSlA K) te tl th) τ (.tuple (cutD ds lo hi)) := fun σ G H e s Q q =>
  h σ G H e s _ fun v G1 H1 r1 dv => h1 σ G1 H1 r1.i (s.up r1.g) _ fun G2 H2 r2 => h2 σ G2 H2 r2.i (s.up (r1.g.trans r2.g)) _ fun G3 H3 r3 => by
    have r := (r1.trans r2).trans r3
    have dv3 := dv.up (r2.g.trans r3.g)
    obtain ⟨a, xs, ex, hs, ha⟩ := dv3.tupOf
    have el := ha.len
    refine ⟨a, xs, ex, ex_t r3.i hs, fun ⟨w1, w2⟩ => ?_, fun _ p hp => ?_⟩
    · rw [← ex]
      refine q v G3 H3 r ?_
      have e : cutD ds lo hi = ds := by
        unfold cutD
        rw [← el, w1, w2, el, Nat.sub_zero, List.drop_zero]
        exact List.take_length
      rw [e]
      exact dv3
    · have g := Gr.new (o := .tup (cutV xs lo hi)) r3.i hp
      exact q _ _ _ (r.trans g) (.tup (.inl (.inl upd_same)) ((ha.cut lo hi).up g.g))
theorem d_slL {tl th : TO} {ds : List PyData} {lo hi : Option Int} (h : EvD K te τ (.list ds)) (h1 : EvP K tl τ lo) (h2 : EvP K th τ hi) : EvD K (tSl (rSlL K) te tl th) τ (.list (cutD ds lo hi)) := fun σ G H e s Q q =>
  h σ G H e s _ fun v G1 H1 r1 dv => h1 σ G1 H1 r1.i (s.up r1.g) _ fun G2 H2 r2 => h2 σ G2 H2 r2.i (s.up (r1.g.trans r2.g)) _ fun G3 H3 r3 => by
    have r := (r1.trans r2).trans r3
    obtain ⟨a, xs, ex, hs, ha⟩ := (dv.up (r2.g.trans r3.g)).lstOf
    refine ⟨a, xs, ex, ex_l r3.i hs, fun p hp => ?_⟩
    have g := Gr.new (o := .lst (cutV xs lo hi)) r3.i hp
    exact q _ _ _ (r.trans g) (.lst (.inl (.inl upd_same)) ((ha.cut lo hi).up g.g))

/-! calls of built-ins -/
def lenD : PyData → Option Nat
  | .tuple ds => some ds.length
  | .list ds => some ds.length
  | _ => none
theorem d_len {n : Nat} (h : EvD K te τ d) (hn : lenD d = some n) : EvD K (tCB (rLenS K) (tCons te tNil)) τ (.int (n : Nat)) := fun σ G H e s Q q =>
  h σ G H e s _ fun v G2 H2 r dv => by
    cases dv with
    | lst hs ha =>
      refine ⟨_, _, rfl, .inl (ex_l r.i hs), ?_⟩
      have e' := Option.some.inj hn
      rw [ha.len, e']
      exact q _ G2 H2 r (.int _)
    | tup hs ha =>
      refine ⟨_, _, rfl, .inr (ex_t r.i hs), ?_⟩
      have e' := Option.some.inj hn
      rw [ha.len, e']
      exact q _ G2 H2 r (.int _)
    | non => cases hn
    | bl => cases hn
    | int => cases hn
    | str => cases hn
theorem d_all {bs : List Bool} (h : EvD K te τ (.list (bs.map .bool))) : EvD K (tCB (rAll K) (tCons te tNil)) τ (.bool (bs.all id)) := fun σ G H e s Q q =>
  h σ G H e s _ fun v G2 H2 r dv => by
    obtain ⟨a, xs, ex, hs, ha⟩ := dv.lstOf
    refine ⟨a, bs, by rw [ex], ?_, q _ G2 H2 r (.bl _)⟩
    rw [← ha.bools]
    exact ex_l r.i hs
theorem d_sum {ns : List Int} (h : EvD K te τ (.list (ns.map .int))) : EvD K (tCB (rSum K) (tCons te tNil)) τ (.int ns.sum) := fun σ G H e s Q q =>
  h σ G H e s _ fun v G2 H2 r dv => by
    obtain ⟨a, xs, ex, hs, ha⟩ := dv.lstOf
    refine ⟨a, ns, by rw [ex], ?_, q _ G2 H2 r (.int _)⟩
    rw [← ha.ints]
    exact ex_l r.i hs
theorem d_min {ns : List Int} {m : Int} (h : EvD K te τ (.list (ns.map .int))) (hm : m ∈ ns) (hle : ∀ y ∈ ns, m ≤ y) : EvD K (tCB (rMin K) (tCons te tNil)) τ (.int m) := fun σ G H e s Q q =>
  h σ G H e s _ fun v G2 H2 r dv => by
    obtain ⟨a, xs, ex, hs, ha⟩ := dv.lstOf
    refine ⟨a, ns, by rw [ex], ?_, List.length_pos_of_mem hm, fun k hk hkle => ?_⟩
    · rw [← ha.ints]
      exact ex_l r.i hs
    · have e' : k = m := Int.le_antisymm (hkle m hm) (hle k hk)
      rw [e']
      exact q _ G2 H2 r (.int _)
theorem d_tupleOf {ds : List PyData} (h : EvD K te τ (.list ds)) : EvD K (tThen te (kTup K)) τ (.tuple ds) := fun σ G H e s Q q =>
  h σ G H e s _ fun v G2 H2 r dv => by
    obtain ⟨a, xs, ex, hs, ha⟩ := dv.lstOf
    refine .inl ⟨a, xs, ex, ex_l r.i hs, fun p hp => ?_⟩
    have g := Gr.new (o := .tup xs) r.i hp
    exact q _ _ _ (r.trans g) (.tup (.inl (.inl upd_same)) (ha.up g.g))
theorem n_listOf {ds : List PyData} (h : EvD K te τ (.tuple ds)) : EvN K (tCB (rListS K) (tCons te tNil)) τ ds := fun σ G H e s Q q =>
  h σ G H e s _ fun v G2 H2 r dv => by
    obtain ⟨a, xs, ex, hs, ha⟩ := dv.tupOf
    exact ⟨a, xs, by rw [ex], .inr (ex_t r.i hs), fun p hp => q p xs G2 _ (r.trans (Gr.hid r.i hp)) (ex_free r.ex hp) (ex_free r.i hp) upd_same ha⟩
theorem n_listRg {n : Nat} (h : EvD K te τ (.int (n : Nat))) (hn : n ≤ 100000) : EvN K (tLstRg (tRg1 te)) τ ((List.range n).map fun k => .int (k : Nat)) := fun σ G H e s Q q =>
  h σ G H e s _ fun v G2 H2 r dv => by
    refine ⟨(n : Nat), dv.intOf, RgOk.of_le (by omega) (by omega) (by omega) (by omega), fun p hp => ?_⟩
    refine q p _ G2 _ (r.trans (Gr.hid r.i hp)) (ex_free r.ex hp) (ex_free r.i hp) upd_same ?_
    have e1 : rgV 0 (n : Nat) = ((List.range n).map fun k : Nat => (k : Int)).map V.int := by
      unfold rgV
      rw [List.map_map, show (((n : Nat) : Int) - 0).toNat = n by omega]
      refine List.map_congr_left fun k _ => ?_
      show V.int (0 + (k : Int)) = V.int (k : Int)
      rw [Int.zero_add]
    have e2 : ((List.range n).map fun k : Nat => PyData.int (k : Nat)) = ((List.range n).map fun k : Nat => (k : Int)).map PyData.int := by
      rw [List.map_map]
      rfl
    rw [e1, e2]
    exact dpa_ofInts _
theorem d_intB {b : Bool} (h : EvD K te τ (.bool b)) {r' : List V → Hp → VK → Prop} (hr : ∀ k H Q, Q (.int (if k then 1 else 0)) H → r' [.bl k] H Q) : EvD K (tCB r' (tCons te tNil)) τ (.int (if b then 1 else 0)) := fun σ G H e s Q q =>
  h σ G H e s _ fun v G2 H2 r dv => by
    rw [dv.boolOf]
    exact hr b H2 Q (q _ G2 H2 r (.int _))
/-! isinstance -/
def tyD : PyData → String
  | .none => "NoneType"
  | .bool _ => "bool"
  | .int _ => "int"
  | .str _ => "str"
  | .list _ => "list"
  | .tuple _ => "tuple"
  | .dict _ => "dict"
theorem _root_.L2.Dp.ty {H : Hp} {v : V} (h : Dp K H v d) : TyX K H v (.type (tyD d)) := by
  cases h with
  | non => exact .base .non
  | bl b => exact .base (.bl b)
  | int i => exact .base (.int i)
  | str x => exact .base (.str x)
  | lst hs _ =>
    rcases hs with (e | ⟨o, e⟩) | ⟨o, _, _, e, c, _⟩
    · exact .base (.lst e)
    · exact .base (.frz e)
    · exact .kList e c
  | tup hs _ =>
    rcases hs with (e | ⟨o, e⟩) | ⟨o, _, _, e, c, _⟩
    · exact .base (.tup e)
    · exact .fTuple e
    · exact .kTuple e c
theorem d_isi {T : String} {b : Bool} (h : EvD K te τ d) (hk : kitB (tyD d) T = some b) : EvD K (tCB (rIsi K) (tCons te (tCons (tC (.ty T)) tNil))) τ (.bool b) := fun σ G H e s Q q =>
  h σ G H e s _ fun v G2 H2 r dv => ⟨v, .ty T, .type (tyD d), .type T, b, rfl, .ty T, (dv.up r.i).ty, kit_ty hk, q _ G2 H2 r (.bl _)⟩
/-! methods of lists that are read -/
theorem d_index {to : TE} {ms : List Int} {v : Int} {k : Nat} (h : EvD K to τ (.list (ms.map .int))) (hv : EvD K te τ (.int v)) (hk : ms[k]? = some v) : EvD K (tBM K "list" (rIndex K) to (tCons te tNil)) τ (.int (firstAt ms v : Nat)) := fun σ G H e s Q q =>
  h σ G H e s _ fun x G1 H1 r1 dx => by
    obtain ⟨a, xs, ex, hs, ha⟩ := dx.lstOf
    have ei := ha.ints
    subst ei ex
    refine ⟨.inl ⟨rfl, _, ex_l r1.i hs⟩, hv σ G1 H1 r1.i (s.up r1.g) _ fun y G2 H2 r2 dy => ?_⟩
    obtain ⟨j, e1, e2, e3, e4⟩ := firstAt_of hk
    refine ⟨a, ms.map V.int, .int v, j, .int v, rfl, by rw [dy.intOf], ex_l r2.i (ex_l r2.g hs), rfl, ?_, ?_, ?_, fun m z hm hz => ?_, ?_⟩
    · rw [List.all_map, List.all_eq_true]
      exact fun _ _ => rfl
    · rw [List.getElem?_map, e3]
      rfl
    · show ((v == v) : Bool) = true
      exact beq_self_eq_true v
    · rw [List.getElem?_map] at hz
      cases em : ms[m]? with
      | none =>
        rw [em] at hz
        cases hz
      | some w =>
        rw [em] at hz
        have ez : V.int w = z := Option.some.inj hz
        rw [← ez]
        show ((w == v) : Bool) = false
        exact beq_eq_false_iff_ne.mpr (e4 m hm w em)
    · rw [← e1]
      exact q _ G2 H2 (r1.trans r2) (.int _)
theorem d_count {to : TE} {ms : List Int} {v : Int} (h : EvD K to τ (.list (ms.map .int))) (hv : EvD K te τ (.int v)) : EvD K (tBM K "list" (rCntI K) to (tCons te tNil)) τ (.int (ms.count v : Nat)) := fun σ G H e s Q q =>
  h σ G H e s _ fun x G1 H1 r1 dx => by
    obtain ⟨a, xs, ex, hs, ha⟩ := dx.lstOf
    have ei := ha.ints
    subst ei ex
    refine ⟨.inl ⟨rfl, _, ex_l r1.i hs⟩, hv σ G1 H1 r1.i (s.up r1.g) _ fun y G2 H2 r2 dy => ?_⟩
    exact ⟨a, ms, v, rfl, by rw [dy.intOf], ex_l r2.i (ex_l r2.g hs), q _ G2 H2 (r1.trans r2) (.int _)⟩

/-! ### a def by what it makes of data -/
/-- the promise of a def that changes nothing: of data ds it hands back d -/
def spP (K : PySem.W.Frag) (P : List PyData → PyData → Prop) : Sp := fun vs H Q _ => ∃ G ds d, Ex G H ∧ DpAll K G vs ds ∧ P ds d ∧ ∀ v G2 H2, Gr G H G2 H2 → Dp K G2 v d → Q v H2
theorem d_call {P : List PyData → PyData → Prop} {E : XK} {t : TA} {ds : List PyData} (h : EvS K t τ ds) (hp : P ds d) : EvD K (tCall (spP K P) [] E t) τ d := fun σ G H e s Q q =>
  h σ G H e s _ fun vs G1 H1 r1 da => ⟨G1, ds, d, r1.i, by rw [List.append_nil]; exact da, hp, fun v G2 H2 r2 dv => q v G2 H2 (r1.trans r2) dv⟩
end
end K57
/-! Comprehensions and statements by data. -/
namespace K57
open PySem PySem.Spec PyProof.Rows L2 Evl

/-! ### comprehensions -/
def givenD (n : Nat) (f : Nat → Bool) (g : Nat → PyData) : List PyData := ((List.range n).filter f).map g
theorem givenD_yes {n : Nat} {f : Nat → Bool} {g : Nat → PyData} (h : f n = true) : givenD (n + 1) f g = givenD n f g ++ [g n] := by
  unfold givenD
  rw [List.range_succ, List.filter_append, List.map_append, List.filter_cons, if_pos h] <;> rfl
theorem givenD_no {n : Nat} {f : Nat → Bool} {g : Nat → PyData} (h : f n = false) : givenD (n + 1) f g = givenD n f g := by
  unfold givenD
  rw [List.range_succ, List.filter_append, List.map_append, List.filter_cons, if_neg (by rw [h]; decide)]
  show _ ++ [] = _
  rw [List.append_nil]
theorem givenD_len (n : Nat) (f : Nat → Bool) (g : Nat → PyData) : (givenD n f g).length ≤ n := by
  unfold givenD
  rw [List.length_map]
  have h := List.length_filter_le f (List.range n)
  rw [List.length_range] at h
  exact h
theorem givenD_all {n : Nat} {g : Nat → PyData} : givenD n (fun _ => true) g = (List.range n).map g := by
  unfold givenD
  rw [List.filter_eq_self.mpr fun _ _ => rfl]
section
variable {K : PySem.W.Frag} {τ : List (Option PyData)}
/-- behind i turns the new list at D holds what is given so far; from (G1, H1) on -/
def Cp (K : PySem.W.Frag) (G1 H1 : Hp) (f : Nat → Bool) (g : Nat → PyData) (D : Addr) (i : Nat) (H' : Hp) : Prop := H1 D = none ∧ ∃ G' acc, Gr G1 H1 G' H' ∧ G' D = none ∧ H' D = some (.lst acc) ∧ DpAll K G' acc (givenD i f g)
theorem cp_turn {G1 H1 G' H' : Hp} {f : Nat → Bool} {g : Nat → PyData} {D : Addr} {i : Nat} {acc : List V} {σ2 : L2.St} {τ2 : List (Option PyData)} {t : TT} {te : TE} (p1 : H1 D = none) (r : Gr G1 H1 G' H') (hn : G' D = none) (hd : H' D = some (.lst acc)) (da : DpAll K G' acc (givenD i f g)) (hi : i < 50000)
    (st : StD K G' σ2 τ2) (ht : EvB K t τ2 (f i)) (he : f i = true → EvD K te τ2 (g i)) :
    t σ2 H' fun b H3 => if b = true then te σ2 H3 fun y H4 => ∃ acc, H4 D = some (.lst acc) ∧ acc.length < sizeLine ∧ Cp K G1 H1 f g D (i + 1) (upd H4 D (.lst (acc ++ [y]))) else Cp K G1 H1 f g D (i + 1) H3 := by
  refine ht σ2 G' H' r.i st _ fun G3 H3 r3 => ?_
  have n3 : G3 D = none := r3.s D (by rw [hd]; exact fun z => nomatch z) hn
  have d3 : H3 D = some (.lst acc) := r3.ex D _ hd
  cases hf : f i with
  | true =>
    show te σ2 H3 fun y H4 => ∃ acc, H4 D = some (.lst acc) ∧ acc.length < sizeLine ∧ Cp K G1 H1 f g D (i + 1) (upd H4 D (.lst (acc ++ [y])))
    refine he hf σ2 G3 H3 r3.i (st.up r3.g) _ fun y G4 H4 r4 dy => ?_
    have n4 : G4 D = none := r4.s D (by rw [d3]; exact fun z => nomatch z) n3
    have rr := (r.trans r3).trans r4
    refine ⟨acc, r4.ex D _ d3, sz_lt (by have := givenD_len i f g; rw [da.len]; omega), p1, G4, acc ++ [y], ⟨rr.g, Ex.mut rr.i n4, fun b o _ e => Ex.mut rr.ex p1 b o e, rr.s⟩, n4, upd_same, ?_⟩
    rw [givenD_yes hf]
    exact (da.up (r3.g.trans r4.g)).app (.cons dy .nil)
  | false =>
    show Cp K G1 H1 f g D (i + 1) H3
    refine ⟨p1, G3, acc, r.trans r3, n3, d3, ?_⟩
    rw [givenD_no hf]
    exact da.up r3.g
theorem cp_start {G1 H1 : Hp} {f : Nat → Bool} {g : Nat → PyData} {D : Addr} (e : Ex G1 H1) (hD : H1 D = none) : Cp K G1 H1 f g D 0 (upd H1 D (.lst [])) :=
  ⟨hD, G1, [], Gr.hid e hD, ex_free e hD, upd_same, .nil⟩
theorem wipe_back {σ : L2.St} {vs : List Nat} {j : Nat} {x : Option V} (hj : j ∈ vs) : L2.wipe ((L2.wipe σ vs).set j x) vs = L2.wipe σ vs := by
  rw [wipe_in hj, wipe_wipe]
theorem n_lcR {ta : TA} {j n : Nat} {vs : List Nat} {t : TT} {te : TE} (f : Nat → Bool) (g : Nat → PyData) (h : EvS K ta τ [.int (n : Nat)]) (hn : n ≤ 40000) (hj : j ∈ vs)
    (ht : ∀ i : Nat, i < n → EvB K t ((wipeD τ vs).set j (some (.int (i : Nat)))) (f i)) (he : ∀ i : Nat, i < n → f i = true → EvD K te ((wipeD τ vs).set j (some (.int (i : Nat)))) (g i)) :
    EvN K (tLc (iRng1 ta) (gName j) t te vs) τ (givenD n f g) := fun σ G H e s Q q => h σ G H e s _ fun xs G1 H1 r1 da => by
  have ex : xs = [V.int (n : Nat)] := DpAll.ints (ns := [((n : Nat) : Int)]) da
  refine ⟨(n : Nat), ex, by omega, by omega, fun D hD => lc_range (lo := 0) (n := ((n : Nat) : Int).toNat) (Cp K G1 H1 f g D) (cp_start r1.i hD) (fun i H' hi p => ?_) fun H' p => ?_⟩
  · have hi' : i < n := by omega
    obtain ⟨p1, G', acc, r, hn', hd, da'⟩ := p
    have e0 : (0 : Int) + (i : Int) = (i : Int) := Int.zero_add _
    show L2.wipe ((L2.wipe σ vs).set j (some (.int ((0 : Int) + (i : Int))))) vs = L2.wipe σ vs ∧ t ((L2.wipe σ vs).set j (some (.int ((0 : Int) + (i : Int))))) H' _
    rw [e0]
    exact ⟨wipe_back hj, cp_turn p1 r hn' hd da' (by omega) (((s.up (r1.g.trans r.g)).wipe vs).set (.int (i : Int)) j) (ht i hi') (he i hi')⟩
  · rw [Int.toNat_natCast] at p
    obtain ⟨p1, G', acc, r, hn', hd, da'⟩ := p
    exact q D acc G' H' (r1.trans r) (ex_free r1.ex p1) hn' hd da'
theorem n_lcL {tl : TE} {j : Nat} {ds : List PyData} {vs : List Nat} {t : TT} {te : TE} (f : Nat → Bool) (g : Nat → PyData) (h : EvD K tl τ (.list ds)) (hn : ds.length ≤ 40000) (hj : j ∈ vs)
    (ht : ∀ (i : Nat) d, ds[i]? = some d → EvB K t ((wipeD τ vs).set j (some d)) (f i)) (he : ∀ (i : Nat) d, ds[i]? = some d → f i = true → EvD K te ((wipeD τ vs).set j (some d)) (g i)) :
    EvN K (tLc (iList K tl) (gName j) t te vs) τ (givenD ds.length f g) := fun σ G H e s Q q => h σ G H e s _ fun v G1 H1 r1 dv => by
  obtain ⟨a, xs, ex, hs, ha⟩ := dv.lstOf
  refine ⟨a, ex, ⟨xs, ex_l r1.i hs⟩, fun D hD => lc_list (xs := xs) (Cp K G1 H1 f g D) (cp_start r1.i hD) (fun i H' _ p => ?_) (fun i x H' hi p => ?_) fun H' p => ?_⟩
  · obtain ⟨_, G', _, r, _⟩ := p
    exact ex_l (r.g.trans r.i) hs
  · obtain ⟨p1, G', acc, r, hn', hd, da'⟩ := p
    have hlt : i < ds.length := by
      rw [← ha.len]
      exact (List.getElem?_eq_some_iff.mp hi).1
    obtain ⟨x', ex', dx⟩ := ha.at (List.getElem?_eq_getElem hlt)
    rw [hi] at ex'
    cases ex'
    exact ⟨wipe_back hj, cp_turn p1 r hn' hd da' (by omega) (((s.up (r1.g.trans r.g)).wipe vs).set (dx.up r.g) j) (ht i _ (List.getElem?_eq_getElem hlt)) (he i _ (List.getElem?_eq_getElem hlt))⟩
  · rw [ha.len] at p
    obtain ⟨p1, G', acc, r, hn', hd, da'⟩ := p
    exact q D acc G' H' (r1.trans r) (ex_free r1.ex p1) hn' hd da'
theorem n_lcT {tl : TE} {j : Nat} {ds : List PyData} {vs : List Nat} {t : TT} {te : TE} (f : Nat → Bool) (g : Nat → PyData) (h : EvD K tl τ (.tuple ds)) (hn : ds.length ≤ 40000) (hj : j ∈ vs)
    (ht : ∀ (i : Nat) d, ds[i]? = some d → EvB K t ((wipeD τ vs).set j (some d)) (f i)) (he : ∀ (i : Nat) d, ds[i]? = some d → f i = true → EvD K te ((wipeD τ vs).set j (some d)) (g i)) :
    EvN K (tLc (iTup K tl) (gName j) t te vs) τ (givenD ds.length f g) := fun σ G H e s Q q => h σ G H e s _ fun v G1 H1 r1 dv => by
  obtain ⟨a, xs, ex, hs, ha⟩ := dv.tupOf
  refine ⟨a, ex, ⟨xs, ex_t r1.i hs⟩, fun D hD => lc_tup (xs := xs) (Cp K G1 H1 f g D) (cp_start r1.i hD) (fun i H' _ p => ?_) (fun i x H' hi p => ?_) fun H' p => ?_⟩
  · obtain ⟨_, G', _, r, _⟩ := p
    exact ex_t (r.g.trans r.i) hs
  · obtain ⟨p1, G', acc, r, hn', hd, da'⟩ := p
    have hlt : i < ds.length := by
      rw [← ha.len]
      exact (List.getElem?_eq_some_iff.mp hi).1
    obtain ⟨x', ex', dx⟩ := ha.at (List.getElem?_eq_getElem hlt)
    rw [hi] at ex'
    cases ex'
    exact ⟨wipe_back hj, cp_turn p1 r hn' hd da' (by omega) (((s.up (r1.g.trans r.g)).wipe vs).set (dx.up r.g) j) (ht i _ (List.getElem?_eq_getElem hlt)) (he i _ (List.getElem?_eq_getElem hlt))⟩
  · rw [ha.len] at p
    obtain ⟨p1, G', acc, r, hn', hd, da'⟩ := p
    exact q D acc G' H' (r1.trans r) (ex_free r1.ex p1) hn' hd da'
/-- two names of a new pair -/
abbrev g2 (K : PySem.W.Frag) (j k : Nat) : TG := gTup K 2 (gCons (gName j) (gCons (gName k) gNil))
theorem n_lcE {tl : TA} {j k : Nat} {ds : List PyData} {vs : List Nat} {t : TT} {te : TE} (f : Nat → Bool) (g : Nat → PyData) (h : EvS K tl τ [.tuple ds]) (hn : ds.length ≤ 40000) (hj : j ∈ vs) (hk : k ∈ vs)
    (ht : ∀ (i : Nat) d, ds[i]? = some d → EvB K t (((wipeD τ vs).set j (some (.int (i : Nat)))).set k (some d)) (f i)) (he : ∀ (i : Nat) d, ds[i]? = some d → f i = true → EvD K te (((wipeD τ vs).set j (some (.int (i : Nat)))).set k (some d)) (g i)) :
    EvN K (tLc (iEnumT K tl) (g2 K j k) t te vs) τ (givenD ds.length f g) := fun σ G H e s Q q => h σ G H e s _ fun ws G1 H1 r1 dv => by
  obtain ⟨a, xs, ex, hs, ha⟩ : ∃ a xs, ws = [V.ref a] ∧ SqT K G1 a xs ∧ DpAll K G1 xs ds := by
    cases dv with
    | cons d1 d2 =>
      cases d2
      obtain ⟨a, xs, ex, hs, ha⟩ := d1.tupOf
      exact ⟨a, xs, by rw [ex], hs, ha⟩
  refine ⟨a, xs, ex, ex_t r1.i hs, fun D hD => lc_it (walkE (xs := xs)) (Cp K G1 H1 f g D) (cp_start r1.i hD) (fun i H' _ p => ?_) (fun i x H' H2 hi p y => ?_) fun H' p => ?_⟩
  · obtain ⟨_, G', _, r, _⟩ := p
    exact ex_t (r.g.trans r.i) hs
  · obtain ⟨p1, G', acc, r, hn', hd, da'⟩ := p
    obtain ⟨T, x1, x2, ev, hT, rfl, e1, e2⟩ := y
    have e1' := Option.some.inj e1
    subst ev e1'
    have hlt : i < ds.length := by
      rw [← ha.len]
      exact hi
    obtain ⟨x', ex', dx⟩ := ha.at (List.getElem?_eq_getElem hlt)
    have e3 : xs[i]? = some x2 := e2
    rw [e3] at ex'
    cases ex'
    have rn := Gr.new (o := .tup [.int (i : Nat), x2]) r.i hT
    refine ⟨T, [.int (i : Nat), x2], rfl, .inl (.inl upd_same), rfl, _, _, rfl, _, _, rfl, rfl, by rw [wipe_in hk, wipe_back hj], ?_⟩
    have st := (((s.up (r1.g.trans (r.g.trans rn.g))).wipe vs).set (.int (i : Int)) j).set (dx.up (r.g.trans rn.g)) k
    have nDT : D ≠ T := fun z => by
      rw [z, hT] at hd
      cases hd
    exact cp_turn p1 (r.trans rn) (by rw [upd_ne nDT]; exact hn') (by rw [upd_ne nDT]; exact hd) (da'.up rn.g) (by omega) st (ht i _ (List.getElem?_eq_getElem hlt)) (he i _ (List.getElem?_eq_getElem hlt))
  · rw [ha.len] at p
    obtain ⟨p1, G', acc, r, hn', hd, da'⟩ := p
    exact q D acc G' H' (r1.trans r) (ex_free r1.ex p1) hn' hd da'
end

/-! ### statements -/
section
variable {K : PySem.W.Frag} {W : Option Addr}
/-- the well: a list of three ints, handed in -/
def WellOk (W : Option Addr) (G H : Hp) : Prop := ∀ a, W = some a → G a = none ∧ ∃ x y z : Int, H a = some (.lst [.int x, .int y, .int z])
theorem WellOk.no {G H : Hp} : WellOk none G H := fun _ z => nomatch z
theorem WellOk.ne {G H : Hp} (w : WellOk W G H) : ∀ a, W = some a → H a ≠ none := fun a e => by
  obtain ⟨_, x, y, z, h⟩ := w a e
  rw [h]
  exact fun q => nomatch q
theorem WellOk.up {G H G2 H2 : Hp} (w : WellOk W G H) (r : Gr G H G2 H2) : WellOk W G2 H2 := fun a e => by
  obtain ⟨n, x, y, z, h⟩ := w a e
  exact ⟨r.s a (by rw [h]; exact fun q => nomatch q) n, x, y, z, r.ex a _ h⟩
/-- a list of the def's own, in slot i, holding ds -/
abbrev Own := Option (Nat × List PyData)
def OwnOk (K : PySem.W.Frag) (O : Own) (H0 : Hp) (σ : L2.St) (G H : Hp) : Prop := ∀ i ds, O = some (i, ds) → ∃ l xs, σ[i]? = some (some (.ref l)) ∧ H0 l = none ∧ G l = none ∧ H l = some (.lst xs) ∧ DpAll K G xs ds
theorem OwnOk.no {H0 : Hp} {σ : L2.St} {G H : Hp} : OwnOk K none H0 σ G H := fun _ _ z => nomatch z
structure At (K : PySem.W.Frag) (W : Option Addr) (G0 H0 : Hp) (τ : List (Option PyData)) (O : Own) (σ : L2.St) (G H : Hp) : Prop where
  r : GrW W G0 H0 G H
  st : StD K G σ τ
  own : OwnOk K O H0 σ G H
  w : WellOk W G H
  w0 : ∀ a, W = some a → H0 a ≠ none
variable {τ : List (Option PyData)} {O : Own} {G0 H0 G H G2 H2 : Hp} {σ : L2.St}
theorem At.up (a : At K W G0 H0 τ O σ G H) (r : Gr G H G2 H2) : At K W G0 H0 τ O σ G2 H2 where
  r := a.r.trans a.w.ne r.toW
  st := a.st.up r.g
  own := fun i ds e => by
    obtain ⟨l, xs, e1, h0, g, h, da⟩ := a.own i ds e
    exact ⟨l, xs, e1, h0, r.s l (by rw [h]; exact fun q => nomatch q) g, r.ex l _ h, da.up r.g⟩
  w := a.w.up r
  w0 := a.w0
/-- slot i is none of the own list's -/
def Free (O : Own) (i : Nat) : Prop := ∀ j ds, O = some (j, ds) → j ≠ i
theorem Free.no {i : Nat} : Free none i := fun _ _ z => nomatch z
theorem Free.of {i j : Nat} {ds : List PyData} (h : j ≠ i) : Free (some (j, ds)) i := fun _ _ e => by
  cases e
  exact h
theorem At.set (a : At K W G0 H0 τ O σ G H) {v : V} {d : PyData} (h : Dp K G v d) {i : Nat} (f : Free O i) : At K W G0 H0 (τ.set i (some d)) O (σ.set i (some v)) G H where
  r := a.r
  st := a.st.set h i
  own := fun j ds e => by
    obtain ⟨l, xs, e1, h0, g, h, da⟩ := a.own j ds e
    exact ⟨l, xs, by rw [List.getElem?_set_ne (Ne.symm (f j ds e))]; exact e1, h0, g, h, da⟩
  w := a.w
  w0 := a.w0

/-- what is wanted of what is handed back: of the entry's heap, the value, the known part, the heap -/
abbrev Pst := Hp → V → Hp → Hp → Prop
def rD (K : PySem.W.Frag) (P : PyData → Prop) : Pst := fun _ v G _ => ∃ d, P d ∧ Dp K G v d
/-- a statement: from the data τ (and the own list O) on, where it ends N holds of the data, where it returns R of the value -/
def Run (K : PySem.W.Frag) (W : Option Addr) (t : TS) (τ : List (Option PyData)) (O : Own) (N : List (Option PyData) → Own → Prop) (R : Pst) : Prop :=
  ∀ (D : Ends) (G0 H0 : Hp) (σ : L2.St) (G H : Hp), At K W G0 H0 τ O σ G H → (∀ τ' O' σ' G' H', N τ' O' → Ex G G' → At K W G0 H0 τ' O' σ' G' H' → D.nx σ' H') →
    (∀ v G' H', GrW W G0 H0 G' H' → WellOk W G' H' → R H0 v G' H' → D.rt v H') → t D σ H
variable {t u w : TS} {te : TE} {N M : List (Option PyData) → Own → Prop} {R : Pst} {d : PyData} {i : Nat}
theorem run_seq (h : Run K W t τ O M R) (k : ∀ τ' O', M τ' O' → Run K W u τ' O' N R) : Run K W (tSeq t u) τ O N R := fun D G0 H0 σ G H a hn hr =>
  h { D with nx := u D } G0 H0 σ G H a (fun τ' O' σ' G' H' m e a' => k τ' O' m D G0 H0 σ' G' H' a' (fun τ2 O2 σ2 G2 H2 n e2 a2 => hn τ2 O2 σ2 G2 H2 n (e.trans e2) a2) hr) hr
theorem run_next (h : N τ O) : Run K W tNext τ O N R := fun D G0 H0 σ G H a hn hr => hn τ O σ G H h (Ex.refl G) a
theorem run_asg (h : EvD K te τ d) (f : Free O i) (k : N (τ.set i (some d)) O) : Run K W (tAsg te (gName i)) τ O N R := fun D G0 H0 σ G H a hn hr =>
  h σ G H a.r.i a.st _ fun v G2 H2 r dv => hn _ _ _ G2 H2 k r.g ((a.up r).set dv f)
theorem q_set (h : EvD K te τ d) (f : Free O i) (k : Run K W u (τ.set i (some d)) O N R) : Run K W (tSeq (tAsg te (gName i)) u) τ O N R :=
  run_seq (M := fun τ' O' => τ' = τ.set i (some d) ∧ O' = O) (run_asg h f ⟨rfl, rfl⟩) fun τ' O' ⟨e1, e2⟩ => by
    rw [e1, e2]
    exact k
theorem run_ret {P : PyData → Prop} (h : EvD K te τ d) (hp : P d) : Run K W (tRet te) τ O N (rD K P) := fun D G0 H0 σ G H a hn hr =>
  h σ G H a.r.i a.st _ fun v G2 H2 r dv => hr v G2 H2 (a.up r).r (a.up r).w ⟨d, hp, dv⟩
theorem q_ret {P : PyData → Prop} (h : EvD K te τ d) (hp : P d) : Run K W (tSeq (tRet te) u) τ O N (rD K P) := fun D G0 H0 σ G H a hn hr => h σ G H a.r.i a.st _ fun v G2 H2 r dv => hr v G2 H2 (a.up r).r (a.up r).w ⟨d, hp, dv⟩
theorem run_if {c : TT} {b : Bool} (h : EvB K c τ b) (h1 : b = true → Run K W t τ O N R) (h2 : b = false → Run K W u τ O N R) : Run K W (tIfS c t u) τ O N R := fun D G0 H0 σ G H a hn hr =>
  h σ G H a.r.i a.st _ fun G2 H2 r => by
    cases b with
    | true =>
      show t D σ H2
      exact h1 rfl D G0 H0 σ G2 H2 (a.up r) (fun τ2 O2 σ2 G3 H3 n e2 a2 => hn τ2 O2 σ2 G3 H3 n (r.g.trans e2) a2) hr
    | false =>
      show u D σ H2
      exact h2 rfl D G0 H0 σ G2 H2 (a.up r) (fun τ2 O2 σ2 G3 H3 n e2 a2 => hn τ2 O2 σ2 G3 H3 n (r.g.trans e2) a2) hr
theorem q_if {c : TT} {b : Bool} (h : EvB K c τ b) (h1 : b = true → Run K W (tSeq t w) τ O N R) (h2 : b = false → Run K W (tSeq u w) τ O N R) : Run K W (tSeq (tIfS c t u) w) τ O N R := fun D G0 H0 σ G H a hn hr =>
  h σ G H a.r.i a.st _ fun G2 H2 r => by
    cases b with
    | true =>
      show t { D with nx := w D } σ H2
      exact h1 rfl D G0 H0 σ G2 H2 (a.up r) (fun τ2 O2 σ2 G3 H3 n e2 a2 => hn τ2 O2 σ2 G3 H3 n (r.g.trans e2) a2) hr
    | false =>
      show u { D with nx := w D } σ H2
      exact h2 rfl D G0 H0 σ G2 H2 (a.up r) (fun τ2 O2 σ2 G3 H3 n e2 a2 => hn τ2 O2 σ2 G3 H3 n (r.g.trans e2) a2) hr
/-- an if without else -/
theorem q_when {c : TT} {b : Bool} (h : EvB K c τ b) (h1 : b = true → Run K W (tSeq t w) τ O N R) (h2 : b = false → Run K W w τ O N R) : Run K W (tSeq (tIfS c t tNext) w) τ O N R := q_if h h1 h2
theorem run_drop (h : EvD K te τ d) (k : N τ O) : Run K W (tDrop te) τ O N R := fun D G0 H0 σ G H a hn hr => h σ G H a.r.i a.st _ fun v G2 H2 r dv => hn _ _ _ G2 H2 k r.g (a.up r)
theorem q_drop (h : EvD K te τ d) (k : Run K W u τ O N R) : Run K W (tSeq (tDrop te) u) τ O N R :=
  run_seq (M := fun τ' O' => τ' = τ ∧ O' = O) (run_drop h ⟨rfl, rfl⟩) fun τ' O' ⟨e1, e2⟩ => by
    rw [e1, e2]
    exact k
/-- a, b = e -/
theorem run_unp2 {j k : Nat} {d1 d2 : PyData} (h : EvD K te τ (.tuple [d1, d2])) (fj : Free O j) (fk : Free O k) (n : N ((τ.set j (some d1)).set k (some d2)) O) : Run K W (tAsg te (g2 K j k)) τ O N R := fun D G0 H0 σ G H a hn hr =>
  h σ G H a.r.i a.st _ fun v G2 H2 r dv => by
    obtain ⟨p, xs, ex, hs, ha⟩ := dv.tupOf
    cases ha with
    | cons e1 e2 =>
      cases e2 with
      | cons e2 e3 =>
        cases e3
        exact ⟨p, _, ex, ex_t r.i hs, rfl, _, _, rfl, _, _, rfl, rfl, hn _ _ _ G2 H2 n r.g (((a.up r).set e1 fj).set e2 fk)⟩
theorem q_unp2 {j k : Nat} {d1 d2 : PyData} (h : EvD K te τ (.tuple [d1, d2])) (fj : Free O j) (fk : Free O k) (n : Run K W u ((τ.set j (some d1)).set k (some d2)) O N R) : Run K W (tSeq (tAsg te (g2 K j k)) u) τ O N R :=
  run_seq (M := fun τ' O' => τ' = (τ.set j (some d1)).set k (some d2) ∧ O' = O) (run_unp2 h fj fk ⟨rfl, rfl⟩) fun τ' O' ⟨e1, e2⟩ => by
    rw [e1, e2]
    exact n
abbrev g3 (K : PySem.W.Frag) (j k l : Nat) : TG := gTup K 3 (gCons (gName j) (gCons (gName k) (gCons (gName l) gNil)))
theorem q_unp3 {j k l : Nat} {d1 d2 d3 : PyData} (h : EvD K te τ (.tuple [d1, d2, d3])) (n : Run K W u (((τ.set j (some d1)).set k (some d2)).set l (some d3)) none N R) : Run K W (tSeq (tAsg te (g3 K j k l)) u) τ none N R :=
  run_seq (M := fun τ' O' => τ' = ((τ.set j (some d1)).set k (some d2)).set l (some d3) ∧ O' = none) (fun D G0 H0 σ G H a hn hr =>
    h σ G H a.r.i a.st _ fun v G2 H2 r dv => by
      obtain ⟨p, xs, ex, hs, ha⟩ := dv.tupOf
      cases ha with
      | cons e1 e2 =>
        cases e2 with
        | cons e2 e3 =>
          cases e3 with
          | cons e3 e4 =>
            cases e4
            exact ⟨p, _, ex, ex_t r.i hs, rfl, _, _, rfl, _, _, rfl, _, _, rfl, rfl, hn _ _ _ G2 H2 ⟨rfl, rfl⟩ r.g ((((a.up r).set e1 Free.no).set e2 Free.no).set e3 Free.no)⟩) fun τ' O' ⟨e1, e2⟩ => by
    rw [e1, e2]
    exact n
/-! the own list -/
/-- x = [] -/
theorem q_new {ta : TA} (h : EvN K (tLst ta) τ []) (hi : τ[i]? = some none) (k : Run K W u τ (some (i, [])) N R) : Run K W (tSeq (tAsg (tLst ta) (gName i)) u) τ none N R := fun D G0 H0 σ G H a hn hr => by
  show tLst ta σ H fun x H1 => u D (σ.set i (some x)) H1
  exact h σ G H a.r.i a.st _ fun l xs G2 H2 r hl gl h2 da => by
    have a2 := a.up r
    have hlt : i < σ.length := by
      rw [a.st.len]
      exact (List.getElem?_eq_some_iff.mp hi).1
    have e0 : H0 l = none := by
      cases q : H0 l with
      | none => rfl
      | some o =>
        have n : W ≠ some l := fun z => (a.w.ne l z) hl
        rw [a.r.h l o n q] at hl
        cases hl
    refine k D G0 H0 _ G2 H2 ⟨a2.r, ?_, ?_, a2.w, a.w0⟩ (fun τ2 O2 σ2 G3 H3 n e2 a3 => hn τ2 O2 σ2 G3 H3 n (r.g.trans e2) a3) hr
    · have s2 := a2.st.unset (some (.ref l)) i
      have e : τ.set i none = τ := by
        refine List.ext_getElem? fun j => ?_
        by_cases hj : i = j
        · rw [← hj, List.getElem?_set_self (by rw [← a.st.len]; exact hlt), hi]
        · rw [List.getElem?_set_ne hj]
      rw [e] at s2
      exact s2
    · intro j ds e
      cases e
      exact ⟨l, xs, List.getElem?_set_self hlt, e0, gl, h2, da⟩
/-- the own list holds something else -/
theorem At.own_set {ds es : List PyData} {l : Addr} {xs ys : List V} (a : At K W G0 H0 τ (some (i, ds)) σ G H) (e1 : σ[i]? = some (some (.ref l))) (h0 : H0 l = none) (gl : G l = none) (hl : H l = some (.lst xs)) (da : DpAll K G ys es) :
    At K W G0 H0 τ (some (i, es)) σ G (upd H l (.lst ys)) where
  r := ⟨a.r.g, Ex.mut a.r.i gl, fun b o n e => by
    rw [upd_ne (ne_of_none e h0)]
    exact a.r.h b o n e, a.r.s⟩
  st := a.st
  own := fun j fs e => by
    cases e
    exact ⟨l, ys, e1, h0, gl, upd_same, da⟩
  w := fun b e => by
    obtain ⟨n, x, y, z, h⟩ := a.w b e
    refine ⟨n, x, y, z, ?_⟩
    rw [upd_ne (fun q => a.w0 b e (by rw [q]; exact h0))]
    exact h
  w0 := a.w0
/-- x.append(e) -/
theorem run_app {ds : List PyData} (h : EvD K te τ d) (hz : ds.length < 1000) (k : N τ (some (i, ds ++ [d]))) : Run K W (tDrop (tBM K "list" rAppend (tVar i) (tCons te tNil))) τ (some (i, ds)) N R := fun D G0 H0 σ G H a hn hr => by
  obtain ⟨l, xs, e1, h0, gl, hl, da⟩ := a.own i ds rfl
  refine ⟨.ref l, e1, .inl ⟨rfl, xs, .inl (.inl hl)⟩, h σ G H a.r.i a.st _ fun v G2 H2 r dv => ?_⟩
  have n2 : G2 l = none := r.s l (by rw [hl]; exact fun q => nomatch q) gl
  exact ⟨l, xs, v, rfl, rfl, r.ex l _ hl, sz_lt (by rw [da.len]; omega), hn _ _ _ G2 _ k r.g ((a.up r).own_set e1 h0 n2 (r.ex l _ hl) ((da.up r.g).app (.cons dv .nil)))⟩
/-- x.extend(e), e a new list -/
theorem run_ext {ds es : List PyData} (h : EvN K te τ es) (hz : ds.length + es.length ≤ 1000) (k : N τ (some (i, ds ++ es))) : Run K W (tDrop (tBM K "list" rExtend (tVar i) (tCons te tNil))) τ (some (i, ds)) N R := fun D G0 H0 σ G H a hn hr => by
  obtain ⟨l, xs, e1, h0, gl, hl, da⟩ := a.own i ds rfl
  refine ⟨.ref l, e1, .inl ⟨rfl, xs, .inl (.inl hl)⟩, h σ G H a.r.i a.st _ fun b ys G2 H2 r _ _ hb db => ?_⟩
  have n2 : G2 l = none := r.s l (by rw [hl]; exact fun q => nomatch q) gl
  exact ⟨l, b, xs, ys, rfl, rfl, r.ex l _ hl, hb, sz_of (by rw [da.len, db.len]; omega), hn _ _ _ G2 _ k r.g ((a.up r).own_set e1 h0 n2 (r.ex l _ hl) ((da.up r.g).app db))⟩
/-- the own list is a datum from now on -/
theorem run_own {ds : List PyData} (k : Run K W t (τ.set i (some (.list ds))) none N R) : Run K W t τ (some (i, ds)) N R := fun D G0 H0 σ G H a hn hr => by
  obtain ⟨l, xs, e1, h0, gl, hl, da⟩ := a.own i ds rfl
  obtain ⟨k1, k2⟩ := own_known a.r.i gl hl
  have hs : σ.set i (some (.ref l)) = σ := by
    refine List.ext_getElem? fun j => ?_
    by_cases hj : i = j
    · rw [← hj, List.getElem?_set_self (List.getElem?_eq_some_iff.mp e1).1, e1]
    · rw [List.getElem?_set_ne hj]
  refine k D G0 H0 σ (upd G l (.lst xs)) H ⟨⟨a.r.g.trans k2, k1, a.r.h, fun b hb n => ?_⟩, ?_, OwnOk.no, fun b e => ?_, a.w0⟩ (fun τ2 O2 σ2 G3 H3 n e2 a3 => hn τ2 O2 σ2 G3 H3 n (k2.trans e2) a3) hr
  · rw [upd_ne (fun z => hb (by rw [z]; exact h0))]
    exact a.r.s b hb n
  · have s2 := (a.st.up k2).set (v := .ref l) (d := .list ds) (.lst (.inl (.inl upd_same)) (da.up k2)) i
    rw [hs] at s2
    exact s2
  · obtain ⟨n, x, y, z, h⟩ := a.w b e
    refine ⟨?_, x, y, z, h⟩
    rw [upd_ne (fun q => a.w0 b e (by rw [q]; exact h0))]
    exact n

/-! loops -/
/-- for j in range(n) -/
theorem run_forR {ta : TA} {j n : Nat} (h : EvS K ta τ [.int (n : Nat)]) (hn : n ≤ 40000) (Pv : Nat → List (Option PyData) → Own → Prop) (h0 : Pv 0 τ O)
    (hs : ∀ k τ' O', k < n → Pv k τ' O' → Free O' j ∧ Run K W t (τ'.set j (some (.int (k : Nat)))) O' (Pv (k + 1)) R) (hd : ∀ τ' O', Pv n τ' O' → N τ' O') : Run K W (tFor (iRng1 ta) (gName j) t) τ O N R := fun D G0 H0 σ G H a kn kr =>
  h σ G H a.r.i a.st _ fun xs G1 H1 r1 da => by
    have ex : xs = [V.int (n : Nat)] := DpAll.ints (ns := [((n : Nat) : Int)]) da
    refine ⟨(n : Nat), ex, by omega, by omega, for_range (lo := 0) (n := ((n : Nat) : Int).toNat) (fun k σ' H' => ∃ τ' O' G', Pv k τ' O' ∧ Ex G1 G' ∧ At K W G0 H0 τ' O' σ' G' H') ⟨τ, O, G1, h0, Ex.refl _, a.up r1⟩ (fun k σ' H' hk p => ?_) fun σ' H' p => ?_⟩
    · obtain ⟨τ', O', G', p, e, a'⟩ := p
      obtain ⟨f, rn⟩ := hs k τ' O' (by omega) p
      have e0 : (0 : Int) + (k : Int) = (k : Int) := Int.zero_add _
      show t _ (σ'.set j (some (.int ((0 : Int) + (k : Int))))) H'
      rw [e0]
      exact rn _ G0 H0 _ G' H' (a'.set (.int (k : Int)) f) (fun τ2 O2 σ2 G2 H2 m e2 a2 => ⟨τ2, O2, G2, m, e.trans e2, a2⟩) kr
    · rw [Int.toNat_natCast] at p
      obtain ⟨τ', O', G', p, e, a'⟩ := p
      exact kn _ _ _ _ _ (hd _ _ p) (r1.g.trans e) a'
theorem q_forR {ta : TA} {j n : Nat} (h : EvS K ta τ [.int (n : Nat)]) (hn : n ≤ 40000) (Pv : Nat → List (Option PyData) → Own → Prop) (h0 : Pv 0 τ O)
    (hs : ∀ k τ' O', k < n → Pv k τ' O' → Free O' j ∧ Run K W t (τ'.set j (some (.int (k : Nat)))) O' (Pv (k + 1)) R) (hd : ∀ τ' O', Pv n τ' O' → Run K W u τ' O' N R) : Run K W (tSeq (tFor (iRng1 ta) (gName j) t) u) τ O N R :=
  run_seq (run_forR h hn Pv h0 hs fun _ _ p => p) hd
/-- for j in a list -/
theorem run_forL {tl : TE} {j : Nat} {ds : List PyData} (h : EvD K tl τ (.list ds)) (Pv : Nat → List (Option PyData) → Own → Prop) (h0 : Pv 0 τ O)
    (hs : ∀ k d τ' O', ds[k]? = some d → Pv k τ' O' → Free O' j ∧ Run K W t (τ'.set j (some d)) O' (Pv (k + 1)) R) (hd : ∀ τ' O', Pv ds.length τ' O' → N τ' O') : Run K W (tFor (iList K tl) (gName j) t) τ O N R := fun D G0 H0 σ G H a kn kr =>
  h σ G H a.r.i a.st _ fun v G1 H1 r1 dv => by
    obtain ⟨p, xs, ex, hx, ha⟩ := dv.lstOf
    refine ⟨p, ex, ⟨xs, ex_l r1.i hx⟩, for_list (xs := xs) (fun k σ' H' => ∃ τ' O' G', Pv k τ' O' ∧ Ex G1 G' ∧ At K W G0 H0 τ' O' σ' G' H') ⟨τ, O, G1, h0, Ex.refl _, a.up r1⟩ (fun k σ' H' _ p => ?_) (fun k x σ' H' hk p => ?_) fun σ' H' p => ?_⟩
    · obtain ⟨τ', O', G', _, e, a'⟩ := p
      exact ex_l (e.trans a'.r.i) hx
    · obtain ⟨τ', O', G', p, e, a'⟩ := p
      have hlt : k < ds.length := by
        rw [← ha.len]
        exact (List.getElem?_eq_some_iff.mp hk).1
      obtain ⟨x', ex', dx⟩ := ha.at (List.getElem?_eq_getElem hlt)
      rw [hk] at ex'
      cases ex'
      obtain ⟨f, rn⟩ := hs k _ τ' O' (List.getElem?_eq_getElem hlt) p
      exact rn _ G0 H0 _ G' H' (a'.set (dx.up e) f) (fun τ2 O2 σ2 G2 H2 m e2 a2 => ⟨τ2, O2, G2, m, e.trans e2, a2⟩) kr
    · rw [ha.len] at p
      obtain ⟨τ', O', G', p, e, a'⟩ := p
      exact kn _ _ _ _ _ (hd _ _ p) (r1.g.trans e) a'
theorem q_forL {tl : TE} {j : Nat} {ds : List PyData} (h : EvD K tl τ (.list ds)) (Pv : Nat → List (Option PyData) → Own → Prop) (h0 : Pv 0 τ O)
    (hs : ∀ k d τ' O', ds[k]? = some d → Pv k τ' O' → Free O' j ∧ Run K W t (τ'.set j (some d)) O' (Pv (k + 1)) R) (hd : ∀ τ' O', Pv ds.length τ' O' → Run K W u τ' O' N R) : Run K W (tSeq (tFor (iList K tl) (gName j) t) u) τ O N R :=
  run_seq (run_forL h Pv h0 hs fun _ _ p => p) hd
/-- for j, .. in enumerate(a list): the number in slot j, the item as the target g has it -/
theorem run_forE {tl : TA} {j : Nat} {g : TG} {ds : List PyData} {τg : List (Option PyData) → Nat → PyData → List (Option PyData)} (h : EvS K tl τ [.list ds])
    (hg : ∀ (σ : L2.St) (τ : List (Option PyData)) (G0 H0 G H : Hp) (k : Nat) (v : V) (d : PyData) (Q : L2.St → Hp → Prop), ds[k]? = some d → At K W G0 H0 τ none σ G H → Dp K G v d → (∀ σ', At K W G0 H0 (τg τ k d) none σ' G H → Q σ' H) → g v (σ.set j (some (.int (k : Nat)))) H Q)
    (Pv : Nat → List (Option PyData) → Own → Prop) (h0 : Pv 0 τ O)
    (hs : ∀ k d τ' O', ds[k]? = some d → Pv k τ' O' → O' = none ∧ Run K W t (τg τ' k d) none (Pv (k + 1)) R) (hd : ∀ τ' O', Pv ds.length τ' O' → N τ' O') : Run K W (tFor (iEnum K tl) (gTup K 2 (gCons (gName j) (gCons g gNil))) t) τ O N R := fun D G0 H0 σ G H a kn kr =>
  h σ G H a.r.i a.st _ fun ws G1 H1 r1 dv => by
    obtain ⟨p, xs, ex, hx, ha⟩ : ∃ p xs, ws = [V.ref p] ∧ SqL K G1 p xs ∧ DpAll K G1 xs ds := by
      cases dv with
      | cons d1 d2 =>
        cases d2
        obtain ⟨p, xs, ex, hs, ha⟩ := d1.lstOf
        exact ⟨p, xs, by rw [ex], hs, ha⟩
    refine ⟨p, xs, ex, ex_l r1.i hx, fun k m σ' H' => m = xs.length - k ∧ k ≤ xs.length ∧ ∃ τ' O' G', Pv k τ' O' ∧ Ex G1 G' ∧ At K W G0 H0 τ' O' σ' G' H', ⟨xs.length, by omega, Nat.zero_le _, τ, O, G1, h0, Ex.refl _, a.up r1⟩, fun k m σ' H' w => ?_⟩
    obtain ⟨em, hk, τ', O', G', pv, e, a'⟩ := w
    have hq : SqL K H' p xs := ex_l (e.trans a'.r.i) hx
    by_cases hlt : k < xs.length
    · have hld : k < ds.length := by
        rw [← ha.len]
        exact hlt
      obtain ⟨eO, rn⟩ := hs k _ τ' O' (List.getElem?_eq_getElem hld) pv
      subst eO
      refine .inr ⟨⟨xs, xs[k], hq, List.getElem?_eq_getElem hlt⟩, fun σ2 H2 => ∃ τ2 O2 G2, Pv (k + 1) τ2 O2 ∧ Ex G1 G2 ∧ At K W G0 H0 τ2 O2 σ2 G2 H2, fun σ2 H2 n => ⟨m - 1, by omega, by omega, hlt, n⟩, fun x H2 y => ?_⟩
      obtain ⟨T, x2, ev, hT, rfl, e2⟩ := y
      have e3 := e2 xs hq
      obtain ⟨x', ex', dx⟩ := ha.at (List.getElem?_eq_getElem hld)
      rw [e3] at ex'
      cases ex'
      have rnew := Gr.new (o := .tup [.int (k : Nat), x2]) a'.r.i hT
      have a2 := a'.up rnew
      refine ⟨T, _, ev, .inl (.inl upd_same), rfl, _, _, rfl, _, _, rfl, hg σ' τ' G0 H0 _ _ k x2 _ _ (List.getElem?_eq_getElem hld) a2 (dx.up (e.trans rnew.g)) fun σ3 a3 => ?_⟩
      exact ⟨rfl, rn _ G0 H0 σ3 _ _ a3 (fun τ4 O4 σ4 G4 H4 n4 e4 a4 => ⟨τ4, O4, G4, n4, (e.trans rnew.g).trans e4, a4⟩) kr⟩
    · have hkx : k = xs.length := by omega
      refine .inl ⟨⟨xs, hq, by omega⟩, ?_⟩
      rw [hkx, ha.len] at pv
      exact kn _ _ _ _ _ (hd _ _ pv) (r1.g.trans e) a'
/-- for j, k in zip(a list, a list) of one length -/
theorem q_forZ {tl : TA} {j l : Nat} {ds es : List PyData} (h : EvS K tl τ [.list ds, .list es]) (hl : ds.length = es.length) (Pv : Nat → List (Option PyData) → Own → Prop) (h0 : Pv 0 τ none)
    (hs : ∀ k d e τ' O', ds[k]? = some d → es[k]? = some e → Pv k τ' O' → (Free O' j ∧ Free O' l) ∧ Run K W t ((τ'.set j (some d)).set l (some e)) O' (Pv (k + 1)) R) (hd : ∀ τ' O', Pv ds.length τ' O' → Run K W u τ' O' N R) : Run K W (tSeq (tFor (iZip K tl) (g2 K j l) t) u) τ none N R := run_seq (M := Pv ds.length) (fun D G0 H0 σ G H a kn kr =>
  h σ G H a.r.i a.st _ fun ws G1 H1 r1 dv => by
    obtain ⟨p, q, xs, ys, ex, hx, hy, ha, hb⟩ : ∃ p q xs ys, ws = [V.ref p, V.ref q] ∧ SqL K G1 p xs ∧ SqL K G1 q ys ∧ DpAll K G1 xs ds ∧ DpAll K G1 ys es := by
      cases dv with
      | cons d1 d2 =>
        cases d2 with
        | cons d2 d3 =>
          cases d3
          obtain ⟨p, xs, ex, hs, ha⟩ := d1.lstOf
          obtain ⟨q, ys, ey, ht, hb⟩ := d2.lstOf
          exact ⟨p, q, xs, ys, by rw [ex, ey], hs, ht, ha, hb⟩
    have hxy : xs.length = ys.length := by rw [ha.len, hb.len, hl]
    refine ⟨p, q, xs, ys, ex, ex_l r1.i hx, ex_l r1.i hy, fun k m σ' H' => m = xs.length - k ∧ k ≤ xs.length ∧ ∃ τ' O' G', Pv k τ' O' ∧ Ex G1 G' ∧ At K W G0 H0 τ' O' σ' G' H', ⟨xs.length, by omega, Nat.zero_le _, τ, none, G1, h0, Ex.refl _, a.up r1⟩, fun k m σ' H' w => ?_⟩
    obtain ⟨em, hk, τ', O', G', pv, e, a'⟩ := w
    have hqx : SqL K H' p xs := ex_l (e.trans a'.r.i) hx
    have hqy : SqL K H' q ys := ex_l (e.trans a'.r.i) hy
    by_cases hlt : k < xs.length
    · have hld : k < ds.length := by
        rw [← ha.len]
        exact hlt
      have hle : k < es.length := by omega
      obtain ⟨⟨f1, f2⟩, rn⟩ := hs k _ _ τ' O' (List.getElem?_eq_getElem hld) (List.getElem?_eq_getElem hle) pv
      refine .inr ⟨⟨xs, ys, xs[k], ys[k], hqx, hqy, List.getElem?_eq_getElem hlt, List.getElem?_eq_getElem (by omega)⟩, fun σ2 H2 => ∃ τ2 O2 G2, Pv (k + 1) τ2 O2 ∧ Ex G1 G2 ∧ At K W G0 H0 τ2 O2 σ2 G2 H2, fun σ2 H2 n => ⟨m - 1, by omega, by omega, hlt, n⟩, fun x H2 y => ?_⟩
      obtain ⟨T, x1, x2, ev, hT, rfl, e2, e3⟩ := y
      have g1 := e2 xs hqx
      have g2' := e3 ys hqy
      obtain ⟨x', ex', dx⟩ := ha.at (List.getElem?_eq_getElem hld)
      obtain ⟨y', ey', dy⟩ := hb.at (List.getElem?_eq_getElem hle)
      rw [g1] at ex'
      rw [g2'] at ey'
      cases ex'
      cases ey'
      have rnew := Gr.new (o := .tup [x1, x2]) a'.r.i hT
      have a2 := a'.up rnew
      refine ⟨T, _, ev, .inl (.inl upd_same), rfl, _, _, rfl, _, _, rfl, rfl, ?_⟩
      exact rn _ G0 H0 _ _ _ ((a2.set (dx.up (e.trans rnew.g)) f1).set (dy.up (e.trans rnew.g)) f2) (fun τ4 O4 σ4 G4 H4 n4 e4 a4 => ⟨τ4, O4, G4, n4, (e.trans rnew.g).trans e4, a4⟩) kr
    · have hkx : k = xs.length := by omega
      refine .inl ⟨⟨xs, ys, hqx, hqy, .inl (by omega)⟩, ?_⟩
      rw [hkx, ha.len] at pv
      exact kn _ _ _ _ _ pv (r1.g.trans e) a') hd

/-! ### a def's body -/
theorem std_start {vs : List V} {ds : List PyData} {n : Nat} (da : DpAll K G vs ds) : StD K G (vs.map some ++ List.replicate n none) (ds.map some ++ List.replicate n none) := by
  refine ⟨by simp [da.len], fun i d e => ?_⟩
  have el := da.len
  by_cases hi : i < ds.length
  · rw [List.getElem?_append_left (by rw [List.length_map]; exact hi), List.getElem?_map] at e
    rw [List.getElem?_append_left (by rw [List.length_map]; omega), List.getElem?_map]
    cases q : ds[i]? with
    | none =>
      rw [q] at e
      cases e
    | some x =>
      rw [q] at e
      have ex : x = d := Option.some.inj (Option.some.inj e)
      subst ex
      obtain ⟨v, hv, dv⟩ := da.at q
      exact ⟨v, by rw [hv]; rfl, dv⟩
  · rw [List.getElem?_append_right (by rw [List.length_map]; omega)] at e
    have := List.mem_of_getElem? e
    rw [List.mem_replicate] at this
    cases this.2
/-- the data at the entry -/
abbrev begin_ (n : Nat) (ds : List PyData) : List (Option PyData) := ds.map some ++ List.replicate (n - ds.length) none
theorem at_start {vs : List V} {ds : List PyData} {Nm : List Str} (e : Ex G H) (da : DpAll K G vs ds) : At K none G H (begin_ Nm.length ds) none (L2.start Nm vs) G H := by
  refine ⟨GrW.refl e, ?_, OwnOk.no, WellOk.no, fun _ z => nomatch z⟩
  unfold L2.start
  rw [da.len]
  exact std_start da
/-- the body of a def that changes nothing, by what it does to data -/
theorem body_of {X : Cx} {body : List Stmt} {P : List PyData → PyData → Prop} {vs : List V} {Nm : List Str} {Q : VK} {E : XK} {t : TS} (h : spP K P vs H Q E) (hd : PSs X body t)
    (hr : ∀ ds d, P ds d → Run K none t (begin_ Nm.length ds) none (fun _ _ => d = .none) (rD K fun x => x = d)) : ∃ t, PSs X body t ∧ t { nx := fun _ H' => Q .non H', rt := Q } (L2.start Nm vs) H := by
  obtain ⟨G, ds, d, e, da, p, q⟩ := h
  refine ⟨t, hd, hr ds d p _ G H _ G H (at_start e da) (fun τ' O' σ' G' H' n _ a => ?_) fun v G' H' r w ⟨x, ex, dx⟩ => ?_⟩
  · subst n
    exact q _ _ _ a.r .non
  · subst ex
    exact q _ _ _ r dx
theorem spP_len {P : List PyData → PyData → Prop} {n : Nat} (hn : ∀ ds d, P ds d → ds.length = n) {vs : List V} {Q : VK} {E : XK} (h : spP K P vs H Q E) : vs.length = n := by
  obtain ⟨G, ds, d, _, da, p, _⟩ := h
  rw [da.len, hn ds d p]
end
end K57
/-! Calls of the program's defs by what they promise; comprehensions that map, that pick. -/
namespace K57
open PySem PySem.Spec PyProof.Rows L2 Evl
/-- a def of the text, as its callers see it -/
structure Cal (P : Program) (w : World) (K : PySem.W.Frag) (mg : Str → Option Value) (base : Heap) (CX : CXT) (k : Nat) (x : Str) (ps : List Str) (sp : Sp) : Prop where
  ex : ∃ (f : Addr) (fd : FuncData), mg x = some (.ref f) ∧ PySem.W.keepIn K (.ref f) = true ∧ Binds K fd ps [] ∧ FnOk P w K mg base CX k f fd ps sp
theorem pe_cal {X : Cx} {k : Nat} {x : Str} {ps : List Str} {sp : Sp} {p pos : Pos} {e : Expr} {es : List Expr} {t : TA} (c : Cal X.prog X.w X.K X.mg X.base CX0 k x ps sp) (hr : Room k X.A) (ha : PA X (e :: es) t) (hg : Gl X x := by rfl)
    (hdb : (x == ("__debug__" : Str)) = false := by decide) (he : starEach (e :: es) X.env = (false, eval e X.env) :: starEach es X.env := by rfl) (hpl : (backTo pos (starEach es X.env)).any (·.1) = false := by rfl) :
    PE X (.Call (.Name x p) (e :: es) [] pos) (tCall sp [] E0 t) := by
  obtain ⟨f, fd, hm, hk, hb, F⟩ := c.ex
  exact pe_call F hr hg hm hk hb .nil pass0 ha hdb he hpl
/-- the built-ins that the text names -/
structure Bi (mg : Str → Option Value) : Prop where
  len : mg "len" = none
  range : mg "range" = none
  isi : mg "isinstance" = none
  all : mg "all" = none
  enum : mg "enumerate" = none
  list : mg "list" = none
  tuple : mg "tuple" = none
  int : mg "int" = none
  bool : mg "bool" = none
  sum : mg "sum" = none
  min : mg "min" = none
  zip : mg "zip" = none
  ve : mg "ValueError" = none
section
variable {K : PySem.W.Frag} {τ : List (Option PyData)}
theorem givenD_at {ds : List PyData} {f : PyData → Bool} {h : PyData → PyData} : ∀ n, n ≤ ds.length → givenD n (fun i => (ds[i]?.map f).getD false) (fun i => (ds[i]?.map h).getD .none) = ((ds.take n).filter f).map h
  | 0, _ => by simp [givenD]
  | n + 1, hn => by
    have ih := givenD_at (ds := ds) (f := f) (h := h) n (by omega)
    have hlt : n < ds.length := by omega
    have e : ds[n]? = some ds[n] := List.getElem?_eq_getElem hlt
    have et : ds.take (n + 1) = ds.take n ++ [ds[n]] := by rw [List.take_add_one, e] <;> rfl
    rw [et, List.filter_append, List.map_append]
    cases hf : f ds[n] with
    | true =>
      rw [givenD_yes (by simp only [e]; exact hf), ih, List.filter_cons, if_pos hf]
      simp only [e]
      rfl
    | false =>
      rw [givenD_no (by simp only [e]; exact hf), ih, List.filter_cons, if_neg (by rw [hf]; decide)]
      show _ = _ ++ []
      rw [List.append_nil]
theorem mem_at {ds : List PyData} {i : Nat} {d : PyData} (h : ds[i]? = some d) : d ∈ ds := List.mem_of_getElem? h
theorem n_pickL {tl : TE} {j : Nat} {ds : List PyData} {vs : List Nat} {t : TT} {te : TE} (f : PyData → Bool) (g : PyData → PyData) (h : EvD K tl τ (.list ds)) (hn : ds.length ≤ 40000) (hj : j ∈ vs)
    (ht : ∀ d ∈ ds, EvB K t ((wipeD τ vs).set j (some d)) (f d)) (he : ∀ d ∈ ds, f d = true → EvD K te ((wipeD τ vs).set j (some d)) (g d)) : EvN K (tLc (iList K tl) (gName j) t te vs) τ ((ds.filter f).map g) := by
  have z := n_lcL (fun i => (ds[i]?.map f).getD false) (fun i => (ds[i]?.map g).getD .none) (te := te) (t := t) (vs := vs) (j := j) h hn hj (fun i d e => by
    simp only [e]
    exact ht d (mem_at e)) (fun i d e hf => by
    simp only [e] at hf ⊢
    exact he d (mem_at e) hf)
  rw [givenD_at ds.length (Nat.le_refl _), List.take_length] at z
  exact z
theorem n_mapL {tl : TE} {j : Nat} {ds : List PyData} {vs : List Nat} {te : TE} (g : PyData → PyData) (h : EvD K tl τ (.list ds)) (hn : ds.length ≤ 40000) (hj : j ∈ vs)
    (he : ∀ d ∈ ds, EvD K te ((wipeD τ vs).set j (some d)) (g d)) : EvN K (tLc (iList K tl) (gName j) tYes te vs) τ (ds.map g) := by
  have z := n_pickL (τ := τ) (te := te) (vs := vs) (j := j) (fun _ => true) g h hn hj (fun _ _ => b_yes) fun d m _ => he d m
  rw [List.filter_eq_self.mpr fun _ _ => rfl] at z
  exact z
theorem n_mapT {tl : TE} {j : Nat} {ds : List PyData} {vs : List Nat} {te : TE} (g : PyData → PyData) (h : EvD K tl τ (.tuple ds)) (hn : ds.length ≤ 40000) (hj : j ∈ vs)
    (he : ∀ d ∈ ds, EvD K te ((wipeD τ vs).set j (some d)) (g d)) : EvN K (tLc (iTup K tl) (gName j) tYes te vs) τ (ds.map g) := by
  have z := n_lcT (fun i => (ds[i]?.map fun _ => true).getD false) (fun i => (ds[i]?.map g).getD .none) (te := te) (t := tYes) (vs := vs) (j := j) h hn hj (fun i d e => by
    simp only [e]
    exact b_yes) (fun i d e hf => by
    simp only [e]
    exact he d (mem_at e))
  rw [givenD_at ds.length (Nat.le_refl _), List.take_length, List.filter_eq_self.mpr fun _ _ => rfl] at z
  exact z
theorem n_mapR {ta : TA} {j n : Nat} {vs : List Nat} {te : TE} (g : Nat → PyData) (h : EvS K ta τ [.int (n : Nat)]) (hn : n ≤ 40000) (hj : j ∈ vs)
    (he : ∀ i : Nat, i < n → EvD K te ((wipeD τ vs).set j (some (.int (i : Nat)))) (g i)) : EvN K (tLc (iRng1 ta) (gName j) tYes te vs) τ ((List.range n).map g) := by
  have z := n_lcR (τ := τ) (te := te) (t := tYes) (fun _ => true) g h hn hj (fun _ _ => b_yes) fun i hi _ => he i hi
  rw [givenD_all] at z
  exact z
theorem n_mapE {tl : TA} {j k : Nat} {ds : List PyData} {vs : List Nat} {te : TE} (g : Nat → PyData) (h : EvS K tl τ [.tuple ds]) (hn : ds.length ≤ 40000) (hj : j ∈ vs) (hk : k ∈ vs)
    (he : ∀ (i : Nat) d, ds[i]? = some d → EvD K te (((wipeD τ vs).set j (some (.int (i : Nat)))).set k (some d)) (g i)) : EvN K (tLc (iEnumT K tl) (g2 K j k) tYes te vs) τ ((List.range ds.length).map g) := by
  have z := n_lcE (τ := τ) (te := te) (t := tYes) (fun _ => true) g h hn hj hk (fun _ _ _ => b_yes) fun i d e _ => he i d e
  rw [givenD_all] at z
  exact z
end
end K57
/-! The text by places; is_whole, is_thing, is_row, is_parting. -/
namespace K57
open PySem PySem.Spec PyProof.Rows L2 Evl
def top (i : Nat) : Stmt := PySem.Challenge.pw_wishdeeds_k57_whole_permuted_or_not.main.body.getD i (.Pass ⟨0, 0, 0, 0⟩)
abbrev sWhole : Stmt := top 5
abbrev sThing : Stmt := top 6
abbrev sRow : Stmt := top 7
abbrev sPart : Stmt := top 9
/-! ### what they tell of data -/
def isW : PyData → Bool
  | .int _ => true
  | _ => false
def isT (n : Int) : PyData → Bool
  | .int i => decide (0 ≤ i) && decide (i < n)
  | _ => false
def isIB : PyData → Bool
  | .int _ => true
  | .bool _ => true
  | _ => false
def rowD (wide : Nat) (n : Int) : PyData → Bool
  | .tuple ds => decide (ds.length = wide) && ds.all (isT n)
  | _ => false
def pkD (ds : List PyData) (k : Nat) : Bool := match ds[k]? with
  | some (.int i) => decide (i ≤ (k : Int)) && (match ds[i.toNat]? with
    | some (.int j) => decide (j = i)
    | _ => false)
  | _ => false
def parD (n : Nat) (d : PyData) : Bool := rowD n (n : Int) d && (match d with
  | .tuple ds => (List.range ds.length).all (pkD ds)
  | _ => false)
/-- what may stand where a row is asked for -/
def argD : PyData → Bool
  | .tuple ds => ds.all isIB && decide (ds.length ≤ 20)
  | .list _ => true
  | .none => true
  | .str _ => true
  | _ => false
def pWhole : List PyData → PyData → Prop := fun ds d => ∃ x, isIB x = true ∧ ds = [x] ∧ d = .bool (isW x)
def pThing : List PyData → PyData → Prop := fun ds d => ∃ x n, isIB x = true ∧ ds = [x, .int n] ∧ d = .bool (isT n x)
def pRow : List PyData → PyData → Prop := fun ds d => ∃ (x : PyData) (v : Nat) (n : Int), argD x = true ∧ ds = [x, .int (v : Nat), .int n] ∧ d = .bool (rowD v n x)
def pPart : List PyData → PyData → Prop := fun ds d => ∃ (x : PyData) (n : Nat), argD x = true ∧ ds = [x, .int (n : Nat)] ∧ d = .bool (parD n x)
theorem k_int_int : kitB "int" "int" = some true := by decide +kernel
theorem k_int_bool : kitB "int" "bool" = some false := by decide +kernel
theorem k_bool_int : kitB "bool" "int" = some true := by decide +kernel
theorem k_bool_bool : kitB "bool" "bool" = some true := by decide +kernel
theorem k_tup_tup : kitB "tuple" "tuple" = some true := by decide +kernel
theorem k_lst_tup : kitB "list" "tuple" = some false := by decide +kernel
theorem k_non_tup : kitB "NoneType" "tuple" = some false := by decide +kernel
theorem k_str_tup : kitB "str" "tuple" = some false := by decide +kernel
theorem k_lst_lst : kitB "list" "list" = some true := by decide +kernel
section
variable {P : Program} {w : World} {K : PySem.W.Frag} {mg : Str → Option Value} {base : Heap}
abbrev cWhole (P : Program) (w : World) (K : PySem.W.Frag) (mg : Str → Option Value) (base : Heap) := Cal P w K mg base CX0 1 "is_whole" ["thing"] (spP K pWhole)
abbrev cThing (P : Program) (w : World) (K : PySem.W.Frag) (mg : Str → Option Value) (base : Heap) := Cal P w K mg base CX0 2 "is_thing" ["thing", "size"] (spP K pThing)
abbrev cRow (P : Program) (w : World) (K : PySem.W.Frag) (mg : Str → Option Value) (base : Heap) := Cal P w K mg base CX0 3 "is_row" ["row", "wide", "size"] (spP K pRow)
abbrev cPart (P : Program) (w : World) (K : PySem.W.Frag) (mg : Str → Option Value) (base : Heap) := Cal P w K mg base CX0 4 "is_parting" ["thing", "size"] (spP K pPart)

theorem scWhole : FnScope ["thing"] ["thing"] (defScope sWhole) := ⟨rfl, rfl, rfl, by decide +kernel, rfl, by decide +kernel, by decide +kernel⟩
theorem ok_whole {f : Addr} {fd : FuncData} (F : Fun K "is_whole" "is_whole" sWhole f fd) (B : Bi mg) : FnOk P w K mg base CX0 1 f fd ["thing"] (spP K pWhole) := by
  refine F.ok scWhole (fun vs H Q E h => spP_len (by rintro _ _ ⟨x, _, rfl, _⟩; rfl) h) (fun cdv A outer s H vs Q E hr h => ?_)
  refine body_of (Nm := ["thing"]) h (pss_one (ps_ret (pe_and (pe_callB call_isi (by rfl) B.isi (by decide +kernel) (pa_cons (pv 0) (pa_cons (pe_bltn (v := .ty "int") (by rfl) B.int boot_int rfl) pa_nil)))
    (pe_one (pe_not (pe_callB call_isi (by rfl) B.isi (by decide +kernel) (pa_cons (pv 0) (pa_cons (pe_bltn (v := .ty "bool") (by rfl) B.bool (by decide +kernel) rfl) pa_nil)))))))) ?_
  rintro _ _ ⟨x, hx, rfl, rfl⟩
  cases x with
  | int i => exact run_ret (d_and (d_isi (d_var rfl) k_int_int) fun _ => d_not (d_isi (d_var rfl) k_int_bool)) rfl
  | bool b => exact run_ret (d_and (d_isi (d_var rfl) k_bool_int) fun _ => d_not (d_isi (d_var rfl) k_bool_bool)) rfl
  | _ => cases hx
theorem scThing : FnScope ["thing", "size"] ["thing", "size"] (defScope sThing) := ⟨rfl, rfl, rfl, by decide +kernel, rfl, by decide +kernel, by decide +kernel⟩
theorem ok_thing {f : Addr} {fd : FuncData} (F : Fun K "is_thing" "is_thing" sThing f fd) (B : Bi mg) (c1 : cWhole P w K mg base) : FnOk P w K mg base CX0 2 f fd ["thing", "size"] (spP K pThing) := by
  refine F.ok scThing (fun vs H Q E h => spP_len (by rintro _ _ ⟨x, n, _, rfl, _⟩; rfl) h) (fun cdv A outer s H vs Q E hr h => ?_)
  refine body_of (Nm := ["thing", "size"]) h (pss_one (ps_ret (pe_and (pe_cal c1 hr (pa_cons (pv 0) pa_nil)) (pe_one (pe_chain op_le op_lt pe_int (pv 0) (pv 1)))))) ?_
  rintro _ _ ⟨x, n, hx, rfl, rfl⟩
  cases x with
  | int i => exact run_ret (d_and (d_call (s_one (d_var rfl)) ⟨_, rfl, rfl, rfl⟩) fun _ => d_chain d_int (d_var rfl) rd_le (fun _ => d_var rfl) fun _ => rd_lt) rfl
  | bool b => exact run_ret (d_and (b := false) (d_call (s_one (d_var rfl)) ⟨_, rfl, rfl, rfl⟩) fun z => nomatch z) rfl
  | _ => cases hx
theorem scRow : FnScope ["row", "wide", "size", "one"] ["row", "wide", "size"] (defScope sRow) := ⟨rfl, rfl, rfl, by decide +kernel, rfl, by decide +kernel, by decide +kernel⟩
theorem ok_row {f : Addr} {fd : FuncData} (F : Fun K "is_row" "is_row" sRow f fd) (B : Bi mg) (c1 : cThing P w K mg base) : FnOk P w K mg base CX0 3 f fd ["row", "wide", "size"] (spP K pRow) := by
  refine F.ok scRow (fun vs H Q E h => spP_len (by rintro _ _ ⟨x, v, n, _, rfl, _⟩; rfl) h) (fun cdv A outer s H vs Q E hr h => ?_)
  refine body_of (Nm := ["row", "wide", "size", "one"]) h (pss_one (ps_ret (pe_and (pe_callB call_isi (by rfl) B.isi (by decide +kernel) (pa_cons (pv 0) (pa_cons (pe_bltn (v := .ty "tuple") (by rfl) B.tuple boot_tuple rfl) pa_nil)))
    (pe_and (pe_cmpR op_eq (pe_callB call_len_seq (by rfl) B.len PySem.boot_len (pa_cons (pv 0) pa_nil)) (pv 1) (nomark _))
    (pe_one (pe_callB (cr_all rfl) (by rfl) B.all (by decide +kernel) (pa_cons (pe_lc (own := [("one", 3)]) (g := gName 3) rfl scRow.nd (pi_tup (pv 0)) (blkOk_by (N := ["row", "wide", "size", "one"]) (sc := defScope sRow) (by decide +kernel))
      (fun _ _ _ _ _ => pg_name (i := 3) scRow.nd rfl (Or.inl rfl)) (fun _ _ _ _ _ => pts_nil) (fun _ _ _ _ _ => pe_cal c1 hr (pa_cons (pv 3) (pa_cons (pv 2) pa_nil)))) pa_nil))))))) ?_
  rintro _ _ ⟨x, v, n, hx, rfl, rfl⟩
  cases x with
  | tuple ds =>
    have hx' := Bool.and_eq_true_iff.mp (show (ds.all isIB && decide (ds.length ≤ 20)) = true from hx)
    have hz := of_decide_eq_true hx'.2
    refine run_ret (d_and (b := rowD v n (.tuple ds)) (d_isi (d_var rfl) k_tup_tup) fun _ => ?_) rfl
    refine (d_and (d_op (d_len (d_var rfl) rfl) (d_var rfl) rd_eqI) fun _ => d_all (bs := ds.map (isT n)) ((n_mapT (fun d => .bool (isT n d)) (d_var rfl) (by omega) (by simp) fun d m => ?_).dat.is ?_)).is ?_
    · exact d_call (s_two (d_var rfl) (d_var rfl)) ⟨_, _, List.all_eq_true.mp hx'.1 d m, rfl, rfl⟩
    · rw [List.map_map]
      rfl
    · show PyData.bool _ = PyData.bool (decide (ds.length = v) && ds.all (isT n))
      rw [List.all_map]
      congr 2
      rw [Bool.eq_iff_iff, decide_eq_true_eq, decide_eq_true_eq]
      omega
  | list ds => exact run_ret (d_and (b := false) (d_isi (d_var rfl) k_lst_tup) fun z => nomatch z) rfl
  | none => exact run_ret (d_and (b := false) (d_isi (d_var rfl) k_non_tup) fun z => nomatch z) rfl
  | str z => exact run_ret (d_and (b := false) (d_isi (d_var rfl) k_str_tup) fun z => nomatch z) rfl
  | _ => cases hx
end
end K57
/-! is_parting; NoFolding(-1); check_two. -/
namespace K57
open PySem PySem.Spec PyProof.Rows L2 Evl
abbrev sInitF : Stmt := inClass (top 3) 0
abbrev sTwo : Stmt := top 11
def isTup : PyData → Bool
  | .tuple _ => true
  | _ => false
def lnD : PyData → Nat
  | .tuple ds => ds.length
  | _ => 0
/-- two foldings of as many things -/
def okB (x y : PyData) : Bool := parD (lnD x) x && parD (lnD x) y
theorem parD_not {n : Nat} {x : PyData} (h : isTup x = false) : parD n x = false := by
  cases x <;> first | rfl | cases h
theorem parD_row {n : Nat} {x : PyData} (h : rowD n (n : Int) x = false) : parD n x = false := by
  unfold parD
  rw [h] <;> rfl
/-- the promise of a def that may refuse with NoFolding(-1) -/
def spX (K : PySem.W.Frag) (C : Addr) (Pd : List PyData → PyData → Prop) (Bad : List PyData → Prop) : Sp := fun vs H Q E => ∃ G ds, Ex G H ∧ DpAll K G vs ds ∧
  ((Bad ds ∧ ∀ d H2, Ex H H2 → H2 d = some (.xd [("at", .int (-1))]) → E (.ref C) (some d) H2) ∨ ∃ d, Pd ds d ∧ ∀ v G2 H2, Gr G H G2 H2 → Dp K G2 v d → Q v H2)
def badTwo : List PyData → Prop := fun ds => ∃ x y, argD x = true ∧ argD y = true ∧ ds = [x, y] ∧ okB x y = false
def pTwo : List PyData → PyData → Prop := fun ds d => ∃ x y, argD x = true ∧ argD y = true ∧ ds = [x, y] ∧ okB x y = true ∧ d = .none
/-- NoFolding.__init__ -/
def spNF (K : PySem.W.Frag) (C : Addr) : Sp := fun vs H Q _ => ∃ (a : Addr) (n : Int), vs = [.ref a, .int n] ∧ OexC K C ∧ PySem.W.findIn K (.ref C) "at" = some none ∧ H a = some (exo a C none) ∧
  ∀ dx, H dx = none → dx ≠ a → Q .non (upd (upd H dx (exd dx [("at", .int n)])) a (exo a C (some dx)))
/-- what the top says of NoFolding, at C, and of its __init__ -/
structure NF (P : Program) (w : World) (K : PySem.W.Frag) (mg : Str → Option Value) (base : Heap) (C : Addr) : Prop where
  g : mg "NoFolding" = some (.ref C)
  ox : OexC K C
  no : PySem.W.findIn K (.ref C) "at" = some none
  ini : ∃ fI fd, PySem.W.findIn K (.ref C) "__init__" = some (some (.ref fI)) ∧ PySem.W.typeIn K (.ref fI) = some (.type "function") ∧ Binds K fd ["self", "at"] [] ∧ FnOk P w K mg base CX0 1 fI fd ["self", "at"] (spNF K C)
section
variable {P : Program} {w : World} {K : PySem.W.Frag} {mg : Str → Option Value} {base : Heap} {C : Addr}
theorem scPart : FnScope ["thing", "size", "one", "least"] ["thing", "size"] (defScope sPart) := ⟨rfl, rfl, rfl, by decide +kernel, rfl, by decide +kernel, by decide +kernel⟩
theorem ok_part {f : Addr} {fd : FuncData} (F : Fun K "is_parting" "is_parting" sPart f fd) (B : Bi mg) (c1 : cRow P w K mg base) : FnOk P w K mg base CX0 4 f fd ["thing", "size"] (spP K pPart) := by
  refine F.ok scPart (fun vs H Q E h => spP_len (by rintro _ _ ⟨x, n, _, rfl, _⟩; rfl) h) (fun cdv A outer s H vs Q E hr h => ?_)
  refine body_of (Nm := ["thing", "size", "one", "least"]) h (pss_cons (ps_if (pt_not (pt_val (pe_cal c1 hr (pa_cons (pv 0) (pa_cons (pv 1) (pa_cons (pv 1) pa_nil)))))) (pss_one (ps_ret pe_bl)) pss_nil)
    (pss_one (ps_ret (pe_callB (cr_all rfl) (by rfl) B.all (by decide +kernel) (pa_cons (pe_lc (own := [("one", 2), ("least", 3)]) (g := g2 K 2 3) rfl scPart.nd (pi_enumT (by rfl) B.enum (pa_cons (pv 0) pa_nil))
      (blkOk_by (N := ["thing", "size", "one", "least"]) (sc := defScope sPart) (by decide +kernel))
      (fun _ _ _ _ _ => pg_tup rfl (pgs_cons (pg_name (i := 2) scPart.nd rfl (Or.inl rfl)) (pgs_cons (pg_name (i := 3) scPart.nd rfl (Or.inl rfl)) pgs_nil))) (fun _ _ _ _ _ => pts_nil)
      (fun _ _ _ _ _ => pe_and (pe_cmpR op_le (pv 3) (pv 2) (nomark _)) (pe_one (pe_cmpR op_eq (pe_ix (r := rIxT K) ix_tup (pv 0) (pv 3) (fun _ _ => rfl)) (pv 3) (nomark _))))) pa_nil))))) ?_
  rintro _ _ ⟨x, n, hx, rfl, rfl⟩
  refine q_when (b := !rowD n n x) (b_not (b_B (d_call (s_cons (d_var rfl) (s_two (d_var rfl) (d_var rfl))) ⟨_, _, _, hx, rfl, rfl⟩))) (fun hb => ?_) fun hb => ?_
  · have hb' : rowD n n x = false := by simpa using hb
    exact q_ret d_bl (by rw [parD_row hb'])
  · have hb' : rowD n n x = true := by simpa using hb
    cases x with
    | tuple ds =>
      have hx' := Bool.and_eq_true_iff.mp (show (ds.all isIB && decide (ds.length ≤ 20)) = true from hx)
      have hz := of_decide_eq_true hx'.2
      have hr' := Bool.and_eq_true_iff.mp (show (decide (ds.length = n) && ds.all (isT n)) = true from hb')
      have hn := of_decide_eq_true hr'.1
      refine run_ret (d_all (bs := (List.range ds.length).map (pkD ds)) ((n_mapE (fun i => .bool (pkD ds i)) (s_one (d_var rfl)) (by omega) (by simp) (by simp) fun k d e => ?_).dat.is (by rw [List.map_map]; rfl))) ?_
      · have ht := List.all_eq_true.mp hr'.2 d (mem_at e)
        cases d with
        | int i =>
          have ht' := Bool.and_eq_true_iff.mp (show (decide (0 ≤ i) && decide (i < (n : Int))) = true from ht)
          have h0 := of_decide_eq_true ht'.1
          have h1 := of_decide_eq_true ht'.2
          obtain ⟨m, rfl⟩ : ∃ m : Nat, i = (m : Int) := ⟨i.toNat, by omega⟩
          have hm : m < ds.length := by omega
          have e2 : ds[m]? = some ds[m] := List.getElem?_eq_getElem hm
          have ht2 := List.all_eq_true.mp hr'.2 _ (mem_at e2)
          cases q : ds[m] with
          | int j =>
            rw [q] at e2
            have ev : pkD ds k = (decide ((m : Int) ≤ (k : Int)) && decide (j = (m : Int))) := by
              unfold pkD
              simp only [e, Int.toNat_natCast, e2]
            rw [ev]
            exact d_and (d_op (d_var rfl) (d_var rfl) rd_le) fun _ => d_op (d_op (d_var rfl) (d_var rfl) (rd_ixT e2)) (d_var rfl) rd_eqI
          | _ =>
            rw [q] at ht2
            cases ht2
        | _ => cases ht
      · have ea : parD n (.tuple ds) = (rowD n n (.tuple ds) && (List.range ds.length).all (pkD ds)) := rfl
        rw [ea, hb', Bool.true_and, List.all_map]
        rfl
    | _ => cases hb'
/-! NoFolding.__init__ -/
theorem scInitF : FnScope ["self", "at"] ["self", "at"] (defScope sInitF) := ⟨rfl, rfl, rfl, by decide +kernel, rfl, by decide +kernel, by decide +kernel⟩
theorem ok_initF {f W : Addr} {fd : FuncData} (F : Fun K "__init__" "NoFolding.__init__" sInitF f fd) (gW : mg "WishError" = some (.ref W)) (T : WI K W) : FnOk P w K mg base CX0 1 f fd ["self", "at"] (spNF K C) := by
  refine F.ok scInitF (fun vs H Q E h => ?_) (fun cdv A outer s H vs Q E hr h => ?_)
  · obtain ⟨a, n, rfl, _⟩ := h
    rfl
  · obtain ⟨a, n, rfl, ox, no, ha, k⟩ := h
    refine ⟨_, pss_cons (ps_expr (pe_winit (by rfl) gW T (by decide) (pa_cons (pv 0) (pa_cons pe_str pa_nil)))) (pss_one (ps_ost (pv 0) (pv 1))), ?_⟩
    refine ⟨_, rfl, a, C, _, rfl, ?_, ox, ha, _, rfl, _, rfl, a, C, rfl, ox, no, .inl ⟨ha, fun dx n0 ne => k dx n0 ne⟩⟩
    decide
/-- NoFolding(-1), made and let go -/
theorem nf_made {ta : TA} {σ : L2.St} {H : Hp} {E : XK} (N : NF P w K mg base C) (h : ∀ Q : List V → Hp → Prop, Q [.int (-1)] H → ta σ H Q) (k : ∀ d H2, Ex H H2 → H2 d = some (.xd [("at", .int (-1))]) → E (.ref C) (some d) H2) :
    tMkO C (spNF K C) [] ta σ H (fun cls d H' => E cls d H') := by
  refine h _ ⟨by decide, fun a na => ?_⟩
  refine ⟨a, -1, rfl, N.ox, N.no, upd_same, fun dx nd ne => ⟨rfl, dx, [("at", .int (-1))], upd_same, ?_, ?_, ?_⟩⟩
  · rw [upd_ne ne, upd_same]
  · rw [upd_ne ne] at nd
    exact nd
  · refine k dx _ (fun b o e => ?_) upd_same
    have nd' : H dx = none := by
      rw [upd_ne ne] at nd
      exact nd
    have b1 : b ≠ dx := ne_of_none e nd'
    have b2 : b ≠ a := ne_of_none e na
    rw [upd_ne b1, del_ne b2, upd_ne b2, upd_ne b1, upd_ne b2]
    exact e
theorem two_body {X : Cx} {body : List Stmt} {tt : TT} {tr : TS} {vs : List V} {H : Hp} {Q : VK} {E : XK} (h : spX K C pTwo badTwo vs H Q E) (hd : PSs X body (tIfS tt tr tNext))
    (hB : ∀ x y, argD x = true → argD y = true → EvB K tt (begin_ 2 [x, y]) (!okB x y))
    (hR : ∀ σ H1, (∀ d H2, Ex H1 H2 → H2 d = some (.xd [("at", .int (-1))]) → E (.ref C) (some d) H2) → tr { nx := fun _ H' => Q .non H', rt := Q } σ H1) :
    ∃ t, PSs X body t ∧ t { nx := fun _ H' => Q .non H', rt := Q } (L2.start ["one", "other"] vs) H := by
  refine ⟨_, hd, ?_⟩
  obtain ⟨G, ds, e, da, h⟩ := h
  have st := (at_start (Nm := ["one", "other"]) e da).st
  rcases h with ⟨⟨x, y, hx, hy, rfl, hb⟩, k⟩ | ⟨d, ⟨x, y, hx, hy, rfl, hb, rfl⟩, k⟩
  · refine hB x y hx hy _ G H e st _ fun G2 H2 r => ?_
    rw [hb]
    exact hR _ H2 fun d H3 e3 hd => k d H3 (r.ex.trans e3) hd
  · refine hB x y hx hy _ G H e st _ fun G2 H2 r => ?_
    rw [hb]
    exact k _ G2 H2 r .non
theorem scTwo : FnScope ["one", "other"] ["one", "other"] (defScope sTwo) := ⟨rfl, rfl, rfl, by decide +kernel, rfl, by decide +kernel, by decide +kernel⟩
theorem ok_two {f : Addr} {fd : FuncData} (F : Fun K "check_two" "check_two" sTwo f fd) (B : Bi mg) (c1 : cPart P w K mg base) (N : NF P w K mg base C) : FnOk P w K mg base (L2.CX P w) 5 f fd ["one", "other"] (spX K C pTwo badTwo) := by
  refine F.okX scTwo (fun vs H Q E h => ?_) (fun cdv A outer s H vs Q E hr h => ?_)
  · obtain ⟨G, ds, _, da, h⟩ := h
    rw [da.len]
    rcases h with ⟨⟨x, y, _, _, rfl, _⟩, _⟩ | ⟨d, ⟨x, y, _, _, rfl, _⟩, _⟩ <;> rfl
  · obtain ⟨fI, fdI, iC, tI, bI, FI⟩ := N.ini
    have hr2 : Room 2 _ := hr.mono (by decide)
    refine two_body h (pss_one (ps_if (PW.pt (pw_or (pt_not (pt_val (pe_callB call_isi (by rfl) B.isi (by decide +kernel) (pa_cons (pv 0) (pa_cons (pe_bltn (v := .ty "tuple") (by rfl) B.tuple boot_tuple rfl) pa_nil)))))
        (pw_or (pt_not (pt_val (pe_cal c1 hr (pa_cons (pv 0) (pa_cons (pe_callB call_len_seq (by rfl) B.len PySem.boot_len (pa_cons (pv 0) pa_nil)) pa_nil)))))
        (pw_or1 (pt_not (pt_val (pe_cal c1 hr (pa_cons (pv 1) (pa_cons (pe_callB call_len_seq (by rfl) B.len PySem.boot_len (pa_cons (pv 0) pa_nil)) pa_nil)))))))))
      (pss_one (ps_raise rfl (takes_of rfl rfl rfl rfl) (pmk_oex N.ox iC tI FI hr2 bI .nil pass0 (by rfl) N.g (pa_cons (pe_un un_neg pe_int) pa_nil)))) pss_nil)) ?_ ?_
    · intro x y hx hy
      refine (b_or (a := !isTup x) (b_not (b_B (d_isi (d_var rfl) (b := isTup x) ?_))) fun hq => b_or (b_not (b_B (d_call (s_two (d_var rfl) (d_len (d_var rfl) (n := lnD x) ?_)) ⟨x, lnD x, hx, rfl, rfl⟩))) fun _ =>
        b_not (b_B (d_call (s_two (d_var rfl) (d_len (d_var rfl) (n := lnD x) ?_)) ⟨y, lnD x, hy, rfl, rfl⟩))).is ?_
      · cases x <;> first | exact k_tup_tup | exact k_lst_tup | exact k_non_tup | exact k_str_tup | cases hx
      · cases x <;> first | rfl | cases hq
      · cases x <;> first | rfl | cases hq
      · unfold okB
        cases hi : isTup x with
        | true => simp
        | false =>
          rw [parD_not hi]
          rfl
    · intro σ H1 k
      exact nf_made N (fun Q q => ⟨1, rfl, q⟩) k
end
end K57
/-! Partings as data; amid_of; permuted. -/
namespace K57
open PySem PySem.Spec PyProof.Rows L2 Evl
abbrev sAmid : Stmt := top 12
abbrev sPerm : Stmt := top 13
/-! ### partings as data -/
def itsN (n : Nat) (p : Nat → Nat) : List PyData := (List.range n).map fun k => .int (p k : Nat)
def tupN (n : Nat) (p : Nat → Nat) : PyData := .tuple (itsN n p)
theorem itsN_len (n : Nat) (p : Nat → Nat) : (itsN n p).length = n := by
  unfold itsN
  rw [List.length_map, List.length_range]
theorem itsN_at {n : Nat} {p : Nat → Nat} {k : Nat} (h : k < n) : (itsN n p)[k]? = some (.int (p k : Nat)) := by
  unfold itsN
  rw [List.getElem?_map, List.getElem?_range h]
  rfl
theorem itsN_all {n : Nat} {p : Nat → Nat} {f : PyData → Bool} (h : ∀ k, k < n → f (.int (p k : Nat)) = true) : (itsN n p).all f = true := by
  unfold itsN
  rw [List.all_map, List.all_eq_true]
  exact fun k hk => h k (List.mem_range.mp hk)
theorem argN {n : Nat} {p : Nat → Nat} (h : n ≤ 20) : argD (tupN n p) = true := by
  show ((itsN n p).all isIB && decide ((itsN n p).length ≤ 20)) = true
  rw [itsN_len, decide_eq_true h, Bool.and_true]
  exact itsN_all fun _ _ => rfl
theorem Par.lt {n : Nat} {p : Nat → Nat} (P : Par n p) {k : Nat} (h : k < n) : p k < n := Nat.lt_of_le_of_lt (P k h).1 h
theorem rowN {n : Nat} {p : Nat → Nat} (P : Par n p) : rowD n (n : Int) (tupN n p) = true := by
  show (decide ((itsN n p).length = n) && (itsN n p).all (isT n)) = true
  rw [itsN_len, decide_eq_true rfl, Bool.true_and]
  refine itsN_all fun k hk => ?_
  have h1 := P.lt hk
  show (decide ((0 : Int) ≤ (p k : Nat)) && decide (((p k : Nat) : Int) < (n : Int))) = true
  rw [decide_eq_true (by omega), decide_eq_true (by omega)]
  rfl
theorem parN {n : Nat} {p : Nat → Nat} (P : Par n p) : parD n (tupN n p) = true := by
  show (rowD n (n : Int) (tupN n p) && (List.range (itsN n p).length).all (pkD (itsN n p))) = true
  rw [rowN P, Bool.true_and, List.all_eq_true, itsN_len]
  intro k hk
  have hk' := List.mem_range.mp hk
  obtain ⟨h1, h2⟩ := P k hk'
  unfold pkD
  simp only [itsN_at hk', Int.toNat_natCast, itsN_at (P.lt hk'), h2]
  rw [decide_eq_true (by omega)]
  simp
theorem okN {n : Nat} {p q : Nat → Nat} (P : Par n p) (Q : Par n q) : okB (tupN n p) (tupN n q) = true := by
  unfold okB
  have e : lnD (tupN n p) = n := itsN_len n p
  rw [e, parN P, parN Q]
  rfl
theorem dec_nat (a b : Nat) : decide ((a : Int) = (b : Int)) = decide (a = b) := by
  rw [Bool.eq_iff_iff, decide_eq_true_eq, decide_eq_true_eq]
  omega
def optD : Option Nat → PyData
  | none => .none
  | some t => .int (t : Nat)
def pAmid : List PyData → PyData → Prop := fun ds d => ∃ (n : Nat) (p q : Nat → Nat) (b e : Nat), n ≤ 20 ∧ b < n ∧ e < n ∧ ds = [tupN n p, tupN n q, .int (b : Nat), .int (e : Nat)] ∧ d = optD (amid n p q b e)
theorem amid_first {n : Nat} {p q : Nat → Nat} {b e t : Nat} (ht : t < n) (h : hit p q b e t = true) (hn : ∀ s, s < t → hit p q b e s = false) : amid n p q b e = some t := by
  unfold amid
  rw [List.find?_eq_some_iff_getElem]
  refine ⟨h, t, by rw [List.length_range]; exact ht, by rw [List.getElem_range], fun j hj => ?_⟩
  rw [List.getElem_range, hn j hj]
  rfl
theorem amid_no {n : Nat} {p q : Nat → Nat} {b e : Nat} (hn : ∀ s, s < n → hit p q b e s = false) : amid n p q b e = none := by
  unfold amid
  rw [List.find?_eq_none]
  intro s hs
  rw [hn s (List.mem_range.mp hs)]
  decide
section
variable {P : Program} {w : World} {K : PySem.W.Frag} {mg : Str → Option Value} {base : Heap} {C : Addr}
abbrev cAmid (P : Program) (w : World) (K : PySem.W.Frag) (mg : Str → Option Value) (base : Heap) := Cal P w K mg base CX0 1 "amid_of" ["one", "other", "begin", "end"] (spP K pAmid)
theorem scAmid : FnScope ["one", "other", "begin", "end", "thing"] ["one", "other", "begin", "end"] (defScope sAmid) := ⟨rfl, rfl, rfl, by decide +kernel, rfl, by decide +kernel, by decide +kernel⟩
theorem ok_amid {f : Addr} {fd : FuncData} (F : Fun K "amid_of" "amid_of" sAmid f fd) (B : Bi mg) : FnOk P w K mg base CX0 1 f fd ["one", "other", "begin", "end"] (spP K pAmid) := by
  refine F.ok scAmid (fun vs H Q E h => spP_len (by rintro _ _ ⟨n, p, q, b, e, _, _, _, rfl, _⟩; rfl) h) (fun cdv A outer s H vs Q E hr h => ?_)
  refine body_of (Nm := ["one", "other", "begin", "end", "thing"]) h (pss_cons (ps_for PassesOwn.never rfl (pi_range1 (by rfl) B.range (pa_cons (pe_callB call_len_seq (by rfl) B.len PySem.boot_len (pa_cons (pv 0) pa_nil)) pa_nil)) (pg_name (i := 4) scAmid.nd rfl (Or.inl rfl))
      (pss_one (ps_if (PW.pt (pw_and (pt_cmpR op_eq (pe_ix (r := rIxT K) ix_tup (pv 0) (pv 4) (fun _ _ => rfl)) (pe_ix (r := rIxT K) ix_tup (pv 0) (pv 2) (fun _ _ => rfl)) (nomark _))
        (pw_and1 (pt_cmpR op_eq (pe_ix (r := rIxT K) ix_tup (pv 1) (pv 4) (fun _ _ => rfl)) (pe_ix (r := rIxT K) ix_tup (pv 1) (pv 3) (fun _ _ => rfl)) (nomark _)))))
        (pss_one (ps_ret (pv 4))) pss_nil)))
    (pss_one (ps_ret pe_non))) ?_
  rintro _ _ ⟨n, p, q, b, e, hn, hb, he, rfl, rfl⟩
  refine q_forR (n := n) (s_one (d_len (d_var rfl) (by show some (itsN n p).length = _; rw [itsN_len]))) (by omega)
    (fun i τ' O' => (∃ x, τ' = [some (tupN n p), some (tupN n q), some (.int (b : Nat)), some (.int (e : Nat)), x]) ∧ O' = none ∧ ∀ s, s < i → hit p q b e s = false)
    ⟨⟨_, rfl⟩, rfl, fun s hs => absurd hs (Nat.not_lt_zero s)⟩ ?_ ?_
  · rintro i τ' O' hi ⟨⟨x, rfl⟩, rfl, hno⟩
    refine ⟨Free.no, run_if (b := hit p q b e i) ((b_and (b_of (d_op (d_op (d_var rfl) (d_var rfl) (rd_ixT (itsN_at hi))) (d_op (d_var rfl) (d_var rfl) (rd_ixT (itsN_at hb))) rd_eqI))
      fun _ => b_of (d_op (d_op (d_var rfl) (d_var rfl) (rd_ixT (itsN_at hi))) (d_op (d_var rfl) (d_var rfl) (rd_ixT (itsN_at he))) rd_eqI)).is ?_) (fun h => ?_) fun h => ?_⟩
    · rw [dec_nat, dec_nat]
      rfl
    · exact run_ret (d_var rfl) (by rw [amid_first hi h hno]; rfl)
    · refine run_next ⟨⟨_, rfl⟩, rfl, fun s hs => ?_⟩
      by_cases q' : s = i
      · rw [q']
        exact h
      · exact hno s (by omega)
  · rintro τ' O' ⟨⟨x, rfl⟩, rfl, hno⟩
    exact run_ret d_non (by rw [amid_no hno]; rfl)
end
end K57
/-! permuted. -/
namespace K57
open PySem PySem.Spec PyProof.Rows L2 Evl
def trip (n : Nat) (p q : Nat → Nat) (x : Nat × Nat) : PyData := .tuple [.int (x.1 : Nat), .int (x.2 : Nat), .int (home n p q x.1 x.2 : Nat)]
/-- what permuted tells -/
def resD (n : Nat) (p q : Nat → Nat) (d : PyData) : Prop := (perm n p q = true ∧ d = .tuple [.str "yes", .list ((prs n p q).map (trip n p q))]) ∨
  (perm n p q = false ∧ ∃ b a e : Nat, b < n ∧ a < n ∧ e < n ∧ p a = p b ∧ q a = q e ∧ goes n q p b e = false ∧ d = .tuple [.str "no", .tuple [.int (b : Nat), .int (a : Nat), .int (e : Nat)]])
/-- where both permute, the list told is a new one -/
def Fresh (n : Nat) (p q : Nat → Nat) (H0 : Hp) (v : V) (H' : Hp) : Prop := perm n p q = true → ∃ t l ys, v = .ref t ∧ H' t = some (.tup [.str "yes", .ref l]) ∧ H' l = some (.lst ys) ∧ H0 l = none
def spPerm (K : PySem.W.Frag) (C : Addr) : Sp := fun vs H Q E => ∃ G ds, Ex G H ∧ DpAll K G vs ds ∧
  ((badTwo ds ∧ ∀ d H2, Ex H H2 → H2 d = some (.xd [("at", .int (-1))]) → E (.ref C) (some d) H2) ∨
    ∃ (n : Nat) (p q : Nat → Nat), n ≤ 9 ∧ Par n p ∧ Par n q ∧ ds = [tupN n p, tupN n q] ∧ ∀ v d G2 H2, resD n p q d → Gr G H G2 H2 → Dp K G2 v d → Fresh n p q H v H2 → Q v H2)
def rPerm (K : PySem.W.Frag) (n : Nat) (p q : Nat → Nat) : Pst := fun H0 v G' H' => ∃ d, resD n p q d ∧ Dp K G' v d ∧ Fresh n p q H0 v H'
section
variable {P : Program} {w : World} {K : PySem.W.Frag} {mg : Str → Option Value} {base : Heap} {C : Addr}
theorem all_upto {n : Nat} {p q : Nat → Nat} {m : Nat} (h : ∀ x ∈ upto n p q m, goes n q p x.1 x.2 = true) (hm : m = n) : perm n p q = true := by
  subst hm
  unfold perm
  rw [List.all_eq_true]
  exact h
/-- return (x, found), found the own list -/
theorem run_retOwn {W : Option Addr} {i : Nat} {ds : List PyData} {x : Str} {τ : List (Option PyData)} {N : List (Option PyData) → Own → Prop} {R : Pst}
    (hR : ∀ H0 t l ys G' H', H0 l = none → H' t = some (.tup [.str x, .ref l]) → H' l = some (.lst ys) → Dp K G' (.ref t) (.tuple [.str x, .list ds]) → R H0 (.ref t) G' H') :
    Run K W (tRet (tTup (tCons (tC (.str x)) (tCons (tVar i) tNil)))) τ (some (i, ds)) N R := fun D G0 H0 σ G H a hn hr => by
  obtain ⟨l, xs, e1, h0, gl, hl, da⟩ := a.own i ds rfl
  obtain ⟨k1, k2⟩ := own_known a.r.i gl hl
  refine ⟨.ref l, e1, by show 2 ≤ sizeLine; decide, fun t ht => ?_⟩
  have rn := Gr.new (o := .tup [.str x, .ref l]) k1 ht
  have lt : l ≠ t := ne_of_none hl ht
  have gr : GrW W G0 H0 (upd G l (.lst xs)) H := ⟨a.r.g.trans k2, k1, a.r.h, fun b hb n => by
    rw [upd_ne (fun z => hb (by rw [z]; exact h0))]
    exact a.r.s b hb n⟩
  have wo : WellOk W (upd G l (.lst xs)) H := fun b e => by
    obtain ⟨n, z⟩ := a.w b e
    refine ⟨?_, z⟩
    rw [upd_ne (fun q => a.w0 b e (by rw [q]; exact h0))]
    exact n
  refine hr (.ref t) _ _ (gr.trans a.w.ne rn.toW) (wo.up rn) (hR H0 t l xs _ _ h0 upd_same (by rw [upd_ne lt]; exact hl) ?_)
  refine .tup (.inl (.inl upd_same)) (.cons (.str x) (.cons (.lst (xs := xs) (.inl (.inl ?_)) ?_) .nil))
  · rw [upd_ne lt]
    exact upd_same
  · exact (da.up k2).up rn.g
theorem scPerm : FnScope ["one", "other", "found", "begin", "end", "amid", "home"] ["one", "other"] (defScope sPerm) := ⟨rfl, rfl, rfl, by decide +kernel, rfl, by decide +kernel, by decide +kernel⟩
/-- check_two(one, other), then the rest, which raises nothing -/
theorem perm_body {X : Cx} {body : List Stmt} {tr : TS} {vs : List V} {H : Hp} {Q : VK} {E : XK} (h : spPerm K C vs H Q E) (hd : PSs X body (tSeq (tDrop (tCall (spX K C pTwo badTwo) [] E (tCons (tVar 0) (tCons (tVar 1) tNil)))) tr))
    (hR : ∀ (n : Nat) (p q : Nat → Nat), n ≤ 9 → Par n p → Par n q → Run K none tr [some (tupN n p), some (tupN n q), none, none, none, none, none] none (fun _ _ => False) (rPerm K n p q)) :
    ∃ t, PSs X body t ∧ t { nx := fun _ H' => Q .non H', rt := Q } (L2.start ["one", "other", "found", "begin", "end", "amid", "home"] vs) H := by
  refine ⟨_, hd, ?_⟩
  obtain ⟨G, ds, e, da, h⟩ := h
  have a0 := at_start (Nm := ["one", "other", "found", "begin", "end", "amid", "home"]) e da
  rcases h with ⟨bad, k⟩ | ⟨n, p, q, hn, hp, hq, rfl, k⟩
  · obtain ⟨x, y, hx, hy, rfl, hb⟩ := bad
    have ev : EvS K (tCons (tVar 0) (tCons (tVar 1) tNil)) (begin_ 7 [x, y]) [x, y] := s_two (d_var rfl) (d_var rfl)
    show tCons (tVar 0) (tCons (tVar 1) tNil) _ H (fun ws H1 => spX K C pTwo badTwo (ws ++ []) H1 _ E)
    refine ev _ G H e a0.st _ fun ws G1 H1 r1 dw => ?_
    exact ⟨G1, [x, y], r1.i, by rw [List.append_nil]; exact dw, .inl ⟨⟨x, y, hx, hy, rfl, hb⟩, fun d H2 e2 hd2 => k d H2 (r1.ex.trans e2) hd2⟩⟩
  · have ev : EvS K (tCons (tVar 0) (tCons (tVar 1) tNil)) (begin_ 7 [tupN n p, tupN n q]) [tupN n p, tupN n q] := s_two (d_var rfl) (d_var rfl)
    show tCons (tVar 0) (tCons (tVar 1) tNil) _ H (fun ws H1 => spX K C pTwo badTwo (ws ++ []) H1 _ E)
    refine ev _ G H e a0.st _ fun ws G1 H1 r1 dw => ?_
    refine ⟨G1, _, r1.i, by rw [List.append_nil]; exact dw, .inr ⟨.none, ⟨_, _, argN (by omega), argN (by omega), rfl, okN hp hq, rfl⟩, fun v G2 H2 r2 _ => ?_⟩⟩
    have a2 := (a0.up r1).up r2
    refine hR n p q hn hp hq _ G H _ G2 H2 a2 (fun _ _ _ _ _ z => z.elim) fun v' G' H' r w ⟨d, hd', dv, fr⟩ => k v' d G' H' hd' r dv fr
theorem ok_perm {f : Addr} {fd : FuncData} (F : Fun K "permuted" "permuted" sPerm f fd) (B : Bi mg) (c1 : Cal P w K mg base (L2.CX P w) 5 "check_two" ["one", "other"] (spX K C pTwo badTwo)) (c2 : cAmid P w K mg base) : FnOk P w K mg base (L2.CX P w) 6 f fd ["one", "other"] (spPerm K C) := by
  refine F.okX scPerm (fun vs H Q E h => ?_) (fun cdv A outer s H vs Q E hr h => ?_)
  · obtain ⟨G, ds, _, da, h⟩ := h
    rw [da.len]
    rcases h with ⟨⟨x, y, _, _, rfl, _⟩, _⟩ | ⟨n, p, q, _, _, _, rfl, _⟩ <;> rfl
  · obtain ⟨f1, fd1, g1, k1, b1, F1⟩ := c1.ex
    have hr1 : Room 1 _ := hr.mono (by decide)
    refine perm_body h (pss_cons (ps_expr (pe_call F1 hr (by rfl) g1 k1 b1 .nil (passes_call (takes_of rfl rfl rfl rfl) fun _ _ _ _ z => z) (pa_cons (pv 0) (pa_cons (pv 1) pa_nil))))
      (PSs.nox
        (pss_cons (ps_set (i := 2) scPerm.nd rfl (Or.inl rfl) (pe_lst pa_nil))
        (pss_cons (ps_for PassesOwn.never rfl (pi_range1 (by rfl) B.range (pa_cons (pe_callB call_len_seq (by rfl) B.len PySem.boot_len (pa_cons (pv 0) pa_nil)) pa_nil)) (pg_name (i := 3) scPerm.nd rfl (Or.inl rfl))
          (pss_one (ps_for PassesOwn.never rfl (pi_range1 (by rfl) B.range (pa_cons (pe_callB call_len_seq (by rfl) B.len PySem.boot_len (pa_cons (pv 0) pa_nil)) pa_nil)) (pg_name (i := 4) scPerm.nd rfl (Or.inl rfl))
            (pss_cons (ps_set (i := 5) scPerm.nd rfl (Or.inl rfl) (pe_cal c2 hr1 (pa_cons (pv 0) (pa_cons (pv 1) (pa_cons (pv 3) (pa_cons (pv 4) pa_nil))))))
            (pss_one (ps_if (pt_cmp (pc_notN (pv 5)))
              (pss_cons (ps_set (i := 6) scPerm.nd rfl (Or.inl rfl) (pe_cal c2 hr1 (pa_cons (pv 1) (pa_cons (pv 0) (pa_cons (pv 3) (pa_cons (pv 4) pa_nil))))))
              (pss_cons (ps_if (pt_cmp (pc_isN (pv 6))) (pss_one (ps_ret (pe_tup (pa_cons pe_str (pa_cons (pe_tup (pa_cons (pv 3) (pa_cons (pv 5) (pa_cons (pv 4) pa_nil)))) pa_nil))))) pss_nil)
              (pss_one (ps_expr (pe_bm PySem.F.plainAttrs_list PySem.F.slot_list_append PySem.F.type_list_append mt_append (pv 2) (pa_cons (pe_tup (pa_cons (pv 3) (pa_cons (pv 4) (pa_cons (pv 6) pa_nil)))) pa_nil))))))
              pss_nil))))))
        (pss_one (ps_ret (pe_tup (pa_cons pe_str (pa_cons (pv 2) pa_nil))))))))) ?_
    intro n p q hn hp hq
    have lenN : ∀ r : Nat → Nat, lenD (tupN n r) = some n := fun r => by
      show some (itsN n r).length = some n
      rw [itsN_len]
    refine q_new (n_lst s_nil (Nat.zero_le _)) rfl ?_
    refine q_forR (n := n) (s_one (d_len (d_var rfl) (lenN p))) (by omega)
      (fun i τ' O' => (∃ a b c d, τ' = [some (tupN n p), some (tupN n q), none, a, b, c, d]) ∧ O' = some (2, (upto n p q i).map (trip n p q)) ∧ ∀ x ∈ upto n p q i, goes n q p x.1 x.2 = true)
      ⟨⟨_, _, _, _, rfl⟩, rfl, fun x hx => by cases hx⟩ ?_ ?_
    · rintro i τ' O' hi ⟨⟨a, b, c, d, rfl⟩, rfl, hall⟩
      refine ⟨Free.of (by decide), run_forR (n := n) (s_one (d_len (d_var rfl) (lenN p))) (by omega)
        (fun j τ' O' => (∃ b c d, τ' = [some (tupN n p), some (tupN n q), none, some (.int (i : Nat)), b, c, d]) ∧ O' = some (2, (upto n p q i ++ line n p q i j).map (trip n p q)) ∧ ∀ x ∈ upto n p q i ++ line n p q i j, goes n q p x.1 x.2 = true)
        ⟨⟨_, _, _, rfl⟩, by show _ = some (2, (upto n p q i ++ []).map (trip n p q)); rw [List.append_nil], fun x hx => hall x (by simpa [line] using hx)⟩ ?_ ?_⟩
      · rintro j τ' O' hj ⟨⟨b, c, d, rfl⟩, rfl, hall'⟩
        refine ⟨Free.of (by decide), ?_⟩
        refine q_set (d_call (s_cons (d_var rfl) (s_cons (d_var rfl) (s_two (d_var rfl) (d_var rfl)))) ⟨n, p, q, i, j, by omega, hi, hj, rfl, rfl⟩) (Free.of (by decide)) ?_
        cases g : goes n p q i j with
        | false =>
          rw [amid_none g]
          refine run_if (b := false) ((b_B (d_notN (d_var rfl))).is rfl) (fun z => nomatch z) fun _ => run_next ⟨⟨_, _, _, rfl⟩, ?_, ?_⟩
          · rw [line_no g]
          · rw [line_no g]
            exact hall'
        | true =>
          obtain ⟨t, et, ht, ht1, ht2⟩ := K57.amid_of g
          rw [et]
          refine run_if (b := true) ((b_B (d_notN (d_var rfl))).is rfl) (fun _ => ?_) (fun z => nomatch z)
          refine q_set (d_call (s_cons (d_var rfl) (s_cons (d_var rfl) (s_two (d_var rfl) (d_var rfl)))) ⟨n, q, p, i, j, by omega, hi, hj, rfl, rfl⟩) (Free.of (by decide)) ?_
          cases g' : goes n q p i j with
          | false =>
            rw [amid_none g']
            refine q_when (b := true) ((b_B (d_isN (d_var rfl))).is rfl) (fun _ => ?_) (fun z => nomatch z)
            intro D G0 H0 σ G H a kn kr
            refine d_tup (s_two d_str (d_tup (s_cons (d_var rfl) (s_two (d_var rfl) (d_var rfl))) (by show 3 ≤ 1000; decide))) (by show 2 ≤ 1000; decide) σ G H a.r.i a.st _ fun v G2 H2 r dv => kr v G2 H2 (a.up r).r (a.up r).w ⟨_, .inr ⟨not_perm hi hj g g', i, t, j, hi, ht, hj, ht1, ht2, g', rfl⟩, dv, fun z => ?_⟩
            rw [not_perm hi hj g g'] at z
            cases z
          | true =>
            obtain ⟨u, eu, hu, _, _⟩ := K57.amid_of g'
            have eh : home n p q i j = u := by
              unfold home
              rw [eu]
              rfl
            rw [eu]
            refine q_when (b := false) ((b_B (d_isN (d_var rfl))).is rfl) (fun z => nomatch z) fun _ => ?_
            refine run_app (d_tup (s_cons (d_var rfl) (s_two (d_var rfl) (d_var rfl))) (by show 3 ≤ 1000; decide)) ?_ ⟨⟨_, _, _, rfl⟩, ?_, ?_⟩
            · rw [List.length_map, List.length_append]
              have h1 := upto_len (n := n) (p := p) (q := q) i
              have h2 := line_len (n := n) (p := p) (q := q) (b := i) (m := j)
              have h3 : i * n ≤ 9 * 9 := Nat.mul_le_mul (by omega) hn
              omega
            · have et : [PyData.tuple [.int (i : Nat), .int (j : Nat), optD (some u)]] = [(i, j)].map (trip n p q) := by
                show _ = [trip n p q (i, j)]
                unfold trip
                simp only [eh]
                rfl
              rw [line_yes g, ← List.append_assoc, et, ← List.map_append]
            · intro x hx
              rw [line_yes g, ← List.append_assoc] at hx
              rcases List.mem_append.mp hx with hx | hx
              · exact hall' x hx
              · rw [List.mem_singleton.mp hx]
                exact g'
      · rintro τ' O' ⟨⟨b, c, d, rfl⟩, rfl, hall'⟩
        rw [← upto_succ] at hall' ⊢
        exact ⟨⟨_, _, _, _, rfl⟩, rfl, hall'⟩
    · rintro τ' O' ⟨⟨a, b, c, d, rfl⟩, rfl, hall⟩
      have hp1 : perm n p q = true := all_upto hall rfl
      refine run_retOwn fun H0 t l ys G' H' h0 ht hl dv => ⟨_, .inl ⟨hp1, rfl⟩, dv, fun _ => ⟨t, l, ys, rfl, ht, hl, h0⟩⟩
end
end K57
/-! ends_led, check_yes, check_no, check_permuted. -/
namespace K57
open PySem PySem.Spec PyProof.Rows L2 Evl
abbrev sLed : Stmt := top 14
abbrev sYes : Stmt := top 15
abbrev sNo : Stmt := top 16
abbrev sChk : Stmt := top 17
def pr2 (x : Nat × Nat) : PyData := .tuple [.int (x.1 : Nat), .int (x.2 : Nat)]
theorem isN_opt (o : Option Nat) : (!isN (optD o)) = o.isSome := by
  cases o <;> rfl
theorem lenN (n : Nat) (p : Nat → Nat) : lenD (tupN n p) = some n := by
  show some (itsN n p).length = some n
  rw [itsN_len]
theorem prs_le {n : Nat} {p q : Nat → Nat} (hn : n ≤ 9) : (prs n p q).length ≤ 81 := by
  have h1 := upto_len (n := n) (p := p) (q := q) n
  have h3 : n * n ≤ 9 * 9 := Nat.mul_le_mul hn hn
  exact Nat.le_trans h1 h3
def pLed : List PyData → PyData → Prop := fun ds d => ∃ (n : Nat) (p q : Nat → Nat), n ≤ 9 ∧ ds = [tupN n p, tupN n q] ∧ d = .list ((prs n p q).map pr2)
def pYes : List PyData → PyData → Prop := fun ds d => ∃ (n : Nat) (p q : Nat → Nat), n ≤ 9 ∧ Par n p ∧ Par n q ∧ perm n p q = true ∧ ds = [tupN n p, tupN n q, .list ((prs n p q).map (trip n p q))] ∧ d = .none
def pNo : List PyData → PyData → Prop := fun ds d => ∃ (n : Nat) (p q : Nat → Nat) (b a e : Nat), n ≤ 9 ∧ b < n ∧ a < n ∧ e < n ∧ p a = p b ∧ q a = q e ∧ goes n q p b e = false ∧ ds = [tupN n p, tupN n q, .tuple [.int (b : Nat), .int (a : Nat), .int (e : Nat)]] ∧ d = .none
theorem shaped2 (i j : Int) : SeqAt.shaped (.tuple [.int i, .int j]) = true := by
  simp [SeqAt.shaped, PyData.canLay0, PyData.canLayAll0, PyData.depth, PyData.depthAll]
theorem eqv2 (i j k l : Int) : PyData.eqv (.tuple [.int i, .int j]) (.tuple [.int k, .int l]) = (decide (i = k) && decide (j = l)) := by
  simp only [PyData.eqv, PyData.eqvAll, Bool.and_true, Bool.beq_eq_decide_eq]
theorem home_of {n : Nat} {p q : Nat → Nat} {b e : Nat} (h : goes n q p b e = true) : home n p q b e < n ∧ q (home n p q b e) = q b ∧ p (home n p q b e) = p e := by
  obtain ⟨t, et, h1, h2, h3⟩ := K57.amid_of h
  unfold home
  rw [et]
  exact ⟨h1, h2, h3⟩
theorem isT_nat {n k : Nat} (h : k < n) : isT (n : Int) (.int (k : Nat)) = true := by
  show (decide ((0 : Int) ≤ (k : Nat)) && decide (((k : Nat) : Int) < (n : Int))) = true
  rw [decide_eq_true (by omega), decide_eq_true (by omega)]
  rfl
theorem row3 {n a b c : Nat} (ha : a < n) (hb : b < n) (hc : c < n) : rowD 3 (n : Int) (.tuple [.int (a : Nat), .int (b : Nat), .int (c : Nat)]) = true := by
  show (decide ((3 : Nat) = 3) && (isT (n : Int) (.int (a : Nat)) && (isT (n : Int) (.int (b : Nat)) && (isT (n : Int) (.int (c : Nat)) && true)))) = true
  rw [isT_nat ha, isT_nat hb, isT_nat hc]
  rfl
theorem arg3 (a b c : Int) : argD (.tuple [.int a, .int b, .int c]) = true := rfl
theorem map_at {α : Type} {l : List α} {f : α → PyData} {k : Nat} {d : PyData} (h : (l.map f)[k]? = some d) : ∃ x, l[k]? = some x ∧ f x = d := by
  rw [List.getElem?_map] at h
  cases e : l[k]? with
  | none =>
    rw [e] at h
    cases h
  | some x =>
    rw [e] at h
    exact ⟨x, rfl, Option.some.inj h⟩
section
variable {P : Program} {w : World} {K : PySem.W.Frag} {mg : Str → Option Value} {base : Heap} {C : Addr}
abbrev cLed (P : Program) (w : World) (K : PySem.W.Frag) (mg : Str → Option Value) (base : Heap) := Cal P w K mg base CX0 2 "ends_led" ["one", "other"] (spP K pLed)
abbrev cYes (P : Program) (w : World) (K : PySem.W.Frag) (mg : Str → Option Value) (base : Heap) := Cal P w K mg base CX0 4 "check_yes" ["one", "other", "told"] (spP K pYes)
abbrev cNo (P : Program) (w : World) (K : PySem.W.Frag) (mg : Str → Option Value) (base : Heap) := Cal P w K mg base CX0 2 "check_no" ["one", "other", "things"] (spP K pNo)
theorem scLed : FnScope ["one", "other", "found", "begin", "ends", "end"] ["one", "other"] (defScope sLed) := ⟨rfl, rfl, rfl, by decide +kernel, rfl, by decide +kernel, by decide +kernel⟩
theorem ok_led {f : Addr} {fd : FuncData} (F : Fun K "ends_led" "ends_led" sLed f fd) (B : Bi mg) (c1 : cAmid P w K mg base) : FnOk P w K mg base CX0 2 f fd ["one", "other"] (spP K pLed) := by
  refine F.ok scLed (fun vs H Q E h => spP_len (by rintro _ _ ⟨n, p, q, _, rfl, _⟩; rfl) h) (fun cdv A outer s H vs Q E hr h => ?_)
  refine body_of (Nm := ["one", "other", "found", "begin", "ends", "end"]) h
    (pss_cons (ps_set (i := 2) scLed.nd rfl (Or.inl rfl) (pe_lst pa_nil))
    (pss_cons (ps_for PassesOwn.never rfl (pi_range1 (by rfl) B.range (pa_cons (pe_callB call_len_seq (by rfl) B.len PySem.boot_len (pa_cons (pv 0) pa_nil)) pa_nil)) (pg_name (i := 3) scLed.nd rfl (Or.inr rfl))
      (pss_cons (ps_setLc (i := 4) (own := [("end", 5)]) (g := gName 5) rfl scLed.nd rfl rfl (sw_true rfl rfl rfl (by decide +kernel))
          (pi_range1 (by rfl) B.range (pa_cons (pe_callB call_len_seq (by rfl) B.len PySem.boot_len (pa_cons (pv 0) pa_nil)) pa_nil))
          (blkOk_by (N := ["one", "other", "found", "begin", "ends", "end"]) (sc := defScope sLed) (by decide +kernel))
          (fun _ _ _ _ _ => pg_name (i := 5) scLed.nd rfl (Or.inl rfl))
          (fun _ _ _ _ _ => pts_one (pt_cmp (pc_notN (pe_cal c1 hr (pa_cons (pv 0) (pa_cons (pv 1) (pa_cons (pv 3) (pa_cons (pv 5) pa_nil))))))))
          (fun _ _ _ _ _ => pv 5))
      (pss_one (ps_expr (pe_bm PySem.F.plainAttrs_list PySem.F.slot_list_extend PySem.F.type_list_extend mt_extend (pv 2)
        (pa_cons (pe_lc (own := [("end", 5)]) (g := gName 5) rfl scLed.nd (pi_list (pv 4)) (blkOk_by (N := ["one", "other", "found", "begin", "ends", "end"]) (sc := defScope sLed) (by decide +kernel))
          (fun _ _ _ _ _ => pg_name (i := 5) scLed.nd rfl (Or.inl rfl)) (fun _ _ _ _ _ => pts_nil) (fun _ _ _ _ _ => pe_tup (pa_cons (pv 3) (pa_cons (pv 5) pa_nil)))) pa_nil))))))
    (pss_one (ps_ret (pv 2))))) ?_
  rintro _ _ ⟨n, p, q, hn, rfl, rfl⟩
  refine q_new (n_lst s_nil (Nat.zero_le _)) rfl ?_
  refine q_forR (n := n) (s_one (d_len (d_var rfl) (lenN n p))) (by omega)
    (fun i τ' O' => (∃ a b c, τ' = [some (tupN n p), some (tupN n q), none, a, b, c]) ∧ O' = some (2, (upto n p q i).map pr2)) ⟨⟨_, _, _, rfl⟩, rfl⟩ ?_ ?_
  · rintro i τ' O' hi ⟨⟨a, b, c, rfl⟩, rfl⟩
    refine ⟨Free.of (by decide), ?_⟩
    refine q_set (n_lcR (n := n) (goes n p q i) (fun e => .int (e : Nat)) (s_one (d_len (d_var rfl) (lenN n p))) (by omega) (by simp) (fun e he => ?_) fun e he _ => d_var rfl).dat (Free.of (by decide)) ?_
    · exact (b_B (d_notN (d_call (s_cons (d_var rfl) (s_cons (d_var rfl) (s_two (d_var rfl) (d_var rfl)))) ⟨n, p, q, i, e, by omega, hi, he, rfl, rfl⟩))).is (isN_opt _)
    · refine run_ext (n_mapL (fun d => .tuple [.int (i : Nat), d]) (d_var rfl) ?_ (by simp) fun d _ => d_tup (s_two (d_var rfl) (d_var rfl)) (by show 2 ≤ 1000; decide)) ?_ ⟨⟨_, _, _, rfl⟩, ?_⟩
      · have := givenD_len n (goes n p q i) (fun e => .int (e : Nat))
        omega
      · have h1 := upto_len (n := n) (p := p) (q := q) i
        have h2 := givenD_len n (goes n p q i) (fun e => .int (e : Nat))
        have h3 : i * n ≤ 9 * 9 := Nat.mul_le_mul (by omega) hn
        rw [List.length_map, List.length_map]
        omega
      · rw [upto_succ, List.map_append]
        congr 2
        unfold givenD line
        rw [List.map_map, List.map_map]
        rfl
  · rintro τ' O' ⟨⟨a, b, c, rfl⟩, rfl⟩
    exact run_own (run_ret (d_var rfl) rfl)
theorem scYes : FnScope ["one", "other", "told", "due", "at", "begin", "end", "home"] ["one", "other", "told"] (defScope sYes) := ⟨rfl, rfl, rfl, by decide +kernel, rfl, by decide +kernel, by decide +kernel⟩
theorem ok_yes {f : Addr} {fd : FuncData} (F : Fun K "check_yes" "check_yes" sYes f fd) (B : Bi mg) (c1 : cLed P w K mg base) (c2 : cRow P w K mg base) : FnOk P w K mg base CX0 4 f fd ["one", "other", "told"] (spP K pYes) := by
  refine F.ok scYes (fun vs H Q E h => spP_len (by rintro _ _ ⟨n, p, q, _, _, _, _, rfl, _⟩; rfl) h) (fun cdv A outer s H vs Q E hr h => ?_)
  have hr2 : Room 2 _ := hr.mono (by decide)
  refine body_of (Nm := ["one", "other", "told", "due", "at", "begin", "end", "home"]) h
    (pss_cons (ps_set (i := 3) scYes.nd rfl (Or.inl rfl) (pe_cal c1 hr2 (pa_cons (pv 0) (pa_cons (pv 1) pa_nil))))
    (pss_cons (ps_for PassesOwn.never rfl (pi_enum (by rfl) B.enum (pa_cons (pv 3) pa_nil))
        (pg_tup rfl (pgs_cons (pg_name (i := 4) scYes.nd rfl (Or.inl rfl)) (pgs_cons (pg_tup rfl (pgs_cons (pg_name (i := 5) scYes.nd rfl (Or.inl rfl)) (pgs_cons (pg_name (i := 6) scYes.nd rfl (Or.inl rfl)) pgs_nil))) pgs_nil)))
      (pss_cons (ps_if (PW.pt (pw_or (pt_cmpR op_eq (pv 4) (pe_callB call_len_seq (by rfl) B.len PySem.boot_len (pa_cons (pv 2) pa_nil)) (nomark _))
          (pw_or (pt_not (pt_val (pe_cal c2 hr (pa_cons (pe_ix (r := rIxL K) ix_list (pv 2) (pv 4) (fun _ _ => rfl)) (pa_cons pe_int (pa_cons (pe_callB call_len_seq (by rfl) B.len PySem.boot_len (pa_cons (pv 0) pa_nil)) pa_nil))))))
          (pw_or1 (pt_cmpR (op_neD hr.units) (pe_slice sl_tupA (pe_ix (r := rIxL K) ix_list (pv 2) (pv 4) (fun _ _ => rfl)) po_none (po_some pe_int)) (pe_tup (pa_cons (pv 5) (pa_cons (pv 6) pa_nil))) (nomark _))))))
        (pss_one ps_never) pss_nil)
      (pss_cons (ps_set (i := 7) scYes.nd rfl (Or.inl rfl) (pe_ix (r := rIxT K) ix_tup (pe_ix (r := rIxL K) ix_list (pv 2) (pv 4) (fun _ _ => rfl)) pe_int (fun _ _ => rfl)))
      (pss_one (ps_if (PW.pt (pw_or (pt_cmpR op_ne (pe_ix (r := rIxT K) ix_tup (pv 1) (pv 7) (fun _ _ => rfl)) (pe_ix (r := rIxT K) ix_tup (pv 1) (pv 5) (fun _ _ => rfl)) (nomark _))
          (pw_or1 (pt_cmpR op_ne (pe_ix (r := rIxT K) ix_tup (pv 0) (pv 7) (fun _ _ => rfl)) (pe_ix (r := rIxT K) ix_tup (pv 0) (pv 6) (fun _ _ => rfl)) (nomark _)))))
        (pss_one ps_never) pss_nil)))))
    (pss_one (ps_if (pt_cmpR op_gt (pe_callB call_len_seq (by rfl) B.len PySem.boot_len (pa_cons (pv 2) pa_nil)) (pe_callB call_len_seq (by rfl) B.len PySem.boot_len (pa_cons (pv 3) pa_nil)) (nomark _)) (pss_one ps_never) pss_nil)))) ?_
  rintro _ _ ⟨n, p, q, hn, hp, hq, hpm, rfl, rfl⟩
  refine q_set (d_call (s_two (d_var rfl) (d_var rfl)) ⟨n, p, q, hn, rfl, rfl⟩) Free.no ?_
  refine run_seq (run_forE (τg := fun τ k d => match d with
      | .tuple [d1, d2] => ((τ.set 4 (some (.int (k : Nat)))).set 5 (some d1)).set 6 (some d2)
      | _ => τ) (s_one (d_var rfl)) ?_
    (fun k τ' O' => (∃ a b c d, τ' = [some (tupN n p), some (tupN n q), some (.list ((prs n p q).map (trip n p q))), some (.list ((prs n p q).map pr2)), a, b, c, d]) ∧ O' = none) ⟨⟨_, _, _, _, rfl⟩, rfl⟩ ?_ fun τ' O' h => h) ?_
  · intro σ τ G0 H0 G H k v d Q' hd a dv kq
    obtain ⟨x, hx, rfl⟩ := map_at hd
    obtain ⟨t, xs, ex, hs, ha⟩ := dv.tupOf
    cases ha with
    | cons e1 e2 =>
      cases e2 with
      | cons e2 e3 =>
        cases e3
        exact ⟨t, _, ex, ex_t a.r.i hs, rfl, _, _, rfl, _, _, rfl, rfl, kq _ (((a.set (.int (k : Int)) Free.no).set e1 Free.no).set e2 Free.no)⟩
  · rintro k d τ' O' hd ⟨⟨a, b, c, e, rfl⟩, rfl⟩
    obtain ⟨x, hx, rfl⟩ := map_at hd
    obtain ⟨h1, h2, h3⟩ := mem_prs.mp (List.mem_of_getElem? hx)
    have g' := perm_iff.mp hpm _ _ h1 h2 h3
    obtain ⟨m1, m2, m3⟩ := home_of g'
    have tk : ((prs n p q).map (trip n p q))[k]? = some (trip n p q x) := by
      rw [List.getElem?_map, hx]
      rfl
    have hk : k < (prs n p q).length := (List.getElem?_eq_some_iff.mp hx).1
    refine ⟨rfl, ?_⟩
    refine q_when (b := false) ((b_or (a := false) ((b_of (d_op (d_var rfl) (d_len (d_var rfl) rfl) rd_eqI)).is ?_) fun _ => b_or (a := false) ((b_not (b_B (d_call (s_cons (d_op (d_var rfl) (d_var rfl) (rd_ixL tk)) (s_two d_int (d_len (d_var rfl) (lenN n p)))) ⟨trip n p q x, 3, n, arg3 _ _ _, rfl, rfl⟩))).is ?_) fun _ =>
      (b_of (d_op ((d_slT (d_op (d_var rfl) (d_var rfl) (rd_ixL tk)) p_none (p_some d_int)).is (d2 := pr2 x) rfl) (d_tup (s_two (d_var rfl) (d_var rfl)) (by show 2 ≤ 1000; decide)) (rd_neD (shaped2 _ _) (shaped2 _ _)))).is ?_).is rfl) (fun z => nomatch z) fun _ => ?_
    · rw [List.length_map]
      exact decide_eq_false (by omega)
    · rw [show rowD 3 (n : Int) (trip n p q x) = true from row3 h1 h2 m1]
      rfl
    · show (!PyData.eqv (.tuple [.int (x.1 : Nat), .int (x.2 : Nat)]) (.tuple [.int (x.1 : Nat), .int (x.2 : Nat)])) = false
      rw [eqv2]
      simp
    · refine q_set (d_op (d_op (d_var rfl) (d_var rfl) (rd_ixL tk)) d_int (rd_ixT (k := 2) rfl)) Free.no ?_
      refine run_if (b := false) ((b_or (a := false) ((b_of (d_op (d_op (d_var rfl) (d_var rfl) (rd_ixT (itsN_at m1))) (d_op (d_var rfl) (d_var rfl) (rd_ixT (itsN_at h1))) rd_neI)).is ?_) fun _ =>
        (b_of (d_op (d_op (d_var rfl) (d_var rfl) (rd_ixT (itsN_at m1))) (d_op (d_var rfl) (d_var rfl) (rd_ixT (itsN_at h2))) rd_neI)).is ?_).is rfl) (fun z => nomatch z) fun _ => run_next ⟨⟨_, _, _, _, rfl⟩, rfl⟩
      · rw [m2]
        simp
      · rw [m3]
        simp
  · rintro τ' O' ⟨⟨a, b, c, e, rfl⟩, rfl⟩
    refine run_if (b := false) ((b_of (d_op (d_len (d_var rfl) rfl) (d_len (d_var rfl) rfl) rd_gt)).is ?_) (fun z => nomatch z) fun _ => run_next rfl
    rw [List.length_map, List.length_map]
    exact decide_eq_false (by omega)
theorem scNo : FnScope ["one", "other", "things", "begin", "amid", "end"] ["one", "other", "things"] (defScope sNo) := ⟨rfl, rfl, rfl, by decide +kernel, rfl, by decide +kernel, by decide +kernel⟩
theorem ok_no {f : Addr} {fd : FuncData} (F : Fun K "check_no" "check_no" sNo f fd) (B : Bi mg) (c1 : cAmid P w K mg base) : FnOk P w K mg base CX0 2 f fd ["one", "other", "things"] (spP K pNo) := by
  refine F.ok scNo (fun vs H Q E h => spP_len (by rintro _ _ ⟨n, p, q, b, a, e, _, _, _, _, _, _, _, rfl, _⟩; rfl) h) (fun cdv A outer s H vs Q E hr h => ?_)
  refine body_of (Nm := ["one", "other", "things", "begin", "amid", "end"]) h
    (pss_cons (ps_asg (pv 2) (pg_tup rfl (pgs_cons (pg_name (i := 3) scNo.nd rfl (Or.inl rfl)) (pgs_cons (pg_name (i := 4) scNo.nd rfl (Or.inl rfl)) (pgs_cons (pg_name (i := 5) scNo.nd rfl (Or.inl rfl)) pgs_nil)))))
    (pss_cons (ps_if (pt_cmpR op_ne (pe_ix (r := rIxT K) ix_tup (pv 0) (pv 3) (fun _ _ => rfl)) (pe_ix (r := rIxT K) ix_tup (pv 0) (pv 4) (fun _ _ => rfl)) (nomark _)) (pss_one ps_never) pss_nil)
    (pss_cons (ps_if (pt_cmpR op_ne (pe_ix (r := rIxT K) ix_tup (pv 1) (pv 4) (fun _ _ => rfl)) (pe_ix (r := rIxT K) ix_tup (pv 1) (pv 5) (fun _ _ => rfl)) (nomark _)) (pss_one ps_never) pss_nil)
    (pss_one (ps_if (pt_cmp (pc_notN (pe_cal c1 hr (pa_cons (pv 1) (pa_cons (pv 0) (pa_cons (pv 3) (pa_cons (pv 5) pa_nil))))))) (pss_one ps_never) pss_nil))))) ?_
  rintro _ _ ⟨n, p, q, b, a, e, hn, hb, ha, he, h1, h2, hg, rfl, rfl⟩
  refine q_unp3 (d_var rfl) ?_
  refine q_when (b := false) ((b_of (d_op (d_op (d_var rfl) (d_var rfl) (rd_ixT (itsN_at hb))) (d_op (d_var rfl) (d_var rfl) (rd_ixT (itsN_at ha))) rd_neI)).is ?_) (fun z => nomatch z) fun _ => ?_
  · rw [h1]
    simp
  refine q_when (b := false) ((b_of (d_op (d_op (d_var rfl) (d_var rfl) (rd_ixT (itsN_at ha))) (d_op (d_var rfl) (d_var rfl) (rd_ixT (itsN_at he))) rd_neI)).is ?_) (fun z => nomatch z) fun _ => ?_
  · rw [h2]
    simp
  refine run_if (b := false) ((b_B (d_notN (d_call (s_cons (d_var rfl) (s_cons (d_var rfl) (s_two (d_var rfl) (d_var rfl)))) ⟨n, q, p, b, e, by omega, hb, he, rfl, rfl⟩))).is ?_) (fun z => nomatch z) fun _ => run_next rfl
  rw [amid_none hg]
  rfl
/-! check_permuted -/
def badThree : List PyData → Prop := fun ds => ∃ x y z, argD x = true ∧ argD y = true ∧ ds = [x, y, z] ∧ okB x y = false
def pChk : List PyData → PyData → Prop := fun ds d => ∃ (n : Nat) (p q : Nat → Nat) (x : PyData), n ≤ 9 ∧ Par n p ∧ Par n q ∧ resD n p q x ∧ ds = [tupN n p, tupN n q, x] ∧ d = .none
theorem chk_body {X : Cx} {body : List Stmt} {tr : TS} {vs : List V} {H : Hp} {Q : VK} {E : XK} (h : spX K C pChk badThree vs H Q E) (hd : PSs X body (tSeq (tDrop (tCall (spX K C pTwo badTwo) [] E (tCons (tVar 0) (tCons (tVar 1) tNil)))) tr))
    (hR : ∀ (n : Nat) (p q : Nat → Nat) (x : PyData), n ≤ 9 → Par n p → Par n q → resD n p q x → Run K none tr [some (tupN n p), some (tupN n q), some x] none (fun _ _ => True) (fun _ _ _ _ => False)) :
    ∃ t, PSs X body t ∧ t { nx := fun _ H' => Q .non H', rt := Q } (L2.start ["one", "other", "answer"] vs) H := by
  refine ⟨_, hd, ?_⟩
  obtain ⟨G, ds, e, da, h⟩ := h
  have a0 := at_start (Nm := ["one", "other", "answer"]) e da
  rcases h with ⟨bad, k⟩ | ⟨d, ⟨n, p, q, x, hn, hp, hq, hx, rfl, rfl⟩, k⟩
  · obtain ⟨x, y, z, hx, hy, rfl, hb⟩ := bad
    have ev : EvS K (tCons (tVar 0) (tCons (tVar 1) tNil)) (begin_ 3 [x, y, z]) [x, y] := s_two (d_var rfl) (d_var rfl)
    show tCons (tVar 0) (tCons (tVar 1) tNil) _ H (fun ws H1 => spX K C pTwo badTwo (ws ++ []) H1 _ E)
    refine ev _ G H e a0.st _ fun ws G1 H1 r1 dw => ?_
    exact ⟨G1, [x, y], r1.i, by rw [List.append_nil]; exact dw, .inl ⟨⟨x, y, hx, hy, rfl, hb⟩, fun d H2 e2 hd2 => k d H2 (r1.ex.trans e2) hd2⟩⟩
  · have ev : EvS K (tCons (tVar 0) (tCons (tVar 1) tNil)) (begin_ 3 [tupN n p, tupN n q, x]) [tupN n p, tupN n q] := s_two (d_var rfl) (d_var rfl)
    show tCons (tVar 0) (tCons (tVar 1) tNil) _ H (fun ws H1 => spX K C pTwo badTwo (ws ++ []) H1 _ E)
    refine ev _ G H e a0.st _ fun ws G1 H1 r1 dw => ?_
    refine ⟨G1, _, r1.i, by rw [List.append_nil]; exact dw, .inr ⟨.none, ⟨_, _, argN (by omega), argN (by omega), rfl, okN hp hq, rfl⟩, fun v G2 H2 r2 _ => ?_⟩⟩
    have a2 := (a0.up r1).up r2
    refine hR n p q x hn hp hq hx _ G H _ G2 H2 a2 (fun τ' O' σ' G' H' _ _ a' => k _ _ _ a'.r .non) fun _ _ _ _ _ z => z.elim
theorem scChk : FnScope ["one", "other", "answer"] ["one", "other", "answer"] (defScope sChk) := ⟨rfl, rfl, rfl, by decide +kernel, rfl, by decide +kernel, by decide +kernel⟩
theorem ok_chk {f : Addr} {fd : FuncData} (F : Fun K "check_permuted" "check_permuted" sChk f fd) (B : Bi mg) (c1 : Cal P w K mg base (L2.CX P w) 5 "check_two" ["one", "other"] (spX K C pTwo badTwo)) (c2 : cYes P w K mg base) (c3 : cNo P w K mg base) (c4 : cRow P w K mg base) : FnOk P w K mg base (L2.CX P w) 6 f fd ["one", "other", "answer"] (spX K C pChk badThree) := by
  refine F.okX scChk (fun vs H Q E h => ?_) (fun cdv A outer s H vs Q E hr h => ?_)
  · obtain ⟨G, ds, _, da, h⟩ := h
    rw [da.len]
    rcases h with ⟨⟨x, y, z, _, _, rfl, _⟩, _⟩ | ⟨d, ⟨n, p, q, x, _, _, _, _, rfl, _⟩, _⟩ <;> rfl
  · obtain ⟨f1, fd1, g1, k1, b1, F1⟩ := c1.ex
    have hr2 : Room 2 _ := hr.mono (by decide)
    have hr3 : Room 3 _ := hr.mono (by decide)
    have hr4 : Room 4 _ := hr.mono (by decide)
    refine chk_body h (pss_cons (ps_expr (pe_call F1 hr (by rfl) g1 k1 b1 .nil (passes_call (takes_of rfl rfl rfl rfl) fun _ _ _ _ z => z) (pa_cons (pv 0) (pa_cons (pv 1) pa_nil))))
      (PSs.nox
        (pss_cons (ps_if (PW.pt (pw_or (pt_not (pt_val (pe_callB call_isi (by rfl) B.isi (by decide +kernel) (pa_cons (pv 2) (pa_cons (pe_bltn (v := .ty "tuple") (by rfl) B.tuple boot_tuple rfl) pa_nil)))))
            (pw_or1 (pt_cmpR op_ne (pe_callB call_len_seq (by rfl) B.len PySem.boot_len (pa_cons (pv 2) pa_nil)) pe_int (nomark _))))) (pss_one ps_never) pss_nil)
        (pss_one (ps_if (PW.pt (pw_and (pt_cmpR op_eq (pe_ix (r := rIxT K) ix_tup (pv 2) pe_int (fun _ _ => rfl)) pe_str (nomark _))
            (pw_and1 (pt_val (pe_callB call_isi (by rfl) B.isi (by decide +kernel) (pa_cons (pe_ix (r := rIxT K) ix_tup (pv 2) pe_int (fun _ _ => rfl)) (pa_cons (pe_bltn (v := .ty "list") (by rfl) B.list boot_list rfl) pa_nil)))))))
          (pss_one (ps_expr (pe_cal c2 hr4 (pa_cons (pv 0) (pa_cons (pv 1) (pa_cons (pe_ix (r := rIxT K) ix_tup (pv 2) pe_int (fun _ _ => rfl)) pa_nil))))))
          (pss_one (ps_if (PW.pt (pw_and (pt_cmpR op_eq (pe_ix (r := rIxT K) ix_tup (pv 2) pe_int (fun _ _ => rfl)) pe_str (nomark _))
              (pw_and1 (pt_val (pe_cal c4 hr3 (pa_cons (pe_ix (r := rIxT K) ix_tup (pv 2) pe_int (fun _ _ => rfl)) (pa_cons pe_int (pa_cons (pe_callB call_len_seq (by rfl) B.len PySem.boot_len (pa_cons (pv 0) pa_nil)) pa_nil))))))))
            (pss_one (ps_expr (pe_cal c3 hr2 (pa_cons (pv 0) (pa_cons (pv 1) (pa_cons (pe_ix (r := rIxT K) ix_tup (pv 2) pe_int (fun _ _ => rfl)) pa_nil))))))
            (pss_one ps_never)))))))) ?_
    intro n p q x hn hp hq hx
    have h2 : ∃ a b : PyData, x = .tuple [a, b] := by
      rcases hx with ⟨_, rfl⟩ | ⟨_, b, a, e, _, _, _, _, _, _, rfl⟩ <;> exact ⟨_, _, rfl⟩
    refine q_when (b := false) ((b_or (a := false) (b_not (b_B (d_isi (d_var rfl) (b := true) ?_))) fun _ => (b_of (d_op (d_len (d_var rfl) (n := 2) ?_) d_int rd_neI)).is (a := !decide ((2 : Int) = 2)) (b := false) (by decide)).is rfl) (fun z => nomatch z) fun _ => ?_
    · obtain ⟨a, b, rfl⟩ := h2
      exact k_tup_tup
    · obtain ⟨a, b, rfl⟩ := h2
      rfl
    rcases hx with ⟨hpm, rfl⟩ | ⟨hpm, b, a, e, hb, ha, he, g1, g2', g3', rfl⟩
    · refine run_if (b := true) ((b_and (a := true) ((b_of (d_op (d_op (d_var rfl) d_int (rd_ixT (k := 0) rfl)) d_str rd_eqS)).is (by decide)) fun _ => b_B (d_isi (d_op (d_var rfl) d_int (rd_ixT (k := 1) rfl)) (by exact k_lst_lst))).is rfl) (fun _ => ?_) fun z => nomatch z
      exact run_drop (d_call (s_cons (d_var rfl) (s_two (d_var rfl) (d_op (d_var rfl) d_int (rd_ixT (k := 1) rfl)))) ⟨n, p, q, hn, hp, hq, hpm, rfl, rfl⟩) trivial
    · refine run_if (b := false) ((b_and (a := false) (b := false) ((b_of (d_op (d_op (d_var rfl) d_int (rd_ixT (k := 0) rfl)) d_str rd_eqS)).is (by decide)) fun z => nomatch z).is rfl) (fun z => nomatch z) fun _ => ?_
      refine run_if (b := true) ((b_and (a := true) ((b_of (d_op (d_op (d_var rfl) d_int (rd_ixT (k := 0) rfl)) d_str rd_eqS)).is (by decide)) fun _ => (b_B (d_call (s_cons (d_op (d_var rfl) d_int (rd_ixT (k := 1) rfl)) (s_two d_int (d_len (d_var rfl) (lenN n p)))) ⟨_, 3, n, arg3 _ _ _, rfl, rfl⟩)).is (row3 hb ha he)).is rfl) (fun _ => ?_) fun z => nomatch z
      exact run_drop (d_call (s_cons (d_var rfl) (s_two (d_var rfl) (d_op (d_var rfl) d_int (rd_ixT (k := 1) rfl)))) ⟨n, p, q, b, a, e, hn, hb, ha, he, g1, g2', g3', rfl, rfl⟩) trivial
end
end K57
/-! The law's draws and marks. -/
namespace K57
open PySem PySem.Spec PyProof.Rows L2 Evl
abbrev sDraw : Stmt := top 19
abbrev sMarks : Stmt := top 20
/-- a draw: some number below many; the well holds other numbers -/
def spDraw (K : PySem.W.Frag) : Sp := fun vs H Q _ => ∃ (a : Addr) (m x y z : Int), vs = [.ref a, .int m] ∧ 0 < m ∧ m ≤ 1000 ∧ H a = some (.lst [.int x, .int y, .int z]) ∧
  ∀ r x' z', 0 ≤ r → r < m → Q (.int r) (upd H a (.lst [.int x', .int y, .int z']))
def pMarks : List PyData → PyData → Prop := fun ds d => ∃ ms : List Int, ms.length ≤ 20 ∧ ds = [.list (ms.map .int)] ∧ d = tupN ms.length (ofMarks ms)
section
variable {P : Program} {w : World} {K : PySem.W.Frag} {mg : Str → Option Value} {base : Heap}
abbrev cDraw (P : Program) (w : World) (K : PySem.W.Frag) (mg : Str → Option Value) (base : Heap) := Cal P w K mg base CX0 1 "_law_draw" ["_law_well", "_law_many"] (spDraw K)
abbrev cMarks (P : Program) (w : World) (K : PySem.W.Frag) (mg : Str → Option Value) (base : Heap) := Cal P w K mg base CX0 1 "_law_of_marks" ["_law_marks"] (spP K pMarks)
theorem ix_raw {σ : L2.St} {H : Hp} {i : Nat} {a : Addr} {xs : List V} {v : V} {Q : VK} (k : Nat) (hs : σ[i]? = some (some (.ref a))) (h : H a = some (.lst xs)) (hk : xs[k]? = some v) (q : Q v H) : tOp (rIxL K) (tVar i) (tC (.int (k : Nat))) σ H Q :=
  ⟨_, hs, a, xs, k, v, rfl, rfl, SqL.of h, atI_nat hk, q⟩
theorem scDraw : FnScope ["_law_well", "_law_many", "_law_found", "_law_number"] ["_law_well", "_law_many"] (defScope sDraw) := ⟨rfl, rfl, rfl, by decide +kernel, rfl, by decide +kernel, by decide +kernel⟩
theorem ok_draw {f : Addr} {fd : FuncData} (F : Fun K "_law_draw" "_law_draw" sDraw f fd) : FnOk P w K mg base CX0 1 f fd ["_law_well", "_law_many"] (spDraw K) := by
  refine F.ok scDraw (fun vs H Q E h => by obtain ⟨a, m, x, y, z, rfl, _⟩ := h; rfl) (fun cdv A outer s H vs Q E hr h => ?_)
  obtain ⟨a, m, x, y, z, rfl, hm, hm2, ha, k⟩ := h
  have c1 : CDiv x m := ⟨hm, by omega⟩
  refine ⟨_, pss_cons (ps_if (pt_cmpR op_gt (pe_ix (r := rIxL K) ix_list (pv 0) pe_int (fun _ _ => rfl)) pe_int (nomark _))
        (pss_cons (ps_set (i := 2) scDraw.nd rfl (Or.inl rfl) (pe_op op_mod (pe_ix (r := rIxL K) ix_list (pv 0) pe_int (fun _ _ => rfl)) (pv 1)))
        (pss_cons (ps_asg (pe_op op_fdiv (pe_ix (r := rIxL K) ix_list (pv 0) pe_int (fun _ _ => rfl)) (pv 1)) (pg_sub (pv 0) pe_int set_list))
        (pss_one (ps_ret (pv 2))))) pss_nil)
    (pss_cons (ps_asg (pe_op op_add (pe_ix (r := rIxL K) ix_list (pv 0) pe_int (fun _ _ => rfl)) pe_int) (pg_sub (pv 0) pe_int set_list))
    (pss_cons (ps_set (i := 3) scDraw.nd rfl (Or.inl rfl) (pe_op op_mod (pe_op op_mul (pe_op op_add (pe_op op_add (pe_ix (r := rIxL K) ix_list (pv 0) pe_int (fun _ _ => rfl)) (pe_op op_mul pe_int (pe_ix (r := rIxL K) ix_list (pv 0) pe_int (fun _ _ => rfl)))) pe_int) pe_int) pe_int))
    (pss_cons (ps_set (i := 3) scDraw.nd rfl (Or.inl rfl) (pe_op op_mod (pe_op op_mul (pv 3) (pe_op op_add (pe_op op_fdiv (pv 3) pe_int) pe_int)) pe_int))
    (pss_one (ps_ret (pe_op op_mod (pe_op op_mod (pe_op op_mul (pv 3) (pe_op op_add (pe_op op_fdiv (pv 3) pe_int) pe_int)) pe_int) (pv 1))))))), ?_⟩
  refine ix_raw 0 rfl ha rfl ⟨_, _, rfl, rfl, _, rfl, ite2 (fun _ => ?_) fun _ => ?_⟩
  · refine ix_raw 0 rfl ha rfl ⟨_, rfl, _, _, rfl, rfl, hm, ?_⟩
    refine ix_raw 0 rfl ha rfl ⟨_, rfl, _, _, rfl, rfl, c1, _, rfl, a, _, 0, 0, rfl, rfl, ha, rfl, _, rfl, ?_⟩
    exact k _ _ _ (Int.emod_nonneg _ (by omega)) (Int.emod_lt_of_pos _ hm)
  · refine ix_raw 2 rfl ha rfl ⟨_, _, rfl, rfl, _, rfl, a, _, 2, 2, rfl, rfl, ha, rfl, ?_⟩
    refine ix_raw 1 rfl upd_same rfl (ix_raw 2 rfl upd_same rfl ⟨_, _, rfl, rfl, .inl ⟨by decide, by decide⟩, _, _, rfl, rfl, _, _, rfl, rfl, _, _, rfl, rfl, .inr ⟨by decide, by decide⟩, _, _, rfl, rfl, (by decide : (0 : Int) < 2147483647), ?_⟩)
    generalize hn : ((y + 7907 * (z + 1) + 3) * 48271 % 2147483647 : Int) = n1
    have n0 : 0 ≤ n1 := by rw [← hn]; exact Int.emod_nonneg _ (by decide)
    have n2 : n1 < 2147483647 := by rw [← hn]; exact Int.emod_lt_of_pos _ (by decide)
    refine ⟨_, rfl, _, rfl, _, _, rfl, rfl, ⟨by decide, by decide⟩, _, _, rfl, rfl, _, _, rfl, rfl, .inl ⟨by omega, by omega⟩, _, _, rfl, rfl, (by decide : (0 : Int) < 2147483647), ?_⟩
    generalize hn' : (n1 * (n1 / 1013 + 69621) % 2147483647 : Int) = n3
    have n4 : 0 ≤ n3 := by rw [← hn']; exact Int.emod_nonneg _ (by decide)
    have n5 : n3 < 2147483647 := by rw [← hn']; exact Int.emod_lt_of_pos _ (by decide)
    refine ⟨_, rfl, _, rfl, _, _, rfl, rfl, ⟨by decide, by decide⟩, _, _, rfl, rfl, _, _, rfl, rfl, .inl ⟨by omega, by omega⟩, _, _, rfl, rfl, (by decide : (0 : Int) < 2147483399), _, rfl, _, _, rfl, rfl, hm, ?_⟩
    exact k _ _ _ (Int.emod_nonneg _ (by omega)) (Int.emod_lt_of_pos _ hm)
theorem pe_bmK {X : Cx} (K : PySem.W.Frag) {T : String} {r : V → List V → Hp → VK → Prop} {e : Expr} {to : TE} {t : TA} (hK : X.K = K) (h : PE X e (tBM X.K T r to t)) : PE X e (tBM K T r to t) := by
  subst hK
  exact h
theorem scMarks : FnScope ["_law_marks", "_law_mark"] ["_law_marks"] (defScope sMarks) := ⟨rfl, rfl, rfl, by decide +kernel, rfl, by decide +kernel, by decide +kernel⟩
theorem ok_marks {f : Addr} {fd : FuncData} (F : Fun K "_law_of_marks" "_law_of_marks" sMarks f fd) (B : Bi mg) : FnOk P w K mg base CX0 1 f fd ["_law_marks"] (spP K pMarks) := by
  refine F.ok scMarks (fun vs H Q E h => spP_len (by rintro _ _ ⟨ms, _, rfl, _⟩; rfl) h) (fun cdv A outer s H vs Q E hr h => ?_)
  refine body_of (Nm := ["_law_marks", "_law_mark"]) h (pss_one (ps_ret (pe_tupleOf (by rfl) B.tuple (pe_lc (own := [("_law_mark", 1)]) (g := gName 1) rfl scMarks.nd (pi_list (pv 0)) (blkOk_by (N := ["_law_marks", "_law_mark"]) (sc := defScope sMarks) (by decide +kernel))
    (fun _ _ _ _ _ => pg_name (i := 1) scMarks.nd rfl (Or.inl rfl)) (fun _ _ _ _ _ => pts_nil)
    (fun _ _ _ _ _ => pe_bmK K rfl (pe_bm (r := rIndex K) PySem.F.plainAttrs_list PySem.F.slot_list_index PySem.F.type_list_index mt_index (pv 0) (pa_cons (pv 1) pa_nil))))))) ?_
  rintro _ _ ⟨ms, hz, rfl, rfl⟩
  refine run_ret (d_tupleOf ((n_mapL (fun d => match d with
    | .int v => .int (firstAt ms v : Nat)
    | _ => .none) (d_var rfl) (by rw [List.length_map]; omega) (by simp) fun d hd => ?_).dat.is (d2 := .list (itsN ms.length (ofMarks ms))) ?_)) rfl
  · obtain ⟨v, hv, rfl⟩ := List.mem_map.mp hd
    obtain ⟨k, hk⟩ := List.mem_iff_getElem?.mp hv
    exact d_index (d_var rfl) (d_var rfl) hk
  · congr 1
    refine List.ext_getElem? fun k => ?_
    by_cases hk : k < ms.length
    · have e : ms[k]? = some ms[k] := List.getElem?_eq_getElem hk
      rw [itsN_at hk, List.getElem?_map, List.getElem?_map, e, ofMarks_at e]
      rfl
    · rw [List.getElem?_eq_none (by rw [List.length_map, List.length_map]; omega), List.getElem?_eq_none (by rw [itsN_len]; omega)]
end
end K57
/-! Readings that draw from the well; _law_two. -/
namespace K57
open PySem PySem.Spec PyProof.Rows L2 Evl
section
variable {K : PySem.W.Frag} {a : Addr}
/-- the well is at a, told by slot 0, and stands outside what is known -/
structure WA (a : Addr) (σ : L2.St) (G H : Hp) : Prop where
  sl : σ[0]? = some (some (.ref a))
  g : G a = none
  h : ∃ x y z : Int, H a = some (.lst [.int x, .int y, .int z])
theorem WA.ne {σ : L2.St} {G H : Hp} (w : WA a σ G H) : H a ≠ none := by
  obtain ⟨x, y, z, h⟩ := w.h
  rw [h]
  exact fun q => nomatch q
theorem WA.ok {σ : L2.St} {G H : Hp} (w : WA a σ G H) : WellOk (some a) G H := fun b e => by
  cases e
  exact ⟨w.g, w.h⟩
theorem WA.up {σ : L2.St} {G H G2 H2 : Hp} (w : WA a σ G H) (r : Gr G H G2 H2) : WA a σ G2 H2 :=
  ⟨w.sl, r.s a w.ne w.g, by obtain ⟨x, y, z, h⟩ := w.h; exact ⟨x, y, z, r.ex a _ h⟩⟩
theorem WA.st {σ σ' : L2.St} {G H : Hp} (w : WA a σ G H) (e : σ'[0]? = σ[0]?) : WA a σ' G H := ⟨e.trans w.sl, w.g, w.h⟩
theorem WA.tr {G H G2 H2 G3 H3 : Hp} {σ : L2.St} (r : GrW (some a) G H G2 H2) (w : WA a σ G2 H2) (r2 : GrW (some a) G2 H2 G3 H3) : GrW (some a) G H G3 H3 :=
  r.trans (fun b e => by cases e; exact w.ne) r2
def EvG (K : PySem.W.Frag) (a : Addr) (te : TE) (τ : List (Option PyData)) (P : PyData → Prop) : Prop := ∀ σ G H, Ex G H → WA a σ G H → StD K G σ τ → ∀ Q : VK,
  (∀ d v G2 H2, P d → GrW (some a) G H G2 H2 → WA a σ G2 H2 → Dp K G2 v d → Q v H2) → te σ H Q
def EvGs (K : PySem.W.Frag) (a : Addr) (ta : TA) (τ : List (Option PyData)) (P : List PyData → Prop) : Prop := ∀ σ G H, Ex G H → WA a σ G H → StD K G σ τ → ∀ Q : List V → Hp → Prop,
  (∀ ds vs G2 H2, P ds → GrW (some a) G H G2 H2 → WA a σ G2 H2 → DpAll K G2 vs ds → Q vs H2) → ta σ H Q
variable {τ : List (Option PyData)} {te ta tb : TE} {d : PyData} {P P1 P2 : PyData → Prop}
theorem g_pure (h : EvD K te τ d) : EvG K a te τ (fun x => x = d) := fun σ G H e w s Q q => h σ G H e s Q fun v G2 H2 r dv => q d v G2 H2 rfl r.toW (w.up r) dv
theorem g_op {r : R2} (h1 : EvG K a ta τ P1) (h2 : EvG K a tb τ P2) (hr : ∀ d1 d2, P1 d1 → P2 d2 → ∃ d, P d ∧ RD K r d1 d2 d) : EvG K a (tOp r ta tb) τ P := fun σ G H e w s Q q =>
  h1 σ G H e w s _ fun d1 x G1 H1 p1 r1 w1 dx => h2 σ G1 H1 r1.i w1 (s.up r1.g) _ fun d2 y G2 H2 p2 r2 w2 dy => by
    obtain ⟨d, pd, rd⟩ := hr d1 d2 p1 p2
    exact rd G2 H2 x y r2.i (dx.up r2.g) dy Q fun v G3 H3 r3 dv => q d v G3 H3 pd (WA.tr (WA.tr r1 w1 r2) w2 r3.toW) (w2.up r3) dv
theorem gs_nil : EvGs K a tNil τ (fun x => x = []) := fun σ G H e w s Q q => q [] [] G H rfl (GrW.refl e) w .nil
theorem gs_cons {tr : TA} {Ps : List PyData → Prop} (h : EvG K a ta τ P) (hr : EvGs K a tr τ Ps) : EvGs K a (tCons ta tr) τ (fun x => ∃ d ds, P d ∧ Ps ds ∧ x = d :: ds) := fun σ G H e w s Q q =>
  h σ G H e w s _ fun d x G1 H1 p1 r1 w1 dx => hr σ G1 H1 r1.i w1 (s.up r1.g) _ fun ds xs G2 H2 p2 r2 w2 dxs => q _ _ G2 H2 ⟨d, ds, p1, p2, rfl⟩ (WA.tr r1 w1 r2) w2 (.cons (dx.up r2.g) dxs)
theorem g_lst {t : TA} {Ps : List PyData → Prop} (h : EvGs K a t τ Ps) (hz : ∀ ds, Ps ds → ds.length ≤ 1000) : EvG K a (tLst t) τ (fun x => ∃ ds, Ps ds ∧ x = .list ds) := fun σ G H e w s Q q =>
  h σ G H e w s _ fun ds xs G1 H1 p1 r1 w1 da => ⟨sz_of (by have := hz ds p1; rw [da.len]; omega), fun p hp => by
    have g := Gr.new (o := .lst xs) r1.i hp
    exact q _ _ _ _ ⟨ds, p1, rfl⟩ (WA.tr r1 w1 g.toW) (w1.up g) (.lst (.inl (.inl upd_same)) (da.up g.g))⟩
theorem g_int {r' : List V → Hp → VK → Prop} (h : EvG K a te τ (fun x => ∃ b, x = .bool b)) (hr : ∀ k H Q, Q (.int (if k then 1 else 0)) H → r' [.bl k] H Q) : EvG K a (tCB r' (tCons te tNil)) τ (fun x => ∃ k : Nat, k ≤ 1 ∧ x = .int (k : Nat)) := fun σ G H e w s Q q =>
  h σ G H e w s _ fun d v G2 H2 p r w2 dv => by
    obtain ⟨b, rfl⟩ := p
    rw [dv.boolOf]
    refine hr b H2 Q ?_
    cases b with
    | true => exact q _ _ G2 H2 ⟨1, by omega, rfl⟩ r w2 (.int _)
    | false => exact q _ _ G2 H2 ⟨0, by omega, rfl⟩ r w2 (.int _)
/-- the well holds something else -/
theorem well_set {σ : L2.St} {G H : Hp} {x y z : Int} (e : Ex G H) (w : WA a σ G H) : GrW (some a) G H G (upd H a (.lst [.int x, .int y, .int z])) ∧ WA a σ G (upd H a (.lst [.int x, .int y, .int z])) :=
  ⟨⟨Ex.refl G, Ex.mut e w.g, fun b o n h => by rw [upd_ne (fun q => n (by rw [q]))]; exact h, fun _ _ n => n⟩, ⟨w.sl, w.g, x, y, z, upd_same⟩⟩
theorem g_draw {m : Int} (h : EvD K te τ (.int m)) (h0 : 0 < m) (h1 : m ≤ 1000) : EvG K a (tCall (spDraw K) [] E0 (tCons (tVar 0) (tCons te tNil))) τ (fun x => ∃ r : Nat, (r : Int) < m ∧ x = .int (r : Nat)) := fun σ G H e w s Q q => by
  refine ⟨_, w.sl, h σ G H e s _ fun v G2 H2 r dv => ?_⟩
  have w2 := w.up r
  obtain ⟨x, y, z, hw⟩ := w2.h
  refine ⟨a, m, x, y, z, by rw [dv.intOf]; rfl, h0, h1, hw, fun k x' z' k0 k1 => ?_⟩
  obtain ⟨rs, ws⟩ := well_set (x := x') (y := y) (z := z') r.i w2
  obtain ⟨k', rfl⟩ : ∃ k' : Nat, k = (k' : Int) := ⟨k.toNat, by omega⟩
  exact q _ _ G2 _ ⟨k', k1, rfl⟩ (WA.tr r.toW w2 rs) ws (.int _)
/-- [e for j in range(n)], e an int that draws -/
theorem g_lcR {tn : TA} {j n : Nat} {vs : List Nat} (h : EvS K tn τ [.int (n : Nat)]) (hn : n ≤ 40000) (hj : j ∈ vs) (h0 : ∀ k ∈ vs, k ≠ 0)
    (he : ∀ i : Nat, i < n → EvG K a te ((wipeD τ vs).set j (some (.int (i : Nat)))) (fun x => ∃ k : Int, x = .int k)) : EvG K a (tLc (iRng1 tn) (gName j) tYes te vs) τ (fun x => ∃ ns : List Int, ns.length = n ∧ x = .list (ns.map .int)) := fun σ G H e w s Q q => by
  refine h σ G H e s _ fun xs G1 H1 r1 da => ?_
  have ex : xs = [V.int (n : Nat)] := DpAll.ints (ns := [((n : Nat) : Int)]) da
  have w1 := w.up r1
  have wp : ∀ (us : List Nat) (σ : L2.St), (∀ k ∈ us, k ≠ 0) → (L2.wipe σ us)[0]? = σ[0]? := by
    intro us
    induction us with
    | nil => intro σ _; rfl
    | cons u us ih =>
      intro σ hu
      show ((L2.wipe σ us).set u none)[0]? = σ[0]?
      rw [List.getElem?_set_ne (hu u List.mem_cons_self)]
      exact ih σ fun k hk => hu k (List.mem_cons_of_mem _ hk)
  refine ⟨(n : Nat), ex, by omega, by omega, fun D hD => ?_⟩
  have aD : a ≠ D := fun z => w1.ne (by rw [z]; exact hD)
  refine lc_range (lo := 0) (n := ((n : Nat) : Int).toNat) (fun i H' => ∃ (acc : List Int) (G' : Hp), acc.length = i ∧ GrW (some a) G1 H1 G' H' ∧ WA a σ G' H' ∧ G' D = none ∧ H' D = some (.lst (acc.map V.int))) ?_ (fun i H' hi p => ?_) fun H' p => ?_
  · have rh := Gr.hid (o := .lst []) r1.i hD
    exact ⟨[], G1, rfl, rh.toW, w1.up rh, ex_free r1.i hD, upd_same⟩
  · obtain ⟨acc, G', hl, r, w', gD, hd⟩ := p
    have e0 : (0 : Int) + (i : Int) = (i : Int) := Int.zero_add _
    show L2.wipe ((L2.wipe σ vs).set j (some (.int ((0 : Int) + (i : Int))))) vs = L2.wipe σ vs ∧ te ((L2.wipe σ vs).set j (some (.int ((0 : Int) + (i : Int))))) H' _
    rw [e0]
    have ws : WA a ((L2.wipe σ vs).set j (some (.int (i : Int)))) G' H' := w'.st (by rw [List.getElem?_set_ne (h0 j hj), wp vs σ h0])
    refine ⟨wipe_back hj, he i (by omega) _ G' H' r.i ws (((s.up (r1.g.trans r.g)).wipe vs).set (.int (i : Int)) j) _ fun d v G2 H2 p2 r2 w2 dv => ?_⟩
    obtain ⟨k, rfl⟩ := p2
    have gD2 : G2 D = none := r2.s D (by rw [hd]; exact fun z => nomatch z) gD
    have hd2 : H2 D = some (.lst (acc.map V.int)) := r2.h D _ (fun z => aD (Option.some.inj z)) hd
    refine ⟨acc.map V.int, hd2, sz_lt (by rw [List.length_map]; omega), acc ++ [k], G2, by rw [List.length_append, hl]; rfl, ?_, ?_, gD2, ?_⟩
    · have rr := WA.tr r w' r2
      exact ⟨rr.g, Ex.mut rr.i gD2, fun b o n' h' => by rw [upd_ne (ne_of_none h' hD)]; exact rr.h b o n' h', rr.s⟩
    · obtain ⟨x, y, z, hw⟩ := w2.h
      exact ⟨w.sl, w2.g, x, y, z, by rw [upd_ne aD]; exact hw⟩
    · rw [dv.intOf, List.map_append, upd_same]
      rfl
  · rw [Int.toNat_natCast] at p
    obtain ⟨acc, G', hl, r, w', gD, hd⟩ := p
    obtain ⟨k1, k2⟩ := own_known r.i gD hd
    have rr := WA.tr r1.toW w1 r
    have hD0 : H D = none := ex_free r1.ex hD
    refine q (.list (acc.map .int)) (.ref D) (upd G' D (.lst (acc.map V.int))) H' ⟨acc, hl, rfl⟩ ⟨rr.g.trans k2, k1, rr.h, fun b hb n' => ?_⟩ ⟨w.sl, by rw [upd_ne aD]; exact w'.g, w'.h⟩ (.lst (.inl (.inl upd_same)) (dpa_ofInts _))
    rw [upd_ne (fun z => hb (by rw [z]; exact hD0))]
    exact rr.s b hb n'

/-! ### statements while the well is in use -/
def RunW (K : PySem.W.Frag) (a : Addr) (t : TS) (τ : List (Option PyData)) (N : List (Option PyData) → Own → Prop) (R : Pst) : Prop :=
  ∀ (D : Ends) (G0 H0 : Hp) (σ : L2.St) (G H : Hp), At K (some a) G0 H0 τ none σ G H → σ[0]? = some (some (.ref a)) → (∀ τ' O' σ' G' H', N τ' O' → Ex G G' → At K (some a) G0 H0 τ' O' σ' G' H' → D.nx σ' H') →
    (∀ v G' H', GrW (some a) G0 H0 G' H' → WellOk (some a) G' H' → R H0 v G' H' → D.rt v H') → t D σ H
variable {t u : TS} {N : List (Option PyData) → Own → Prop} {R : Pst} {i : Nat}
theorem rw_run (k : Run K (some a) t τ none N R) : RunW K a t τ N R := fun D G0 H0 σ G H at_ _ hn hr => k D G0 H0 σ G H at_ hn hr
theorem At.wa {G0 H0 G H : Hp} {σ : L2.St} (at_ : At K (some a) G0 H0 τ none σ G H) (h : σ[0]? = some (some (.ref a))) : WA a σ G H :=
  ⟨h, (at_.w a rfl).1, (at_.w a rfl).2⟩
theorem At.upW {G0 H0 G H G2 H2 : Hp} {σ : L2.St} (at_ : At K (some a) G0 H0 τ none σ G H) (r : GrW (some a) G H G2 H2) (w : WA a σ G2 H2) : At K (some a) G0 H0 τ none σ G2 H2 :=
  ⟨at_.r.trans at_.w.ne r, at_.st.up r.g, OwnOk.no, w.ok, at_.w0⟩
theorem rw_asg (h : EvG K a te τ P) (hi : i ≠ 0) (k : ∀ d, P d → RunW K a u (τ.set i (some d)) N R) : RunW K a (tSeq (tAsg te (gName i)) u) τ N R := fun D G0 H0 σ G H at_ h0 hn hr =>
  h σ G H at_.r.i (at_.wa h0) at_.st (fun x H1 => u D (σ.set i (some x)) H1) fun d v G2 H2 pd r w dv =>
    k d pd D G0 H0 _ G2 H2 ((at_.upW r w).set dv Free.no) (by rw [List.getElem?_set_ne hi]; exact h0) (fun τ' O' σ' G' H' n e a' => hn τ' O' σ' G' H' n (r.g.trans e) a') hr
theorem rw_unp2 {j k : Nat} (hj : j ≠ 0) (hk : k ≠ 0) (h : EvG K a te τ (fun x => ∃ d1 d2, P1 d1 ∧ P2 d2 ∧ x = .tuple [d1, d2])) (n : ∀ d1 d2, P1 d1 → P2 d2 → RunW K a u ((τ.set j (some d1)).set k (some d2)) N R) : RunW K a (tSeq (tAsg te (g2 K j k)) u) τ N R := fun D G0 H0 σ G H at_ h0 hn hr =>
  h σ G H at_.r.i (at_.wa h0) at_.st _ fun d v G2 H2 pd r w dv => by
    obtain ⟨d1, d2, p1, p2, rfl⟩ := pd
    obtain ⟨p, xs, ex, hs, ha⟩ := dv.tupOf
    cases ha with
    | cons e1 e2 =>
      cases e2 with
      | cons e2 e3 =>
        cases e3
        exact ⟨p, _, ex, ex_t r.i hs, rfl, _, _, rfl, _, _, rfl, rfl, n d1 d2 p1 p2 D G0 H0 _ G2 H2 (((at_.upW r w).set e1 Free.no).set e2 Free.no) (by rw [List.getElem?_set_ne hk, List.getElem?_set_ne hj]; exact h0)
          (fun τ' O' σ' G' H' n e a' => hn τ' O' σ' G' H' n (r.g.trans e) a') hr⟩
theorem seq_at {r n : Nat} (h : r < n) : seqIndex? ((r : Nat) : Int) n = some r := by
  unfold seqIndex?
  have h1 : ¬ ((r : Int) < 0) := by omega
  simp only [if_neg h1]
  rw [if_pos (by simp; omega)]
  simp
/-- x.pop(draw(well, len(x))), x in slot l -/
abbrev popT (K : PySem.W.Frag) (l : Nat) : TE := tBM K "list" rPopAt (tVar l) (tCons (tCall (spDraw K) [] E0 (tCons (tVar 0) (tCons (tCB (rLenS K) (tCons (tVar l) tNil)) tNil))) tNil)
/-- x = list(range(n)); y = [x.pop(draw(well, len(x))) for j in range(n)] -/
theorem rw_pops {tn : TA} {i j l n : Nat} (h1 : EvD K te τ (.int (n : Nat))) (h2 : EvS K tn (τ.set l none) [.int (n : Nat)]) (hn : n ≤ 100) (hl0 : l ≠ 0) (hi0 : i ≠ 0) (hj0 : j ≠ 0) (hjl : j ≠ l) (hlt : l < τ.length)
    (k : ∀ cs : List Int, cs.length = n → RunW K a u ((τ.set l none).set i (some (.list (cs.map .int)))) N R) :
    RunW K a (tSeq (tAsg (tLstRg (tRg1 te)) (gName l)) (tSeq (tAsg (tLc (iRng1 tn) (gName j) tYes (popT K l) [j]) (gName i)) u)) τ N R := fun D G0 H0 σ G H at_ h0 hn' hr => by
  show tLstRg (tRg1 te) σ H fun x H1 => (tSeq (tAsg (tLc (iRng1 tn) (gName j) tYes (popT K l) [j]) (gName i)) u) D (σ.set l (some x)) H1
  refine n_listRg h1 (by omega) σ G H at_.r.i at_.st _ fun L ys G1 H1 r1 hL gL hL1 dL => ?_
  have wa := (at_.wa h0).up r1
  have aL : a ≠ L := fun z => (at_.wa h0).ne (by rw [z]; exact hL)
  have ys' : ys = ((List.range n).map fun k : Nat => (k : Int)).map V.int := by
    have e2 : ((List.range n).map fun k : Nat => PyData.int (k : Nat)) = ((List.range n).map fun k : Nat => (k : Int)).map PyData.int := by
      rw [List.map_map]
      rfl
    rw [e2] at dL
    exact dL.ints
  have hlσ : l < σ.length := by rw [at_.st.len]; exact hlt
  have st1 : StD K G1 (σ.set l (some (.ref L))) (τ.set l none) := (at_.st.up r1.g).unset _ l
  show tLc (iRng1 tn) (gName j) tYes (popT K l) [j] (σ.set l (some (.ref L))) H1 fun x H2 => u D ((σ.set l (some (.ref L))).set i (some x)) H2
  refine h2 _ G1 H1 r1.i st1 _ fun ns G2 H2 r2 da => ?_
  have ex : ns = [V.int (n : Nat)] := DpAll.ints (ns := [((n : Nat) : Int)]) da
  have wa2 := wa.up r2
  have gL2 : G2 L = none := r2.s L (by rw [hL1]; exact fun z => nomatch z) gL
  have hL2 : H2 L = some (.lst ys) := r2.ex L _ hL1
  refine ⟨(n : Nat), ex, by omega, by omega, fun Dl hD => ?_⟩
  have aD : a ≠ Dl := fun z => wa2.ne (by rw [z]; exact hD)
  have LD : L ≠ Dl := ne_of_none hL2 hD
  obtain ⟨wx, wy, wz, hw2⟩ := wa2.h
  refine lc_range (lo := 0) (n := ((n : Nat) : Int).toNat) (fun m H' => ∃ (ls acc : List Int) (x y z : Int), ls.length + m = n ∧ acc.length = m ∧ H' a = some (.lst [.int x, .int y, .int z]) ∧ H' L = some (.lst (ls.map V.int)) ∧ H' Dl = some (.lst (acc.map V.int)) ∧ ∀ b o, b ≠ a → b ≠ L → b ≠ Dl → H2 b = some o → H' b = some o)
    ⟨(List.range n).map fun k : Nat => (k : Int), [], wx, wy, wz, by rw [List.length_map, List.length_range, Nat.add_zero], rfl, by rw [upd_ne aD]; exact hw2, by rw [upd_ne LD, ← ys']; exact hL2, upd_same, fun b o _ _ n e => by rw [upd_ne n]; exact e⟩ (fun m H' hm p => ?_) fun H' p => ?_
  · obtain ⟨ls, acc, x, y, z, e1, e2, ha, hL', hD', keep⟩ := p
    have hm' : m < n := by omega
    show L2.wipe (((L2.wipe (σ.set l (some (.ref L))) [j])).set j (some (.int ((0 : Int) + (m : Int))))) [j] = L2.wipe (σ.set l (some (.ref L))) [j] ∧ _
    refine ⟨wipe_back (by simp), ?_⟩
    have s0 : ((L2.wipe (σ.set l (some (.ref L))) [j]).set j (some (V.int ((0 : Int) + (m : Int)))))[0]? = some (some (.ref a)) := by
      show (((σ.set l (some (.ref L))).set j none).set j _)[0]? = _
      rw [List.getElem?_set_ne hj0, List.getElem?_set_ne hj0, List.getElem?_set_ne hl0]
      exact h0
    have sL : ((L2.wipe (σ.set l (some (.ref L))) [j]).set j (some (V.int ((0 : Int) + (m : Int)))))[l]? = some (some (.ref L)) := by
      show (((σ.set l (some (.ref L))).set j none).set j _)[l]? = _
      rw [List.getElem?_set_ne hjl, List.getElem?_set_ne hjl, List.getElem?_set_self hlσ]
    have LDp : ls.length = n - m := by omega
    refine ⟨.ref L, sL, .inl ⟨rfl, _, .inl (.inl hL')⟩, .ref a, s0, .ref L, sL, L, _, rfl, .inl (.inl (.inl hL')), a, ((ls.map V.int).length : Int), x, y, z, rfl, by rw [List.length_map]; omega, by rw [List.length_map]; omega, ha, fun r x' z' r0 r1 => ?_⟩
    obtain ⟨k', rfl⟩ : ∃ k' : Nat, r = (k' : Int) := ⟨r.toNat, by omega⟩
    rw [List.length_map] at r1
    have hk' : k' < ls.length := by omega
    refine ⟨L, ls.map V.int, k', k', .int ls[k'], rfl, rfl, by rw [upd_ne (Ne.symm aL)]; exact hL', by omega, by omega, by rw [List.length_map]; exact seq_at hk', by rw [List.getElem?_map, List.getElem?_eq_getElem hk']; rfl, ?_⟩
    refine ⟨acc.map V.int, by rw [upd_ne (Ne.symm LD), upd_ne (Ne.symm aD)]; exact hD', sz_lt (by rw [List.length_map]; omega), ls.eraseIdx k', acc ++ [ls[k']], x', y, z', ?_, by rw [List.length_append, e2]; rfl, ?_, ?_, ?_, fun b o na nL nD e => ?_⟩
    · have := List.length_eraseIdx_of_lt hk'
      omega
    · rw [upd_ne aD, upd_ne aL, upd_same]
    · rw [upd_ne LD, upd_same, erase_mapI]
    · rw [upd_same, List.map_append]
      rfl
    · rw [upd_ne nD, upd_ne nL, upd_ne na]
      exact keep b o na nL nD e
  · rw [Int.toNat_natCast] at p
    obtain ⟨ls, acc, x, y, z, e1, e2, ha, hL', hD', keep⟩ := p
    have gD : G2 Dl = none := ex_free r2.i hD
    have i2 : Ex G2 H' := fun b o e => keep b o (fun q => by rw [q, wa2.g] at e; cases e) (fun q => by rw [q, gL2] at e; cases e) (fun q => by rw [q, gD] at e; cases e) (r2.i b o e)
    obtain ⟨k1, k2⟩ := own_known i2 gD hD'
    have rr := r1.trans r2
    have hD0 : H Dl = none := ex_free rr.ex hD
    have rf : GrW (some a) G H (upd G2 Dl (.lst (acc.map V.int))) H' := by
      refine ⟨rr.g.trans k2, k1, fun b o nb e => ?_, fun b hb nb => ?_⟩
      · refine keep b o (fun q => nb (by rw [q])) (fun q => ?_) (fun q => ?_) (rr.ex b o e)
        · rw [q, hL] at e
          cases e
        · rw [q, hD0] at e
          cases e
      · rw [upd_ne (fun z => hb (by rw [z]; exact hD0))]
        exact rr.s b hb nb
    have wf : WA a σ (upd G2 Dl (.lst (acc.map V.int))) H' := ⟨h0, by rw [upd_ne aD]; exact wa2.g, x, y, z, ha⟩
    have a2 := at_.upW rf wf
    refine k acc e2 D G0 H0 _ _ H' (At.set ⟨a2.r, a2.st.unset _ l, OwnOk.no, a2.w, a2.w0⟩ (.lst (.inl (.inl upd_same)) (dpa_ofInts _)) Free.no) ?_ (fun τ' O' σ' G' H' n e a' => hn' τ' O' σ' G' H' n (rf.g.trans e) a') hr
    rw [List.getElem?_set_ne hi0, List.getElem?_set_ne hl0]
    exact h0
end
end K57
/-! _law_two. -/
namespace K57
open PySem PySem.Spec PyProof.Rows L2 Evl
abbrev sTwoL : Stmt := top 21
abbrev nTwo : List Str := ["_law_well", "_law_size", "_law_way", "_law_wide", "_law_one", "_law_other", "_law_left", "_law_called", "_law_k", "_law_thing", "_law_mark"]
/-- two partings, drawn -/
def spTwoT (K : PySem.W.Frag) : Sp := fun vs H Q _ => ∃ (a : Addr) (n : Nat) (G : Hp), 1 ≤ n ∧ n ≤ 9 ∧ vs = [.ref a, .int (n : Nat)] ∧ Ex G H ∧ WA a [some (.ref a)] G H ∧
  ∀ v G2 H2 p q, Par n p → Par n q → GrW (some a) G H G2 H2 → WellOk (some a) G2 H2 → Dp K G2 v (.tuple [tupN n p, tupN n q]) → Q v H2
def twoD (n : Nat) (d : PyData) : Prop := ∃ p q, Par n p ∧ Par n q ∧ d = .tuple [tupN n p, tupN n q]
section
variable {P : Program} {w : World} {K : PySem.W.Frag} {mg : Str → Option Value} {base : Heap} {τ : List (Option PyData)}
theorem flat_one : ∀ n : Nat, (List.replicate n [V.int 0]).flatten = List.replicate n (V.int 0)
  | 0 => rfl
  | n + 1 => by
    rw [List.replicate_succ, List.replicate_succ, List.flatten_cons, flat_one n]
    rfl
theorem n_rep0 {te : TE} {n : Nat} (h : EvD K te τ (.int (n : Nat))) (hn : n ≤ 1000) : EvN K (tOp rRep (tLst (tCons (tC (.int 0)) tNil)) te) τ ((List.replicate n (0 : Int)).map .int) := fun σ G H e s Q q => by
  refine n_lst (s_one (d_int (i := 0))) (by show 1 ≤ 1000; decide) σ G H e s _ fun l xs G1 H1 r1 hl gl h1 da => ?_
  have ex : xs = [V.int 0] := DpAll.ints (ns := [0]) da
  refine h σ G1 H1 r1.i (s.up r1.g) _ fun v G2 H2 r2 dv => ?_
  refine ⟨l, (n : Nat), xs, rfl, dv.intOf, r2.ex l _ h1, by omega, by omega, sz_of (by rw [ex, Int.toNat_natCast]; show 1 * n ≤ 100000; omega), fun p hp => ?_⟩
  have rr := r1.trans r2
  refine q p _ G2 _ (rr.trans (Gr.hid rr.i hp)) (ex_free rr.ex hp) (ex_free rr.i hp) upd_same ?_
  have ef : (List.replicate (((n : Nat) : Int)).toNat xs).flatten = (List.replicate n (0 : Int)).map V.int := by
    rw [ex, Int.toNat_natCast, List.map_replicate]
    exact flat_one n
  rw [ef]
  exact dpa_ofInts _
theorem map_int {ns : List Int} {f : Int → Int} : (ns.map PyData.int).map (fun d => match d with
    | .int t => PyData.int (f t)
    | _ => .none) = (ns.map f).map PyData.int := by
  rw [List.map_map, List.map_map]
  rfl
/-- a comprehension over ints, its element an int -/
theorem n_ints {tl : TE} {te : TE} {j : Nat} {ns : List Int} {vs : List Nat} (f : Int → Int) (h : EvD K tl τ (.list (ns.map .int))) (hn : ns.length ≤ 40000) (hj : j ∈ vs) (he : ∀ t ∈ ns, EvD K te ((wipeD τ vs).set j (some (.int t))) (.int (f t))) :
    EvN K (tLc (iList K tl) (gName j) tYes te vs) τ ((ns.map f).map .int) := by
  rw [← map_int]
  refine n_mapL _ h (by rw [List.length_map]; exact hn) hj fun d hd => ?_
  obtain ⟨t, ht, rfl⟩ := List.mem_map.mp hd
  exact he t ht
abbrev cTwoT (P : Program) (w : World) (K : PySem.W.Frag) (mg : Str → Option Value) (base : Heap) := Cal P w K mg base CX0 2 "_law_two" ["_law_well", "_law_size"] (spTwoT K)
theorem scTwoL : FnScope nTwo ["_law_well", "_law_size"] (defScope sTwoL) := ⟨rfl, rfl, rfl, by decide +kernel, rfl, by decide +kernel, by decide +kernel⟩
theorem two_of {X : Cx} {body : List Stmt} {vs : List V} {H : Hp} {Q : VK} {E : XK} {t : TS} (h : spTwoT K vs H Q E) (hd : PSs X body t)
    (hr : ∀ (a : Addr) (n : Nat), 1 ≤ n → n ≤ 9 → RunW K a t [none, some (.int (n : Nat)), none, none, none, none, none, none, none, none, none] (fun _ _ => False) (rD K (twoD n))) :
    ∃ t, PSs X body t ∧ t { nx := fun _ H' => Q .non H', rt := Q } (L2.start nTwo vs) H := by
  obtain ⟨a, n, G, h1, h9, rfl, e, wa, k⟩ := h
  refine ⟨t, hd, hr a n h1 h9 _ G H _ G H ⟨GrW.refl e, ⟨rfl, fun i d hi => ?_⟩, OwnOk.no, wa.ok, fun b hb => by cases hb; exact wa.ne⟩ rfl (fun _ _ _ _ _ z => z.elim) fun v G' H' r w ⟨d, ⟨p, q, hp, hq, ed⟩, dv⟩ => ?_⟩
  · rcases i with _ | _ | i
    · cases hi
    · cases hi
      exact ⟨.int (n : Nat), rfl, .int _⟩
    · exfalso
      have := List.mem_of_getElem? hi
      rcases i with _ | _ | _ | _ | _ | _ | _ | _ | _ | i <;> cases hi
  · rw [ed] at dv
    exact k v G' H' p q hp hq r w dv
theorem ok_twoL {f : Addr} {fd : FuncData} (F : Fun K "_law_two" "_law_two" sTwoL f fd) (B : Bi mg) (c1 : cDraw P w K mg base) (c2 : cMarks P w K mg base) : FnOk P w K mg base CX0 2 f fd ["_law_well", "_law_size"] (spTwoT K) := by
  refine F.ok scTwoL (fun vs H Q E h => by obtain ⟨a, n, G, _, _, rfl, _⟩ := h; rfl) (fun cdv A outer s H vs Q E hr h => ?_)
  refine two_of h
    (pss_cons (ps_set (i := 2) scTwoL.nd rfl (Or.inl rfl) (pe_cal c1 hr (pa_cons (pv 0) (pa_cons pe_int pa_nil))))
    (pss_cons (ps_set (i := 3) scTwoL.nd rfl (Or.inr rfl) (pe_op op_add pe_int (pe_cal c1 hr (pa_cons (pv 0) (pa_cons pe_int pa_nil)))))
    (pss_cons (ps_setLc (i := 4) (own := [("_law_k", 8)]) (g := gName 8) rfl scTwoL.nd rfl rfl (sw_true rfl rfl rfl (by decide +kernel)) (pi_range1 (by rfl) B.range (pa_cons (pv 1) pa_nil)) (blkOk_by (N := nTwo) (sc := defScope sTwoL) (by decide +kernel))
        (fun _ _ _ _ _ => pg_name (i := 8) scTwoL.nd rfl (Or.inl rfl)) (fun _ _ _ _ _ => pts_nil) (fun _ _ _ _ _ => pe_cal c1 hr (pa_cons (pv 0) (pa_cons pe_int pa_nil))))
    (pss_cons (ps_setLc (i := 5) (own := [("_law_k", 8)]) (g := gName 8) rfl scTwoL.nd rfl rfl (sw_true rfl rfl rfl (by decide +kernel)) (pi_range1 (by rfl) B.range (pa_cons (pv 1) pa_nil)) (blkOk_by (N := nTwo) (sc := defScope sTwoL) (by decide +kernel))
        (fun _ _ _ _ _ => pg_name (i := 8) scTwoL.nd rfl (Or.inl rfl)) (fun _ _ _ _ _ => pts_nil) (fun _ _ _ _ _ => pe_cal c1 hr (pa_cons (pv 0) (pa_cons pe_int pa_nil))))
    (pss_cons (ps_set (i := 6) scTwoL.nd rfl (Or.inr rfl) (pe_listRg rfl (by rfl) B.list (prg_1 (by rfl) B.range (pv 1))))
    (pss_cons (ps_setLc (i := 7) (own := [("_law_k", 8)]) (g := gName 8) rfl scTwoL.nd rfl rfl (sw_true rfl rfl rfl (by decide +kernel)) (pi_range1 (by rfl) B.range (pa_cons (pv 1) pa_nil)) (blkOk_by (N := nTwo) (sc := defScope sTwoL) (by decide +kernel))
        (fun _ _ _ _ _ => pg_name (i := 8) scTwoL.nd rfl (Or.inl rfl)) (fun _ _ _ _ _ => pts_nil)
        (fun _ _ _ _ _ => pe_bmK K rfl (pe_bm PySem.F.plainAttrs_list PySem.F.slot_list_pop PySem.F.type_list_pop mt_popAt (pv 6)
          (pa_cons (pe_cal c1 hr (pa_cons (pv 0) (pa_cons (pe_callB (r := rLenS K) call_len_seq (by rfl) B.len PySem.boot_len (pa_cons (pv 6) pa_nil)) pa_nil))) pa_nil))))
    (pss_cons (ps_if (pt_cmpR op_eq (pv 2) pe_int (nomark _))
      (pss_cons (ps_setLc (i := 4) (own := [("_law_thing", 9)]) (g := gName 9) rfl scTwoL.nd rfl rfl (sw_true rfl rfl rfl (by decide +kernel)) (pi_list (pv 7)) (blkOk_by (N := nTwo) (sc := defScope sTwoL) (by decide +kernel))
        (fun _ _ _ _ _ => pg_name (i := 9) scTwoL.nd rfl (Or.inl rfl)) (fun _ _ _ _ _ => pts_nil) (fun _ _ _ _ _ => pe_op op_fdiv (pv 9) (pv 3)))
      (pss_one (ps_setLc (i := 5) (own := [("_law_thing", 9)]) (g := gName 9) rfl scTwoL.nd rfl rfl (sw_true rfl rfl rfl (by decide +kernel)) (pi_list (pv 7)) (blkOk_by (N := nTwo) (sc := defScope sTwoL) (by decide +kernel))
        (fun _ _ _ _ _ => pg_name (i := 9) scTwoL.nd rfl (Or.inl rfl)) (fun _ _ _ _ _ => pts_nil) (fun _ _ _ _ _ => pe_op op_mod (pv 9) (pv 3))))) pss_nil)
    (pss_cons (ps_if (pt_cmpR op_eq (pv 2) pe_int (nomark _))
      (pss_one (ps_setLc (i := 5) (own := [("_law_mark", 10)]) (g := gName 10) rfl scTwoL.nd rfl rfl (sw_true rfl rfl rfl (by decide +kernel)) (pi_list (pv 4)) (blkOk_by (N := nTwo) (sc := defScope sTwoL) (by decide +kernel))
        (fun _ _ _ _ _ => pg_name (i := 10) scTwoL.nd rfl (Or.inl rfl)) (fun _ _ _ _ _ => pts_nil)
        (fun _ _ _ _ _ => pe_ix (r := rIxL K) ix_list (pe_lst (pa_cons (pv 10) (pa_cons pe_int pa_nil))) (pe_callTy call_int1 (by rfl) B.int boot_int (pa_cons (pe_cmpR op_eq (pv 10) pe_int (nomark _)) pa_nil)) (fun _ _ => rfl)))) pss_nil)
    (pss_cons (ps_if (pt_cmpR op_eq (pv 2) pe_int (nomark _))
      (pss_one (ps_set (i := 4) scTwoL.nd rfl (Or.inl rfl) (pe_ix (r := rIxL K) ix_list (pe_lst (pa_cons (pe_listRg rfl (by rfl) B.list (prg_1 (by rfl) B.range (pv 1))) (pa_cons (pe_op op_rep (pe_lst (pa_cons pe_int pa_nil)) (pv 1)) pa_nil)))
        (pe_op op_mod (pv 3) pe_int) (fun _ _ => rfl)))) pss_nil)
    (pss_one (ps_ret (pe_tup (pa_cons (pe_cal c2 hr (pa_cons (pv 4) pa_nil)) (pa_cons (pe_cal c2 hr (pa_cons (pv 5) pa_nil)) pa_nil)))))))))))))) ?_
  intro a n h1 h9
  refine rw_asg (g_draw d_int (by decide) (by decide)) (by decide) fun d1 hd1 => ?_
  obtain ⟨way, _, rfl⟩ := hd1
  refine rw_asg (g_op (P := fun d => ∃ wd : Nat, 1 ≤ wd ∧ wd ≤ 3 ∧ d = .int (wd : Nat)) (g_pure d_int) (g_draw d_int (by decide) (by decide)) fun x y hx hy => ?_) (by decide) fun d2 hd2 => ?_
  · obtain ⟨r, hr', rfl⟩ := hy
    subst hx
    refine ⟨.int ((1 + r : Nat) : Int), ⟨1 + r, by omega, by omega, rfl⟩, ?_⟩
    have z := rd_add (K := K) (i := 1) (j := (r : Int))
    rw [show ((1 + r : Nat) : Int) = 1 + (r : Int) by omega]
    exact z
  obtain ⟨wd, w1, w3, rfl⟩ := hd2
  have anInt : ∀ τ : List (Option PyData), EvG K a (tCall (spDraw K) [] E0 (tCons (tVar 0) (tCons (tC (V.int 3)) tNil))) τ (fun x => ∃ k : Int, x = .int k) := fun τ σ G H e w s Q q =>
    g_draw d_int (by decide) (by decide) σ G H e w s Q fun d v G2 H2 ⟨r, _, er⟩ => q d v G2 H2 ⟨_, er⟩
  refine rw_asg (g_lcR (s_one (d_var rfl)) (by omega) (by simp) (by simp) fun i _ => anInt _) (by decide) fun d3 hd3 => ?_
  obtain ⟨ns, ln, rfl⟩ := hd3
  refine rw_asg (g_lcR (s_one (d_var rfl)) (by omega) (by simp) (by simp) fun i _ => anInt _) (by decide) fun d4 hd4 => ?_
  obtain ⟨ms, lm, rfl⟩ := hd4
  refine rw_pops (n := n) (d_var rfl) (s_one (d_var rfl)) (by omega) (by decide) (by decide) (by decide) (by decide) (by show 6 < 11; decide) fun cs lc => rw_run ?_
  let M : List (Option PyData) → Own → Prop := fun τ' O' => O' = none ∧ ∃ ns ms : List Int, ns.length = n ∧ ms.length = n ∧
    τ' = [none, some (.int (n : Nat)), some (.int (way : Nat)), some (.int (wd : Nat)), some (.list (ns.map .int)), some (.list (ms.map .int)), none, some (.list (cs.map .int)), none, none, none]
  have step : ∀ {t u : TS} {N : List (Option PyData) → Own → Prop} {R : Pst}, (∀ τ' O', M τ' O' → Run K (some a) t τ' O' M R) → (∀ τ' O', M τ' O' → Run K (some a) u τ' O' N R) → ∀ τ' O', M τ' O' → Run K (some a) (tSeq t u) τ' O' N R :=
    fun h k τ' O' m => run_seq (h τ' O' m) k
  refine step ?_ (step ?_ (step ?_ ?_)) _ none ⟨rfl, ns, ms, ln, lm, rfl⟩
  · rintro _ _ ⟨rfl, ns, ms, ln, lm, rfl⟩
    refine run_if (b_of (d_op (d_var rfl) d_int rd_eqI)) (fun _ => ?_) fun _ => run_next ⟨rfl, ns, ms, ln, lm, rfl⟩
    refine q_set (n_ints (fun t => t / (wd : Int)) (d_var rfl) (by omega) (by simp) fun t _ => d_op (d_var rfl) (d_var rfl) (rd_div ⟨by omega, by omega⟩)).dat Free.no ?_
    refine run_asg (n_ints (fun t => t % (wd : Int)) (d_var rfl) (by omega) (by simp) fun t _ => d_op (d_var rfl) (d_var rfl) (rd_mod (by omega))).dat Free.no ⟨rfl, _, _, ?_, ?_, rfl⟩
    · rw [List.length_map, lc]
    · rw [List.length_map, lc]
  · rintro _ _ ⟨rfl, ns, ms, ln, lm, rfl⟩
    refine run_if (b_of (d_op (d_var rfl) d_int rd_eqI)) (fun _ => ?_) fun _ => run_next ⟨rfl, ns, ms, ln, lm, rfl⟩
    refine run_asg (n_ints (fun t => if t = 1 then 0 else t) (d_var rfl) (by omega) (by simp) fun t _ => ?_).dat Free.no ⟨rfl, _, _, ln, ?_, rfl⟩
    · refine d_op (n_lst (s_two (d_var rfl) d_int) (by show 2 ≤ 1000; decide)).dat (d_intB (d_op (d_var rfl) d_int rd_eqI) fun k H Q q => .inr ⟨k, rfl, q⟩) ?_
      by_cases ht : t = 1
      · rw [decide_eq_true ht, if_pos ht]
        exact rd_ixL (k := 1) rfl
      · rw [decide_eq_false ht, if_neg ht]
        exact rd_ixL (k := 0) rfl
    · rw [List.length_map, ln]
  · rintro _ _ ⟨rfl, ns, ms, ln, lm, rfl⟩
    refine run_if (b_of (d_op (d_var rfl) d_int rd_eqI)) (fun _ => ?_) fun _ => run_next ⟨rfl, ns, ms, ln, lm, rfl⟩
    have ev : ∀ k : Nat, wd % 2 = k → ∀ zs : List Int, [((List.range n).map fun k => PyData.int (k : Nat)), (List.replicate n (0 : Int)).map .int][k]? = some (zs.map .int) →
        EvD K (tOp (rIxL K) (tLst (tCons (tLstRg (tRg1 (tVar 1))) (tCons (tOp rRep (tLst (tCons (tC (V.int 0)) tNil)) (tVar 1)) tNil))) (tOp (rI (fun x j => 0 < j) fun i j => V.int (i % j)) (tVar 3) (tC (V.int 2))))
          [none, some (.int (n : Nat)), some (.int (way : Nat)), some (.int (wd : Nat)), some (.list (ns.map .int)), some (.list (ms.map .int)), none, some (.list (cs.map .int)), none, none, none] (.list (zs.map .int)) := fun k hk zs hz => by
      refine d_op (n_lst (s_two (n_listRg (n := n) (d_var rfl) (by omega)).dat (n_rep0 (n := n) (d_var rfl) (by omega)).dat) (by show 2 ≤ 1000; decide)).dat (d_op (d_var rfl) d_int (rd_mod (by decide))) ?_
      have em : ((wd : Int) % 2) = ((k : Nat) : Int) := by omega
      rw [em]
      refine rd_ixL ?_
      have h2 : k = 0 ∨ k = 1 := by omega
      rcases h2 with rfl | rfl
      · exact congrArg (Option.map PyData.list) hz
      · exact congrArg (Option.map PyData.list) hz
    have h2 : wd % 2 = 0 ∨ wd % 2 = 1 := by omega
    rcases h2 with h2 | h2
    · refine run_asg (ev 0 h2 ((List.range n).map fun k : Nat => (k : Int)) ?_) Free.no ⟨rfl, _, ms, by rw [List.length_map, List.length_range], lm, rfl⟩
      rw [List.map_map]
      rfl
    · exact run_asg (ev 1 h2 (List.replicate n 0) rfl) Free.no ⟨rfl, _, ms, by rw [List.length_replicate], lm, rfl⟩
  · rintro _ _ ⟨rfl, ns, ms, ln, lm, rfl⟩
    refine run_ret (d_tup (s_two (d_call (s_one (d_var rfl)) ⟨ns, by omega, rfl, rfl⟩) (d_call (s_one (d_var rfl)) ⟨ms, by omega, rfl, rfl⟩)) (by show 2 ≤ 1000; decide)) ⟨ofMarks ns, ofMarks ms, ofMarks_par ln, ofMarks_par lm, ?_⟩
    rw [ln, lm]
end
end K57
/-! _law_amid, _law_pairs, _law_joined, _law_is_thing. -/
namespace K57
open PySem PySem.Spec PyProof.Rows L2 Evl
abbrev sAmidL : Stmt := top 22
abbrev sPairs : Stmt := top 23
abbrev sJoin : Stmt := top 24
abbrev sThingL : Stmt := top 25
def natsD (l : List Nat) : PyData := .list (l.map fun t => .int (t : Nat))
def pAmidL : List PyData → PyData → Prop := fun ds d => ∃ (n : Nat) (p q : Nat → Nat) (b e : Nat), n ≤ 20 ∧ b < n ∧ e < n ∧ ds = [tupN n p, tupN n q, .int (b : Nat), .int (e : Nat)] ∧ d = natsD (amids n p q b e)
def pPairs : List PyData → PyData → Prop := fun ds d => ∃ (n : Nat) (p q : Nat → Nat), n ≤ 9 ∧ ds = [tupN n p, tupN n q] ∧ d = .list ((prs n p q).map pr2)
def pJoin : List PyData → PyData → Prop := fun ds d => ∃ (n : Nat) (p q : Nat → Nat), n ≤ 9 ∧ ds = [tupN n p, tupN n q] ∧ d = .list (itsN n (joinJ n p q))
theorem nats_lay : ∀ l : List Nat, PyData.canLayAll0 (l.map fun t => .int (t : Nat)) = true
  | [] => by simp [PyData.canLayAll0]
  | x :: l => by simp [PyData.canLayAll0, PyData.canLay0, nats_lay l]
theorem nats_depth : ∀ l : List Nat, PyData.depthAll (l.map fun t => .int (t : Nat)) ≤ 1
  | [] => by simp [PyData.depthAll]
  | x :: l => by
    have := nats_depth l
    simp only [List.map_cons, PyData.depthAll, PyData.depth]
    omega
theorem nats_shaped (l : List Nat) : SeqAt.shaped (natsD l) = true := by
  have h1 := nats_depth l
  have h2 : PyData.depth (natsD l) ≤ 64 := by
    simp only [natsD, PyData.depth]
    omega
  show (PyData.canLay0 (natsD l) && decide (PyData.depth (natsD l) ≤ 64)) = true
  rw [Bool.and_eq_true]
  exact ⟨by simp only [natsD, PyData.canLay0]; exact nats_lay l, decide_eq_true h2⟩
theorem nil_shaped : SeqAt.shaped (.list []) = true := nats_shaped []
theorem nats_eqv (l : List Nat) : PyData.eqv (natsD l) (.list []) = l.isEmpty := by
  cases l with
  | nil => simp [natsD, PyData.eqv, PyData.eqvAll]
  | cons x l => simp [natsD, PyData.eqv, PyData.eqvAll]
theorem amids_empty {n : Nat} {p q : Nat → Nat} {b e : Nat} : (!(amids n p q b e).isEmpty) = goes n p q b e := by
  cases g : goes n p q b e with
  | false =>
    rw [amids_nil.mpr g]
    rfl
  | true =>
    cases h : amids n p q b e with
    | nil =>
      rw [amids_nil.mp h] at g
      cases g
    | cons x l => rfl
section
variable {P : Program} {w : World} {K : PySem.W.Frag} {mg : Str → Option Value} {base : Heap}
abbrev cAmidL (P : Program) (w : World) (K : PySem.W.Frag) (mg : Str → Option Value) (base : Heap) := Cal P w K mg base CX0 1 "_law_amid" ["_law_one", "_law_other", "_law_begin", "_law_end"] (spP K pAmidL)
abbrev cPairs (P : Program) (w : World) (K : PySem.W.Frag) (mg : Str → Option Value) (base : Heap) := Cal P w K mg base CX0 2 "_law_pairs" ["_law_one", "_law_other"] (spP K pPairs)
abbrev cJoin (P : Program) (w : World) (K : PySem.W.Frag) (mg : Str → Option Value) (base : Heap) := Cal P w K mg base CX0 1 "_law_joined" ["_law_one", "_law_other"] (spP K pJoin)
abbrev cThingL (P : Program) (w : World) (K : PySem.W.Frag) (mg : Str → Option Value) (base : Heap) := Cal P w K mg base CX0 1 "_law_is_thing" ["_law_thing", "_law_size"] (spP K pThing)
abbrev nAmidL : List Str := ["_law_one", "_law_other", "_law_begin", "_law_end", "_law_thing"]
theorem scAmidL : FnScope nAmidL ["_law_one", "_law_other", "_law_begin", "_law_end"] (defScope sAmidL) := ⟨rfl, rfl, rfl, by decide +kernel, rfl, by decide +kernel, by decide +kernel⟩
theorem ok_amidL {f : Addr} {fd : FuncData} (F : Fun K "_law_amid" "_law_amid" sAmidL f fd) (B : Bi mg) : FnOk P w K mg base CX0 1 f fd ["_law_one", "_law_other", "_law_begin", "_law_end"] (spP K pAmidL) := by
  refine F.ok scAmidL (fun vs H Q E h => spP_len (by rintro _ _ ⟨n, p, q, b, e, _, _, _, rfl, _⟩; rfl) h) (fun cdv A outer s H vs Q E hr h => ?_)
  refine body_of (Nm := nAmidL) h (pss_one (ps_ret (pe_lc (own := [("_law_thing", 4)]) (g := gName 4) rfl scAmidL.nd (pi_range1 (by rfl) B.range (pa_cons (pe_callB call_len_seq (by rfl) B.len PySem.boot_len (pa_cons (pv 0) pa_nil)) pa_nil)) (blkOk_by (N := nAmidL) (sc := defScope sAmidL) (by decide +kernel))
    (fun _ _ _ _ _ => pg_name (i := 4) scAmidL.nd rfl (Or.inl rfl))
    (fun _ _ _ _ _ => pts_one (PW.pt (pw_and (pt_cmpR op_eq (pe_ix (r := rIxT K) ix_tup (pv 0) (pv 4) (fun _ _ => rfl)) (pe_ix (r := rIxT K) ix_tup (pv 0) (pv 2) (fun _ _ => rfl)) (nomark _))
        (pw_and1 (pt_cmpR op_eq (pe_ix (r := rIxT K) ix_tup (pv 1) (pv 4) (fun _ _ => rfl)) (pe_ix (r := rIxT K) ix_tup (pv 1) (pv 3) (fun _ _ => rfl)) (nomark _))))))
    (fun _ _ _ _ _ => pv 4)))) ?_
  rintro _ _ ⟨n, p, q, b, e, hn, hb, he, rfl, rfl⟩
  refine run_ret (n_lcR (n := n) (hit p q b e) (fun t => .int (t : Nat)) (s_one (d_len (d_var rfl) (lenN n p))) (by omega) (by simp) (fun t ht => ?_) fun t _ _ => d_var rfl).dat rfl
  refine (b_and (b_of (d_op (d_op (d_var rfl) (d_var rfl) (rd_ixT (itsN_at ht))) (d_op (d_var rfl) (d_var rfl) (rd_ixT (itsN_at hb))) rd_eqI))
    fun _ => b_of (d_op (d_op (d_var rfl) (d_var rfl) (rd_ixT (itsN_at ht))) (d_op (d_var rfl) (d_var rfl) (rd_ixT (itsN_at he))) rd_eqI)).is ?_
  rw [dec_nat, dec_nat]
  rfl
abbrev nPairs : List Str := ["_law_one", "_law_other", "_law_found", "_law_begin", "_law_end"]
theorem scPairs : FnScope nPairs ["_law_one", "_law_other"] (defScope sPairs) := ⟨rfl, rfl, rfl, by decide +kernel, rfl, by decide +kernel, by decide +kernel⟩
theorem ok_pairs {f : Addr} {fd : FuncData} (F : Fun K "_law_pairs" "_law_pairs" sPairs f fd) (B : Bi mg) (c1 : cAmidL P w K mg base) : FnOk P w K mg base CX0 2 f fd ["_law_one", "_law_other"] (spP K pPairs) := by
  refine F.ok scPairs (fun vs H Q E h => spP_len (by rintro _ _ ⟨n, p, q, _, rfl, _⟩; rfl) h) (fun cdv A outer s H vs Q E hr h => ?_)
  refine body_of (Nm := nPairs) h
    (pss_cons (ps_set (i := 2) scPairs.nd rfl (Or.inl rfl) (pe_lst pa_nil))
    (pss_cons (ps_for PassesOwn.never rfl (pi_range1 (by rfl) B.range (pa_cons (pe_callB call_len_seq (by rfl) B.len PySem.boot_len (pa_cons (pv 0) pa_nil)) pa_nil)) (pg_name (i := 3) scPairs.nd rfl (Or.inr rfl))
      (pss_one (ps_set (i := 2) scPairs.nd rfl (Or.inl rfl) (pe_op (r := rCatS K) op_catS (pv 2)
        (pe_lc (own := [("_law_end", 4)]) (g := gName 4) rfl scPairs.nd (pi_range1 (by rfl) B.range (pa_cons (pe_callB call_len_seq (by rfl) B.len PySem.boot_len (pa_cons (pv 0) pa_nil)) pa_nil)) (blkOk_by (N := nPairs) (sc := defScope sPairs) (by decide +kernel))
          (fun _ _ _ _ _ => pg_name (i := 4) scPairs.nd rfl (Or.inl rfl))
          (fun _ _ _ _ _ => pts_one (pt_cmpR (r := rNeD K) (op_neD hr.units) (pe_cal c1 hr (pa_cons (pv 0) (pa_cons (pv 1) (pa_cons (pv 3) (pa_cons (pv 4) pa_nil))))) (pe_lst pa_nil) (nomark _)))
          (fun _ _ _ _ _ => pe_tup (pa_cons (pv 3) (pa_cons (pv 4) pa_nil))))))))
    (pss_one (ps_ret (pv 2))))) ?_
  rintro _ _ ⟨n, p, q, hn, rfl, rfl⟩
  refine q_set (n_lst s_nil (Nat.zero_le _)).dat Free.no ?_
  refine q_forR (n := n) (s_one (d_len (d_var rfl) (lenN n p))) (by omega)
    (fun i τ' O' => (∃ a b, τ' = [some (tupN n p), some (tupN n q), some (.list ((upto n p q i).map pr2)), a, b]) ∧ O' = none) ⟨⟨_, _, rfl⟩, rfl⟩ ?_ ?_
  · rintro i τ' O' hi ⟨⟨a, b, rfl⟩, rfl⟩
    refine ⟨Free.no, run_asg ((d_op (d_var rfl) (n_lcR (n := n) (goes n p q i) (fun e => .tuple [.int (i : Nat), .int (e : Nat)]) (s_one (d_len (d_var rfl) (lenN n p))) (by omega) (by simp) (fun e he => ?_) fun e _ _ => d_tup (s_two (d_var rfl) (d_var rfl)) (by show 2 ≤ 1000; decide)).dat (rd_catS ?_)).is (d2 := .list ((upto n p q (i + 1)).map pr2)) ?_) Free.no ⟨⟨_, _, rfl⟩, rfl⟩⟩
    · refine (b_of (d_op (d_call (s_cons (d_var rfl) (s_cons (d_var rfl) (s_two (d_var rfl) (d_var rfl)))) ⟨n, p, q, i, e, by omega, hi, he, rfl, rfl⟩) (n_lst s_nil (Nat.zero_le _)).dat (rd_neD (nats_shaped _) nil_shaped))).is ?_
      rw [nats_eqv]
      exact amids_empty
    · have h1 := upto_len (n := n) (p := p) (q := q) i
      have h2 := givenD_len n (goes n p q i) (fun e => .tuple [.int (i : Nat), .int (e : Nat)])
      have h3 : i * n ≤ 9 * 9 := Nat.mul_le_mul (by omega) hn
      rw [List.length_map]
      omega
    · rw [upto_succ, List.map_append]
      congr 2
      unfold givenD line
      rw [List.map_map]
      rfl
  · rintro τ' O' ⟨⟨a, b, rfl⟩, rfl⟩
    exact run_ret (d_var rfl) rfl
theorem scThingL : FnScope ["_law_thing", "_law_size"] ["_law_thing", "_law_size"] (defScope sThingL) := ⟨rfl, rfl, rfl, by decide +kernel, rfl, by decide +kernel, by decide +kernel⟩
theorem ok_thingL {f : Addr} {fd : FuncData} (F : Fun K "_law_is_thing" "_law_is_thing" sThingL f fd) (B : Bi mg) : FnOk P w K mg base CX0 1 f fd ["_law_thing", "_law_size"] (spP K pThing) := by
  refine F.ok scThingL (fun vs H Q E h => spP_len (by rintro _ _ ⟨x, n, _, rfl, _⟩; rfl) h) (fun cdv A outer s H vs Q E hr h => ?_)
  refine body_of (Nm := ["_law_thing", "_law_size"]) h (pss_one (ps_ret (pe_and (pe_callB call_isi (by rfl) B.isi (by decide +kernel) (pa_cons (pv 0) (pa_cons (pe_bltn (v := .ty "int") (by rfl) B.int boot_int rfl) pa_nil)))
    (pe_and (pe_not (pe_callB call_isi (by rfl) B.isi (by decide +kernel) (pa_cons (pv 0) (pa_cons (pe_bltn (v := .ty "bool") (by rfl) B.bool (by decide +kernel) rfl) pa_nil))))
    (pe_one (pe_chain op_le op_lt pe_int (pv 0) (pv 1))))))) ?_
  rintro _ _ ⟨x, n, hx, rfl, rfl⟩
  cases x with
  | int i => exact run_ret (d_and (d_isi (d_var rfl) k_int_int) fun _ => d_and (d_not (d_isi (d_var rfl) k_int_bool)) fun _ => d_chain d_int (d_var rfl) rd_le (fun _ => d_var rfl) fun _ => rd_lt) rfl
  | bool b => exact run_ret (d_and (b := false) (d_isi (d_var rfl) k_bool_int) fun _ => d_and (b := false) (d_not (d_isi (d := .bool b) (T := "bool") (b := true) (d_var rfl) k_bool_bool)) fun z => (by cases z)) rfl
  | _ => cases hx
abbrev nJoin : List Str := ["_law_one", "_law_other", "_law_marks", "_law_turn", "_law_folding", "_law_least", "_law_k"]
theorem scJoin : FnScope nJoin ["_law_one", "_law_other"] (defScope sJoin) := ⟨rfl, rfl, rfl, by decide +kernel, rfl, by decide +kernel, by decide +kernel⟩
/-- one step of the joining, as data -/
theorem step_its {n : Nat} {f m : Nat → Nat} : (itsN n f).map (fun d => match d with
    | .int v => PyData.int (least (pick n f m v.toNat) : Nat)
    | _ => .none) = itsN n (stepJ n f m) := by
  unfold itsN
  rw [List.map_map]
  refine List.map_congr_left fun k _ => ?_
  show PyData.int (least (pick n f m ((f k : Nat) : Int).toNat) : Nat) = _
  rw [Int.toNat_natCast]
  rfl
theorem ok_join {f : Addr} {fd : FuncData} (F : Fun K "_law_joined" "_law_joined" sJoin f fd) (B : Bi mg) : FnOk P w K mg base CX0 1 f fd ["_law_one", "_law_other"] (spP K pJoin) := by
  refine F.ok scJoin (fun vs H Q E h => spP_len (by rintro _ _ ⟨n, p, q, _, rfl, _⟩; rfl) h) (fun cdv A outer s H vs Q E hr h => ?_)
  refine body_of (Nm := nJoin) h
    (pss_cons (ps_set (i := 2) scJoin.nd rfl (Or.inr rfl) (pe_listRg rfl (by rfl) B.list (prg_1 (by rfl) B.range (pe_callB call_len_seq (by rfl) B.len PySem.boot_len (pa_cons (pv 0) pa_nil)))))
    (pss_cons (ps_for PassesOwn.never rfl (pi_range1 (by rfl) B.range (pa_cons (pe_op op_mul pe_int (pe_callB call_len_seq (by rfl) B.len PySem.boot_len (pa_cons (pv 0) pa_nil))) pa_nil)) (pg_name (i := 3) scJoin.nd rfl (Or.inl rfl))
      (pss_one (ps_for PassesOwn.never rfl (pi_list (pe_lst (pa_cons (pv 0) (pa_cons (pv 1) pa_nil)))) (pg_name (i := 4) scJoin.nd rfl (Or.inr rfl))
        (pss_one (ps_set (i := 2) scJoin.nd rfl (Or.inr rfl)
          (pe_lc (own := [("_law_least", 5)]) (g := gName 5) rfl scJoin.nd (pi_tup (pv 4)) (blkOk_by (N := nJoin) (sc := defScope sJoin) (by decide +kernel))
            (fun _ _ _ _ _ => pg_name (i := 5) scJoin.nd rfl (Or.inr rfl)) (fun _ _ _ _ _ => pts_nil)
            (fun _ _ _ _ _ => pe_callB (r := rMin K) (cr_min rfl) (by rfl) B.min (by decide +kernel) (pa_cons
              (pe_lc (own := [("_law_k", 6)]) (g := gName 6) rfl scJoin.nd (pi_range1 (by rfl) B.range (pa_cons (pe_callB (r := rLenS K) call_len_seq (by rfl) B.len PySem.boot_len (pa_cons (pv 0) pa_nil)) pa_nil)) (blkOk_by (N := nJoin) (sc := relS _ (defScope sJoin)) (by decide +kernel))
                (fun _ _ _ _ _ => pg_name (i := 6) scJoin.nd rfl (Or.inl rfl))
                (fun _ _ _ _ _ => pts_one (pt_cmpR op_eq (pe_ix (r := rIxT K) ix_tup (pv 4) (pv 6) (fun _ _ => rfl)) (pv 5) (nomark _)))
                (fun _ _ _ _ _ => pe_ix (r := rIxL K) ix_list (pv 2) (pv 6) (fun _ _ => rfl))) pa_nil))))))))
    (pss_one (ps_ret (pv 2))))) ?_
  rintro _ _ ⟨n, p, q, hn, rfl, rfl⟩
  refine q_set (n_listRg (n := n) (d_len (d_var rfl) (lenN n p)) (by omega)).dat Free.no ?_
  refine q_forR (n := 2 * n) (s_one ((d_op d_int (d_len (d_var rfl) (lenN n p)) (rd_mul (.inl ⟨by decide, by decide⟩))).is (d2 := .int ((2 * n : Nat) : Int)) (by congr 1))) (by omega)
    (fun t τ' O' => (∃ a b, τ' = [some (tupN n p), some (tupN n q), some (.list (itsN n (iterJ n p q t))), a, b, none, none]) ∧ O' = none) ⟨⟨_, _, rfl⟩, rfl⟩ ?_ ?_
  · rintro t τ' O' ht ⟨⟨a, b, rfl⟩, rfl⟩
    refine ⟨Free.no, run_forL (n_lst (s_two (d_var rfl) (d_var rfl)) (by show 2 ≤ 1000; decide)).dat
      (fun k τ' O' => (∃ a b, τ' = [some (tupN n p), some (tupN n q), some (.list (itsN n (match k with
        | 0 => iterJ n p q t
        | 1 => stepJ n p (iterJ n p q t)
        | _ => iterJ n p q (t + 1)))), a, b, none, none]) ∧ O' = none) ⟨⟨_, _, rfl⟩, rfl⟩ ?_ ?_⟩
    · -- marks = [min(..) for least in folding], folding f, marks m
      have one : ∀ (f m : Nat → Nat) (a : Option PyData) (d : PyData), d ∈ itsN n f →
          EvD K (tCB (rMin K) (tCons (tLc (iRng1 (tCons (tCB (rLenS K) (tCons (tVar 0) tNil)) tNil)) (gName 6) (tTest (tOp rEq (tOp (rIxT K) (tVar 4) (tVar 6)) (tVar 5))) (tOp (rIxL K) (tVar 2) (tVar 6)) [6]) tNil))
            [some (tupN n p), some (tupN n q), some (.list (itsN n m)), a, some (tupN n f), some d, none] (match d with
              | .int v => PyData.int (least (pick n f m v.toNat) : Nat)
              | _ => .none) := fun f m a d hd => by
        obtain ⟨k, hk, rfl⟩ := List.mem_map.mp (show d ∈ (List.range n).map fun k => PyData.int (f k : Nat) from hd)
        have hk' := List.mem_range.mp hk
        show EvD K _ _ (PyData.int (least (pick n f m ((f k : Nat) : Int).toNat) : Nat))
        rw [Int.toNat_natCast]
        refine d_min (ns := (pick n f m (f k)).map fun x : Nat => (x : Int)) ((n_lcR (n := n) (fun t => decide (f t = f k)) (fun t => .int (m t : Nat)) (s_one (d_len (d_var rfl) (lenN n p))) (by omega) (by simp) (fun t ht => ?_) fun t ht _ => ?_).dat.is ?_) ?_ ?_
        · refine (b_of (d_op (d_op (d_var rfl) (d_var rfl) (rd_ixT (itsN_at ht))) (d_var rfl) rd_eqI)).is ?_
          rw [dec_nat]
        · exact d_op (d_var rfl) (d_var rfl) (rd_ixL (itsN_at ht))
        · unfold givenD pick
          rw [List.map_map, List.map_map]
          rfl
        · exact List.mem_map.mpr ⟨_, least_mem (pick_ne hk'), rfl⟩
        · intro y hy
          obtain ⟨x, hx, rfl⟩ := List.mem_map.mp hy
          have := least_le hx
          omega
      have asg : ∀ (f m : Nat → Nat) (a : Option PyData), EvD K _ [some (tupN n p), some (tupN n q), some (.list (itsN n m)), a, some (tupN n f), none, none] (.list (itsN n (stepJ n f m))) := fun f m a =>
        (n_mapT (te := tCB (rMin K) (tCons (tLc (iRng1 (tCons (tCB (rLenS K) (tCons (tVar 0) tNil)) tNil)) (gName 6) (tTest (tOp rEq (tOp (rIxT K) (tVar 4) (tVar 6)) (tVar 5))) (tOp (rIxL K) (tVar 2) (tVar 6)) [6]) tNil)) (j := 5) (vs := [5])
          _ (d_var (i := 4) rfl) (by rw [itsN_len]; omega) (by simp) fun d hd => one f m a d hd).dat.is (congrArg PyData.list step_its)
      rintro k d τ' O' hd ⟨⟨a, b, rfl⟩, rfl⟩
      rcases k with _ | _ | k
      · have ed : tupN n p = d := Option.some.inj hd
        subst ed
        exact ⟨Free.no, run_asg (asg p _ a) Free.no ⟨⟨_, _, rfl⟩, rfl⟩⟩
      · have ed : tupN n q = d := Option.some.inj hd
        subst ed
        exact ⟨Free.no, run_asg (asg q _ a) Free.no ⟨⟨_, _, rfl⟩, rfl⟩⟩
      · simp at hd
    · rintro τ' O' ⟨⟨a, b, rfl⟩, rfl⟩
      exact ⟨⟨_, _, rfl⟩, rfl⟩
  · rintro τ' O' ⟨⟨a, b, rfl⟩, rfl⟩
    exact run_ret (d_var rfl) rfl
end
end K57
/-! _law_yes, _law_no. -/
namespace K57
open PySem PySem.Spec PyProof.Rows L2 Evl
abbrev sYesL : Stmt := top 26
abbrev sNoL : Stmt := top 27
def pYesL : List PyData → PyData → Prop := fun ds d => ∃ (n : Nat) (p q : Nat → Nat), 1 ≤ n ∧ n ≤ 9 ∧ Par n p ∧ Par n q ∧ perm n p q = true ∧ ds = [tupN n p, tupN n q, .list ((prs n p q).map (trip n p q))] ∧ d = .bool true
def pNoL : List PyData → PyData → Prop := fun ds d => ∃ (n : Nat) (p q : Nat → Nat) (b a e : Nat), n ≤ 9 ∧ b < n ∧ a < n ∧ e < n ∧ p a = p b ∧ q a = q e ∧ goes n q p b e = false ∧ ds = [tupN n p, tupN n q, .tuple [.int (b : Nat), .int (a : Nat), .int (e : Nat)]] ∧ d = .bool true
theorem itsN_ints (n : Nat) (p : Nat → Nat) : itsN n p = ((List.range n).map fun k : Nat => (p k : Int)).map .int := by
  unfold itsN
  rw [List.map_map]
  rfl
theorem count_cast {f : Nat → Nat} {v : Nat} : ∀ l : List Nat, (l.map fun k : Nat => (f k : Int)).count (v : Int) = (l.map f).count v
  | [] => rfl
  | x :: r => by
    rw [List.map_cons, List.map_cons, List.count_cons, List.count_cons, count_cast r]
    have e : (((f x : Nat) : Int) == (v : Int)) = (f x == v) := by
      rw [Bool.eq_iff_iff, beq_iff_eq, beq_iff_eq]
      omega
    rw [e]
theorem sum_cast {g : Nat → Nat} : ∀ l : List Nat, (l.map fun k : Nat => ((g k : Nat) : Int)).sum = (((l.map g).sum : Nat) : Int)
  | [] => rfl
  | x :: r => by
    rw [List.map_cons, List.map_cons, List.sum_cons, List.sum_cons, sum_cast r]
    omega
theorem home_in {n : Nat} {p q : Nat → Nat} {b e : Nat} (h : goes n q p b e = true) : home n p q b e ∈ amids n q p b e := by
  obtain ⟨h1, h2, h3⟩ := home_of h
  exact List.mem_filter.mpr ⟨List.mem_range.mpr h1, hit_iff.mpr ⟨h2, h3⟩⟩
theorem nats_any {l : List Nat} {x : Nat} (h : x ∈ l) : ((l.map fun t => PyData.int (t : Nat)).any fun z => PyData.eqv z (.int (x : Nat))) = true := by
  rw [List.any_eq_true]
  exact ⟨.int (x : Nat), List.mem_map.mpr ⟨x, h, rfl⟩, by simp [PyData.eqv]⟩
theorem int_shaped (i : Int) : SeqAt.shaped (.int i) = true := by
  simp [SeqAt.shaped, PyData.canLay0, PyData.depth]
theorem eqv_nil : PyData.eqv (.list []) (.list []) = true := by simp [PyData.eqv, PyData.eqvAll]
section
variable {P : Program} {w : World} {K : PySem.W.Frag} {mg : Str → Option Value} {base : Heap}
abbrev cYesL (P : Program) (w : World) (K : PySem.W.Frag) (mg : Str → Option Value) (base : Heap) := Cal P w K mg base CX0 3 "_law_yes" ["_law_one", "_law_other", "_law_told"] (spP K pYesL)
abbrev cNoL (P : Program) (w : World) (K : PySem.W.Frag) (mg : Str → Option Value) (base : Heap) := Cal P w K mg base CX0 2 "_law_no" ["_law_one", "_law_other", "_law_told"] (spP K pNoL)
abbrev nYesL : List Str := ["_law_one", "_law_other", "_law_told", "_law_pairs_here", "_law_pair", "_law_entry", "_law_marks", "_law_mark"]
theorem scYesL : FnScope nYesL ["_law_one", "_law_other", "_law_told"] (defScope sYesL) := ⟨rfl, rfl, rfl, by decide +kernel, rfl, by decide +kernel, by decide +kernel⟩
theorem ok_yesL {f : Addr} {fd : FuncData} (F : Fun K "_law_yes" "_law_yes" sYesL f fd) (B : Bi mg) (c1 : cPairs P w K mg base) (c2 : cThingL P w K mg base) (c3 : cAmidL P w K mg base) (c4 : cJoin P w K mg base) : FnOk P w K mg base CX0 3 f fd ["_law_one", "_law_other", "_law_told"] (spP K pYesL) := by
  refine F.ok scYesL (fun vs H Q E h => spP_len (by rintro _ _ ⟨n, p, q, _, _, _, _, _, rfl, _⟩; rfl) h) (fun cdv A outer s H vs Q E hr h => ?_)
  have hr1 : Room 1 _ := hr.mono (by decide)
  have hu65 : (A.deeper (envOfC "_law_yes" (defScope sYesL) s.heap.objs.size f cdv)).units + 65 < cLine := by have := hr.un; omega
  refine body_of (Nm := nYesL) h
    (pss_cons (ps_set (i := 3) scYesL.nd rfl (Or.inl rfl) (pe_cal c1 hr (pa_cons (pv 0) (pa_cons (pv 1) pa_nil))))
    (pss_cons (ps_if (PW.pt (pw_or (pt_not (pt_val (pe_callB call_isi (by rfl) B.isi (by decide +kernel) (pa_cons (pv 2) (pa_cons (pe_bltn (v := .ty "list") (by rfl) B.list boot_list rfl) pa_nil)))))
        (pw_or1 (pt_cmpR op_ne (pe_callB call_len_seq (by rfl) B.len PySem.boot_len (pa_cons (pv 2) pa_nil)) (pe_callB call_len_seq (by rfl) B.len PySem.boot_len (pa_cons (pv 3) pa_nil)) (nomark _))))) (pss_one (ps_ret pe_bl)) pss_nil)
    (pss_cons (ps_for PassesOwn.never rfl (pi_zip (by rfl) B.zip (pa_cons (pv 3) (pa_cons (pv 2) pa_nil))) (pg_tup rfl (pgs_cons (pg_name (i := 4) scYesL.nd rfl (Or.inl rfl)) (pgs_cons (pg_name (i := 5) scYesL.nd rfl (Or.inl rfl)) pgs_nil)))
      (pss_cons (ps_if (PW.pt (pw_or (pt_not (pt_val (pe_callB call_isi (by rfl) B.isi (by decide +kernel) (pa_cons (pv 5) (pa_cons (pe_bltn (v := .ty "tuple") (by rfl) B.tuple boot_tuple rfl) pa_nil)))))
          (pw_or (pt_cmpR op_ne (pe_callB call_len_seq (by rfl) B.len PySem.boot_len (pa_cons (pv 5) pa_nil)) pe_int (nomark _))
          (pw_or1 (pt_cmpR (op_neD hr.units) (pe_slice sl_tupA (pv 5) po_none (po_some pe_int)) (pv 4) (nomark _)))))) (pss_one (ps_ret pe_bl)) pss_nil)
      (pss_one (ps_if (PW.pt (pw_or (pt_not (pt_val (pe_cal c2 hr1 (pa_cons (pe_ix (r := rIxT K) ix_tup (pv 5) pe_int (fun _ _ => rfl)) (pa_cons (pe_callB call_len_seq (by rfl) B.len PySem.boot_len (pa_cons (pv 0) pa_nil)) pa_nil)))))
          (pw_or1 (pt_cmpR (op_notInD hu65) (pe_ix (r := rIxT K) ix_tup (pv 5) pe_int (fun _ _ => rfl))
            (pe_cal c3 hr1 (pa_cons (pv 1) (pa_cons (pv 0) (pa_cons (pe_ix (r := rIxT K) ix_tup (pv 4) pe_int (fun _ _ => rfl)) (pa_cons (pe_ix (r := rIxT K) ix_tup (pv 4) pe_int (fun _ _ => rfl)) pa_nil))))) (by rfl))))) (pss_one (ps_ret pe_bl)) pss_nil))))
    (pss_cons (ps_set (i := 6) scYesL.nd rfl (Or.inr rfl) (pe_cal c4 hr1 (pa_cons (pv 0) (pa_cons (pv 1) pa_nil))))
    (pss_cons (ps_if (pt_cmpR (op_neD hr.units) (pe_lc (own := [("_law_pair", 4)]) (g := gName 4) rfl scYesL.nd (pi_list (pv 3)) (blkOk_by (N := nYesL) (sc := defScope sYesL) (by decide +kernel))
          (fun _ _ _ _ _ => pg_name (i := 4) scYesL.nd rfl (Or.inl rfl))
          (fun _ _ _ _ _ => pts_one (pt_cmpR op_ne (pe_ix (r := rIxL K) ix_list (pv 6) (pe_ix (r := rIxT K) ix_tup (pv 4) pe_int (fun _ _ => rfl)) (fun _ _ => rfl)) (pe_ix (r := rIxL K) ix_list (pv 6) (pe_ix (r := rIxT K) ix_tup (pv 4) pe_int (fun _ _ => rfl)) (fun _ _ => rfl)) (nomark _)))
          (fun _ _ _ _ _ => pv 4)) (pe_lst pa_nil) (nomark _)) (pss_one (ps_ret pe_bl)) pss_nil)
    (pss_one (ps_ret (pe_cmpR op_eq (pe_callB call_len_seq (by rfl) B.len PySem.boot_len (pa_cons (pv 3) pa_nil))
        (pe_callB (cr_sum rfl) (by rfl) B.sum (by decide +kernel) (pa_cons (pe_lc (own := [("_law_mark", 7)]) (g := gName 7) rfl scYesL.nd (pi_list (pv 6)) (blkOk_by (N := nYesL) (sc := defScope sYesL) (by decide +kernel))
          (fun _ _ _ _ _ => pg_name (i := 7) scYesL.nd rfl (Or.inl rfl)) (fun _ _ _ _ _ => pts_nil)
          (fun _ _ _ _ _ => pe_bmK K rfl (pe_bm (r := rCntI K) PySem.F.plainAttrs_list PySem.F.slot_list_count PySem.F.type_list_count mt_lcount (pv 6) (pa_cons (pv 7) pa_nil)))) pa_nil)) (nomark _))))))))) ?_
  rintro _ _ ⟨n, p, q, h1, hn, hp, hq, hpm, rfl, rfl⟩
  refine q_set (d_call (s_two (d_var rfl) (d_var rfl)) ⟨n, p, q, hn, rfl, rfl⟩) Free.no ?_
  refine q_when (b := false) ((b_or (a := false) (b_not (b_B (d_isi (d_var rfl) (b := true) (by exact k_lst_lst)))) fun _ => (b_of (d_op (d_len (d_var rfl) rfl) (d_len (d_var rfl) rfl) rd_neI)).is (b := false) ?_).is rfl) (fun z => nomatch z) fun _ => ?_
  · rw [List.length_map, List.length_map]
    simp
  have C := cls_join hpm (by omega : 0 < n)
  refine q_forZ (s_two (d_var rfl) (d_var rfl)) (by rw [List.length_map, List.length_map])
    (fun k τ' O' => (∃ a b, τ' = [some (tupN n p), some (tupN n q), some (.list ((prs n p q).map (trip n p q))), some (.list ((prs n p q).map pr2)), a, b, none, none]) ∧ O' = none) ⟨⟨_, _, rfl⟩, rfl⟩ ?_ ?_
  · rintro k d e τ' O' hd he ⟨⟨a, b, rfl⟩, rfl⟩
    obtain ⟨x, hx, rfl⟩ := map_at hd
    obtain ⟨y, hy, rfl⟩ := map_at he
    rw [hx] at hy
    cases hy
    obtain ⟨x1, x2, x3⟩ := mem_prs.mp (List.mem_of_getElem? hx)
    have g' := perm_iff.mp hpm _ _ x1 x2 x3
    obtain ⟨m1, m2, m3⟩ := home_of g'
    refine ⟨⟨Free.no, Free.no⟩, ?_⟩
    refine q_when (b := false) ((b_or (a := false) (b_not (b_B (d_isi (d_var rfl) (b := true) (by exact k_tup_tup)))) fun _ => b_or (a := false) ((b_of (d_op (d_len (n := 3) (d_var rfl) rfl) d_int rd_neI)).is (by decide)) fun _ =>
      (b_of (d_op ((d_slT (d_var rfl) p_none (p_some d_int)).is (d2 := pr2 x) rfl) (d_var rfl) (rd_neD (shaped2 _ _) (shaped2 _ _)))).is (b := false) ?_).is rfl) (fun z => nomatch z) fun _ => ?_
    · show (!PyData.eqv (.tuple [.int (x.1 : Nat), .int (x.2 : Nat)]) (.tuple [.int (x.1 : Nat), .int (x.2 : Nat)])) = false
      rw [eqv2]
      simp
    refine run_if (b := false) ((b_or (a := false) ((b_not (b_B (d_call (s_two (d_op (d := .int (home n p q x.1 x.2 : Nat)) (d_var rfl) d_int (rd_ixT (k := 2) rfl)) (d_len (d_var rfl) (lenN n p))) ⟨_, _, rfl, rfl, rfl⟩))).is ?_) fun _ =>
      (b_of (d_op (d_op (d := .int (home n p q x.1 x.2 : Nat)) (d_var rfl) d_int (rd_ixT (k := 2) rfl)) (d_call (s_cons (d_var rfl) (s_cons (d_var rfl) (s_two (d_op (d_var rfl) d_int (rd_ixT (k := 0) rfl)) (d_op (d_var rfl) d_int (rd_ixT (k := 1) rfl))))) ⟨n, q, p, x.1, x.2, by omega, x1, x2, rfl, rfl⟩) (rd_notIn (int_shaped _) (nats_shaped _)))).is (b := false) ?_).is rfl)
      (fun z => nomatch z) fun _ => run_next ⟨⟨_, _, rfl⟩, rfl⟩
    · rw [isT_nat m1]
      rfl
    · rw [nats_any (home_in g')]
      rfl
  · rintro τ' O' ⟨⟨a, b, rfl⟩, rfl⟩
    refine q_set (d_call (s_two (d_var rfl) (d_var rfl)) ⟨n, p, q, hn, rfl, rfl⟩) Free.no ?_
    refine q_when (b := false) ((b_of (d_op ((n_pickL (fun _ => false) (fun d => d) (d_var rfl) (by have := prs_le (p := p) (q := q) hn; rw [List.length_map]; omega) (by simp) (fun d hd => ?_) fun d _ _ => d_var rfl).dat.is (d2 := .list []) ?_) (n_lst s_nil (Nat.zero_le _)).dat (rd_neD nil_shaped nil_shaped))).is (b := false) ?_) (fun z => nomatch z) fun _ => ?_
    · obtain ⟨x, hx, rfl⟩ := List.mem_map.mp hd
      obtain ⟨x1, x2, x3⟩ := mem_prs.mp hx
      refine (b_of (d_op (d_op (d_var rfl) (d_op (d_var rfl) d_int (rd_ixT (k := 0) rfl)) (rd_ixL (itsN_at x1))) (d_op (d_var rfl) (d_op (d_var rfl) d_int (rd_ixT (k := 1) rfl)) (rd_ixL (itsN_at x2))) rd_neI)).is ?_
      rw [(cls_iff hpm C x1 x2).mpr x3]
      simp
    · rw [List.filter_eq_nil_iff.mpr fun _ _ => Bool.false_ne_true]
      rfl
    · rw [eqv_nil]
      rfl
    · refine run_ret (d_op (d_len (d_var rfl) rfl) (d_sum (ns := (List.range n).map fun b : Nat => ((((List.range n).map (joinJ n p q)).count (joinJ n p q b) : Nat) : Int)) ((n_mapL (fun d => match d with
        | .int v => .int (((List.range n).map fun k : Nat => (joinJ n p q k : Int)).count v : Nat)
        | _ => .none) (d_var rfl) (by rw [itsN_len]; omega) (by simp) fun d hd => ?_).dat.is ?_)) rd_eqI) ?_
      · obtain ⟨k, hk, rfl⟩ := List.mem_map.mp (show d ∈ (List.range n).map fun k => PyData.int (joinJ n p q k : Nat) from hd)
        exact d_count ((d_var rfl).is (congrArg PyData.list (itsN_ints n (joinJ n p q)))) (d_var rfl)
      · congr 1
        unfold itsN
        rw [List.map_map, List.map_map]
        refine List.map_congr_left fun k _ => ?_
        show PyData.int _ = PyData.int _
        rw [count_cast]
      · show PyData.bool _ = PyData.bool true
        congr 1
        rw [sum_cast, ← prs_count hpm (by omega), List.length_map]
        exact decide_eq_true rfl
abbrev nNoL : List Str := ["_law_one", "_law_other", "_law_told", "_law_begin", "_law_amid_here", "_law_end", "_law_thing"]
theorem scNoL : FnScope nNoL ["_law_one", "_law_other", "_law_told"] (defScope sNoL) := ⟨rfl, rfl, rfl, by decide +kernel, rfl, by decide +kernel, by decide +kernel⟩
theorem ok_noL {f : Addr} {fd : FuncData} (F : Fun K "_law_no" "_law_no" sNoL f fd) (B : Bi mg) (c2 : cThingL P w K mg base) (c3 : cAmidL P w K mg base) : FnOk P w K mg base CX0 2 f fd ["_law_one", "_law_other", "_law_told"] (spP K pNoL) := by
  refine F.ok scNoL (fun vs H Q E h => spP_len (by rintro _ _ ⟨n, p, q, b, a, e, _, _, _, _, _, _, _, rfl, _⟩; rfl) h) (fun cdv A outer s H vs Q E hr h => ?_)
  refine body_of (Nm := nNoL) h
    (pss_cons (ps_if (PW.pt (pw_or (pt_not (pt_val (pe_callB call_isi (by rfl) B.isi (by decide +kernel) (pa_cons (pv 2) (pa_cons (pe_bltn (v := .ty "tuple") (by rfl) B.tuple boot_tuple rfl) pa_nil)))))
        (pw_or (pt_cmpR op_ne (pe_callB call_len_seq (by rfl) B.len PySem.boot_len (pa_cons (pv 2) pa_nil)) pe_int (nomark _))
        (pw_or1 (pt_not (pt_val (pe_callB (cr_all rfl) (by rfl) B.all (by decide +kernel) (pa_cons (pe_lc (own := [("_law_thing", 6)]) (g := gName 6) rfl scNoL.nd (pi_tup (pv 2)) (blkOk_by (N := nNoL) (sc := defScope sNoL) (by decide +kernel))
          (fun _ _ _ _ _ => pg_name (i := 6) scNoL.nd rfl (Or.inl rfl)) (fun _ _ _ _ _ => pts_nil)
          (fun _ _ _ _ _ => pe_cal c2 hr (pa_cons (pv 6) (pa_cons (pe_callB (r := rLenS K) call_len_seq (by rfl) B.len PySem.boot_len (pa_cons (pv 0) pa_nil)) pa_nil)))) pa_nil)))))))) (pss_one (ps_ret pe_bl)) pss_nil)
    (pss_cons (ps_asg (pv 2) (pg_tup rfl (pgs_cons (pg_name (i := 3) scNoL.nd rfl (Or.inl rfl)) (pgs_cons (pg_name (i := 4) scNoL.nd rfl (Or.inl rfl)) (pgs_cons (pg_name (i := 5) scNoL.nd rfl (Or.inl rfl)) pgs_nil)))))
    (pss_cons (ps_if (PW.pt (pw_or (pt_cmpR op_ne (pe_ix (r := rIxT K) ix_tup (pv 0) (pv 3) (fun _ _ => rfl)) (pe_ix (r := rIxT K) ix_tup (pv 0) (pv 4) (fun _ _ => rfl)) (nomark _))
        (pw_or1 (pt_cmpR op_ne (pe_ix (r := rIxT K) ix_tup (pv 1) (pv 4) (fun _ _ => rfl)) (pe_ix (r := rIxT K) ix_tup (pv 1) (pv 5) (fun _ _ => rfl)) (nomark _))))) (pss_one (ps_ret pe_bl)) pss_nil)
    (pss_one (ps_ret (pe_cmpR (op_eqD hr.units) (pe_cal c3 hr (pa_cons (pv 1) (pa_cons (pv 0) (pa_cons (pv 3) (pa_cons (pv 5) pa_nil))))) (pe_lst pa_nil) (nomark _))))))) ?_
  rintro _ _ ⟨n, p, q, b, a, e, hn, hb, ha, he, h1, h2, hg, rfl, rfl⟩
  refine q_when (b := false) ((b_or (a := false) (b_not (b_B (d_isi (d_var rfl) (b := true) (by exact k_tup_tup)))) fun _ => b_or (a := false) ((b_of (d_op (d_len (n := 3) (d_var rfl) rfl) d_int rd_neI)).is (by decide)) fun _ =>
    (b_not (b_B (d_all (bs := [true, true, true]) ((n_mapT (fun _ => .bool true) (d_var rfl) (by show 3 ≤ 40000; decide) (by simp) fun d hd => ?_).dat.is rfl)))).is (b := false) rfl).is rfl) (fun z => nomatch z) fun _ => ?_
  · have key : ∀ k : Nat, k < n → pThing [.int (k : Nat), .int (n : Nat)] (.bool true) := fun k hk => ⟨_, _, rfl, rfl, by rw [isT_nat hk]⟩
    have hd' : d = .int (b : Nat) ∨ d = .int (a : Nat) ∨ d = .int (e : Nat) := by simpa using hd
    rcases hd' with rfl | rfl | rfl
    · exact d_call (s_two (d_var rfl) (d_len (d_var rfl) (lenN n p))) (key b hb)
    · exact d_call (s_two (d_var rfl) (d_len (d_var rfl) (lenN n p))) (key a ha)
    · exact d_call (s_two (d_var rfl) (d_len (d_var rfl) (lenN n p))) (key e he)
  refine q_unp3 (d_var rfl) ?_
  refine q_when (b := false) ((b_or (a := false) ((b_of (d_op (d_op (d_var rfl) (d_var rfl) (rd_ixT (itsN_at hb))) (d_op (d_var rfl) (d_var rfl) (rd_ixT (itsN_at ha))) rd_neI)).is ?_) fun _ =>
    (b_of (d_op (d_op (d_var rfl) (d_var rfl) (rd_ixT (itsN_at ha))) (d_op (d_var rfl) (d_var rfl) (rd_ixT (itsN_at he))) rd_neI)).is (b := false) ?_).is rfl) (fun z => nomatch z) fun _ => ?_
  · rw [h1]
    simp
  · rw [h2]
    simp
  refine run_ret (d_op (d_call (s_cons (d_var rfl) (s_cons (d_var rfl) (s_two (d_var rfl) (d_var rfl)))) ⟨n, q, p, b, e, by omega, hb, he, rfl, rfl⟩) (n_lst s_nil (Nat.zero_le _)).dat (rd_eqD (nats_shaped _) nil_shaped)) ?_
  rw [amids_nil.mpr hg, nats_eqv]
  rfl
end
end K57
/-! _law_told_right. -/
namespace K57
open PySem PySem.Spec PyProof.Rows L2 Evl
abbrev sRightT : Stmt := top 28
/-- a def of the text that may raise, called where nothing is raised -/
theorem pe_calX {X : Cx} {k : Nat} {x : Str} {ps : List Str} {sp : Sp} {p pos : Pos} {e : Expr} {es : List Expr} {t : TA} (c : Cal X.prog X.w X.K X.mg X.base (L2.CX X.prog X.w) k x ps sp) (hr : Room k X.A) (ha : PA X (e :: es) t) (hg : Gl X x := by rfl)
    (hdb : (x == ("__debug__" : Str)) = false := by decide) (he : starEach (e :: es) X.env = (false, eval e X.env) :: starEach es X.env := by rfl) (hpl : (backTo pos (starEach es X.env)).any (·.1) = false := by rfl) :
    PE X (.Call (.Name x p) (e :: es) [] pos) (tCall sp [] E0 t) := by
  obtain ⟨f, fd, hm, hk, hb, F⟩ := c.ex
  exact pe_call F hr hg hm hk hb .nil passL ha hdb he hpl
def word (n : Nat) (p q : Nat → Nat) : Str := if perm n p q = true then "yes" else "no"
theorem word_yes {n : Nat} {p q : Nat → Nat} (h : perm n p q = true) : word n p q = "yes" := if_pos h
theorem word_no {n : Nat} {p q : Nat → Nat} (h : perm n p q = false) : word n p q = "no" := if_neg (by rw [h]; decide)
def pTR : List PyData → PyData → Prop := fun ds d => ∃ (n : Nat) (p q : Nat → Nat), 1 ≤ n ∧ n ≤ 9 ∧ Par n p ∧ Par n q ∧ ds = [tupN n p, tupN n q, .str (word n p q)] ∧ d = .bool true
section
variable {P : Program} {w : World} {K : PySem.W.Frag} {mg : Str → Option Value} {base : Heap} {C : Addr}
abbrev cPerm (P : Program) (w : World) (K : PySem.W.Frag) (mg : Str → Option Value) (base : Heap) (C : Addr) := Cal P w K mg base (L2.CX P w) 6 "permuted" ["one", "other"] (spPerm K C)
abbrev cChk (P : Program) (w : World) (K : PySem.W.Frag) (mg : Str → Option Value) (base : Heap) (C : Addr) := Cal P w K mg base (L2.CX P w) 6 "check_permuted" ["one", "other", "answer"] (spX K C pChk badThree)
theorem d_callX {τ : List (Option PyData)} {d : PyData} {Pd : List PyData → PyData → Prop} {Bad : List PyData → Prop} {E : XK} {t : TA} {ds : List PyData} (h : EvS K t τ ds) (hp : Pd ds d) : EvD K (tCall (spX K C Pd Bad) [] E t) τ d := fun σ G H e s Q q =>
  h σ G H e s _ fun vs G1 H1 r1 da => ⟨G1, ds, r1.i, by rw [List.append_nil]; exact da, .inr ⟨d, hp, fun v G2 H2 r2 dv => q v G2 H2 (r1.trans r2) dv⟩⟩
theorem res_word {n : Nat} {p q : Nat → Nat} {d : PyData} (h : resD n p q d) : ∃ x, d = .tuple [.str (word n p q), x] := by
  rcases h with ⟨h, rfl⟩ | ⟨h, b, a, e, _, _, _, _, _, _, rfl⟩
  · rw [word_yes h]
    exact ⟨_, rfl⟩
  · rw [word_no h]
    exact ⟨_, rfl⟩
theorem d_perm {τ : List (Option PyData)} {E : XK} {t : TA} {n : Nat} {p q : Nat → Nat} (hn : n ≤ 9) (hp : Par n p) (hq : Par n q) (h : EvS K t τ [tupN n p, tupN n q]) : EvD K (tOp (rIxT K) (tCall (spPerm K C) [] E t) (tC (.int 0))) τ (.str (word n p q)) := fun σ G H e s Q k =>
  h σ G H e s _ fun vs G1 H1 r1 da => ⟨G1, _, r1.i, by rw [List.append_nil]; exact da, .inr ⟨n, p, q, hn, hp, hq, rfl, fun v d G2 H2 rd r2 dv _ => by
    obtain ⟨x, rfl⟩ := res_word rd
    exact rd_ixT (K := K) (k := 0) (d := .str (word n p q)) rfl G2 H2 v (.int 0) r2.i dv (.int 0) Q fun v' G3 H3 r3 dv' => k v' G3 H3 ((r1.trans r2).trans r3) dv'⟩⟩
theorem _root_.K57.RD.is {r : R2} {d1 d2 : PyData} {a b : Bool} (h : RD K r d1 d2 (.bool a)) (e : a = b) : RD K r d1 d2 (.bool b) := e ▸ h
theorem raw_no {W : Option Addr} {τ : List (Option PyData)} {O : Own} {c : TT} {t w : TS} {D : Ends} {G0 H0 G H : Hp} {σ : L2.St} (at_ : At K W G0 H0 τ O σ G H) (h : EvB K c τ false) (k : ∀ G2 H2, Gr G H G2 H2 → w D σ H2) : tSeq (tIfS c t tNext) w D σ H :=
  h σ G H at_.r.i at_.st _ fun G2 H2 r => k G2 H2 r
theorem raw_yes {W : Option Addr} {τ : List (Option PyData)} {O : Own} {c : TT} {t w : TS} {D : Ends} {G0 H0 G H : Hp} {σ : L2.St} (at_ : At K W G0 H0 τ O σ G H) (h : EvB K c τ true) (k : ∀ G2 H2, Gr G H G2 H2 → t { D with nx := w D } σ H2) : tSeq (tIfS c t tNext) w D σ H :=
  h σ G H at_.r.i at_.st _ fun G2 H2 r => k G2 H2 r
abbrev nRightT : List Str := ["_law_one", "_law_other", "_law_due", "_law_answer"]
theorem scRightT : FnScope nRightT ["_law_one", "_law_other", "_law_due"] (defScope sRightT) := ⟨rfl, rfl, rfl, by decide +kernel, rfl, by decide +kernel, by decide +kernel⟩
theorem yes_ne_no : decide (("yes" : Str) = "no") = false := by decide
theorem no_ne_yes' : decide (("yes" : Str) = "no") = false := by decide
theorem no_ne_yes : decide (("no" : Str) = "yes") = false := by decide
theorem ok_rightT {f : Addr} {fd : FuncData} (F : Fun K "_law_told_right" "_law_told_right" sRightT f fd) (B : Bi mg) (c1 : cPerm P w K mg base C) (c2 : cChk P w K mg base C) (c3 : cYesL P w K mg base) (c4 : cNoL P w K mg base) :
    FnOk P w K mg base CX0 7 f fd ["_law_one", "_law_other", "_law_due"] (spP K pTR) := by
  refine F.ok scRightT (fun vs H Q E h => spP_len (by rintro _ _ ⟨n, p, q, _, _, _, _, rfl, _⟩; rfl) h) (fun cdv A outer s H vs Q E hr h => ?_)
  have hr3 : Room 3 _ := hr.mono (by decide)
  have hr2 : Room 2 _ := hr.mono (by decide)
  refine body_of (Nm := nRightT) h
    (pss_cons (ps_set (i := 3) scRightT.nd rfl (Or.inl rfl) (pe_calX c1 hr (pa_cons (pv 0) (pa_cons (pv 1) pa_nil))))
    (pss_cons (ps_if (PW.pt (pw_or (pt_not (pt_val (pe_callB call_isi (by rfl) B.isi (by decide +kernel) (pa_cons (pv 3) (pa_cons (pe_bltn (v := .ty "tuple") (by rfl) B.tuple boot_tuple rfl) pa_nil)))))
        (pw_or (pt_cmpR op_ne (pe_callB call_len_seq (by rfl) B.len PySem.boot_len (pa_cons (pv 3) pa_nil)) pe_int (nomark _))
        (pw_or1 (pt_cmpR op_ne (pe_ix (r := rIxT K) ix_tup (pv 3) pe_int (fun _ _ => rfl)) (pv 2) (nomark _)))))) (pss_one (ps_ret pe_bl)) pss_nil)
    (pss_cons (ps_if (PW.pt (pw_or (PW.pt (pw_and (pt_cmpR op_eq (pv 2) pe_str (nomark _)) (pw_and1 (pt_not (pt_val (pe_cal c3 hr3 (pa_cons (pv 0) (pa_cons (pv 1) (pa_cons (pe_ix (r := rIxT K) ix_tup (pv 3) pe_int (fun _ _ => rfl)) pa_nil)))))))))
        (pw_or1 (PW.pt (pw_and (pt_cmpR op_eq (pv 2) pe_str (nomark _)) (pw_and1 (pt_not (pt_val (pe_cal c4 hr2 (pa_cons (pv 0) (pa_cons (pv 1) (pa_cons (pe_ix (r := rIxT K) ix_tup (pv 3) pe_int (fun _ _ => rfl)) pa_nil)))))))))))) (pss_one (ps_ret pe_bl)) pss_nil)
    (pss_cons (ps_if (pt_cmp (pc_notN (pe_calX c2 hr (pa_cons (pv 0) (pa_cons (pv 1) (pa_cons (pv 3) pa_nil)))))) (pss_one (ps_ret pe_bl)) pss_nil)
    (pss_cons (ps_if (pt_cmpR op_eq (pv 2) pe_str (nomark _)) (pss_one (ps_expr (pe_bm0 PySem.F.plainAttrs_list PySem.F.slot_list_clear PySem.F.type_list_clear mt_clear (pe_ix (r := rIxT K) ix_tup (pv 3) pe_int (fun _ _ => rfl))))) pss_nil)
    (pss_one (ps_ret (pe_cmpR op_eq (pe_ix (r := rIxT K) ix_tup (pe_calX c1 hr (pa_cons (pv 0) (pa_cons (pv 1) pa_nil))) pe_int (fun _ _ => rfl)) (pv 2) (nomark _))))))))) ?_
  rintro _ _ ⟨n, p, q, h1, hn, hp, hq, rfl, rfl⟩
  intro D G0 H0 σ G H at_ kn kr
  show tCall (spPerm K C) [] E0 (tCons (tVar 0) (tCons (tVar 1) tNil)) σ H _
  have ev : EvS K (tCons (tVar 0) (tCons (tVar 1) tNil)) (begin_ nRightT.length [tupN n p, tupN n q, .str (word n p q)]) [tupN n p, tupN n q] := s_two (d_var rfl) (d_var rfl)
  refine ev σ G H at_.r.i at_.st _ fun vs G1 H1 r1 da => ⟨G1, _, r1.i, by rw [List.append_nil]; exact da, .inr ⟨n, p, q, hn, hp, hq, rfl, fun v d G2 H2 rd r2 dv fr => ?_⟩⟩
  have a2 := ((at_.up r1).up r2).set dv (i := 3) Free.no
  have e2 : Ex H H2 := (r1.trans r2).ex
  obtain ⟨x, ed⟩ := res_word rd
  have fin : ∀ (τ' : Option PyData) (σ' : L2.St) (G' H' : Hp), At K none G0 H0 [some (tupN n p), some (tupN n q), some (.str (word n p q)), τ'] none σ' G' H' →
      tRet (tOp rEq (tOp (rIxT K) (tCall (spPerm K C) [] E0 (tCons (tVar 0) (tCons (tVar 1) tNil))) (tC (.int 0))) (tVar 2)) D σ' H' := fun τ' σ' G' H' a' =>
    (run_ret (W := none) (N := fun _ _ => False) (O := none) (P := fun x => x = .bool true) (d_op (d_perm hn hp hq (s_two (d_var rfl) (d_var rfl))) (d_var rfl) rd_eqS) (by rw [decide_eq_true rfl])) D G0 H0 σ' G' H' a' (fun _ _ _ _ _ z => z.elim) kr
  have tw : lenD (.tuple [.str (word n p q), x]) = some 2 := rfl
  rw [ed] at a2
  refine raw_no a2 ((b_or (a := false) (b_not (b_B (d_isi (d_var rfl) (b := true) (by exact k_tup_tup)))) fun _ => b_or (a := false) ((b_of (d_op (d_len (d_var rfl) tw) d_int rd_neI)).is (by decide)) fun _ =>
    (b_of (d_op (d_op (d_var rfl) d_int (rd_ixT (k := 0) rfl)) (d_var rfl) rd_neS)).is (b := false) (by rw [decide_eq_true rfl]; rfl)).is rfl) fun G3 H3 r3 => ?_
  have a3 := a2.up r3
  cases hpm : perm n p q with
  | true =>
    rcases rd with ⟨_, rfl⟩ | ⟨z, _⟩
    · have ex : x = .list ((prs n p q).map (trip n p q)) := by
        injection ed with ed
        injection ed with _ ed
        injection ed with ed
        exact ed.symm
      subst ex
      obtain ⟨t, l, ys, rfl, ht, hl, hf⟩ := fr hpm
      have hlH : H l = none := ex_free r1.ex hf
      rw [word_yes hpm] at a3
      refine raw_no a3 (b_or (a := false) (b := false) ?_ fun _ => ?_) fun G4 H4 r4 => ?_
      · refine b_and (a := true) (b := false) (b_of (d_op (d_var rfl) d_str (rd_eqS.is rfl))) fun _ => ?_
        exact b_not (a := true) (b_B (d_call (s_cons (d_var rfl) (s_two (d_var rfl) (d_op (d_var rfl) d_int (rd_ixT (k := 1) rfl)))) ⟨n, p, q, h1, hn, hp, hq, hpm, rfl, rfl⟩))
      · exact b_and (a := false) (b := true) (b_of (d_op (d_var rfl) d_str (rd_eqS.is no_ne_yes'))) (fun z => nomatch z)
      have a4 := a3.up r4
      refine raw_no a4 ((b_B (d_notN (d_callX (s_cons (d_var rfl) (s_two (d_var rfl) (d_var rfl))) ⟨n, p, q, _, hn, hp, hq, .inl ⟨hpm, rfl⟩, rfl, rfl⟩))).is rfl) fun G5 H5 r5 => ?_
      have a5 := a4.up r5
      refine raw_yes a5 (b_of (d_op (d_var rfl) d_str (rd_eqS.is rfl))) fun G6 H6 r6 => ?_
      have e6 : Ex H2 H6 := ((r3.ex.trans r4.ex).trans r5.ex).trans r6.ex
      have ht6 := e6 t _ ht
      have hl6 := e6 l _ hl
      refine ⟨.ref t, ?_, t, _, 1, .ref l, rfl, rfl, .inl (.inl ht6), rfl, .inl ⟨rfl, ys, .inl (.inl hl6)⟩, l, ys, rfl, rfl, hl6, ?_⟩
      · exact List.getElem?_set_self (by rw [at_.st.len]; exact (by decide : 3 < 4))
      have eG : Ex H (upd H6 l (.lst [])) := fun b o e => by
        rw [upd_ne (ne_of_none e hlH)]
        exact e6 b o (e2 b o e)
      have r0 := at_.r
      refine fin none (σ.set 3 _) G _ ⟨⟨r0.g, fun b o e => eG b o (r0.i b o e), fun b o n e => eG b o (r0.h b o n e), r0.s⟩, at_.st.unset _ 3, OwnOk.no, WellOk.no, fun _ z => nomatch z⟩
    · rw [hpm] at z
      cases z
  | false =>
    rcases rd with ⟨z, _⟩ | ⟨z, b, a, e, hb, ha, he, g1, g2, g3, rfl⟩
    · rw [hpm] at z
      cases z
    · have ex : x = .tuple [.int (b : Nat), .int (a : Nat), .int (e : Nat)] := by
        injection ed with ed
        injection ed with _ ed
        injection ed with ed
        exact ed.symm
      subst ex
      rw [word_no hpm] at a3
      refine raw_no a3 (b_or (a := false) (b := false) ?_ fun _ => ?_) fun G4 H4 r4 => ?_
      · exact b_and (a := false) (b := true) (b_of (d_op (d_var rfl) d_str (rd_eqS.is yes_ne_no))) (fun z => nomatch z)
      · refine b_and (a := true) (b := false) (b_of (d_op (d_var rfl) d_str (rd_eqS.is rfl))) fun _ => ?_
        exact b_not (a := true) (b_B (d_call (s_cons (d_var rfl) (s_two (d_var rfl) (d_op (d_var rfl) d_int (rd_ixT (k := 1) rfl)))) ⟨n, p, q, b, a, e, hn, hb, ha, he, g1, g2, g3, rfl, rfl⟩))
      have a4 := a3.up r4
      refine raw_no a4 ((b_B (d_notN (d_callX (s_cons (d_var rfl) (s_two (d_var rfl) (d_var rfl))) ⟨n, p, q, _, hn, hp, hq, .inr ⟨hpm, b, a, e, hb, ha, he, g1, g2, g3, rfl⟩, rfl, rfl⟩))).is rfl) fun G5 H5 r5 => ?_
      have a5 := a4.up r5
      refine raw_no a5 (b_of (d_op (d_var rfl) d_str (rd_eqS.is yes_ne_no))) fun G6 H6 r6 => ?_
      have a6 := a5.up r6
      rw [← word_no hpm] at a6
      exact fin _ _ _ _ a6
end
end K57
/-! _law_asked_at, _law_refused. -/
namespace K57
open PySem PySem.Spec PyProof.Rows L2 Evl
abbrev sAsk : Stmt := top 29
abbrev sRef : Stmt := top 30
def rIsG (K : PySem.W.Frag) (D a : Addr) (cls : Value) (d : Option Addr) : List V → Hp → VK → Prop := fun xs H Q => cls = .ref D ∧ ∃ (dd : Addr) (c : V) (cv : Value) (fs : List (Str × V)) (b : Bool), d = some dd ∧ xs = [.ref a, c] ∧ (∀ u, RelV c u → u = cv) ∧ PySem.W.kitOne K (.ref D) cv = some b ∧ H dd = some (.xd fs) ∧ Q (.bl b) H
theorem call_isG {X : Cx} {a D : Addr} {oe : Obj} {cls : Value} {d : Option Addr} {pn : List (Addr × Obj)} (C : ExcC X.K D) (hz : Zc cls d oe) (hf : ∃ vs, oe.data = .fields vs) :
    CallR (X.suite a ((a, oe) :: pn)) (.builtin "isinstance") (rIsG X.K D a cls d) := by
  intro pins s σ H xs us Q I r h
  obtain ⟨ec, dd, c, cv, fs, b, ed, h⟩ := h
  subst ec ed
  exact call_isX C hz hf rfl pins s σ H xs us Q I r ⟨c, cv, fs, b, h⟩
/-- what the text says of NoFolding (at C) and of NoPaper (at D) -/
structure NP (K : PySem.W.Frag) (mg : Str → Option Value) (C D : Addr) : Prop where
  gF : mg "NoFolding" = some (.ref C)
  gP : mg "NoPaper" = some (.ref D)
  xc : ExcC K C
  xf : XfC K C
  xn : PySem.W.findIn K (.ref C) "at" = some none
  k1 : PySem.W.kitOne K (.ref C) (.type "ValueError") = some true
  k2 : PySem.W.kitOne K (.ref C) (.ref D) = some false
  ex : PySem.W.exmOne K (.ref C) (.ref C) = some true
def refD : PyData := .tuple [.str "no folding", .int (-1), .bool true]
def pAsk : List PyData → PyData → Prop := fun ds d => ∃ (i : Int) (x y : PyData), argD x = true ∧ argD y = true ∧ okB x y = false ∧ ds = [.int i, x, y] ∧ d = refD
def pRef : List PyData → PyData → Prop := fun ds d => ∃ (x y : PyData), argD x = true ∧ argD y = true ∧ okB x y = false ∧ ds = [x, y] ∧ d = refD
theorem Gr.grow {G H H2 : Hp} (e : Ex G H) (x : Ex H H2) : Gr G H G H2 := ⟨Ex.refl G, e.trans x, fun b o _ h => x b o h, fun _ _ n => n⟩
abbrev askTs (K : PySem.W.Frag) (C D : Addr) : Addr → Value → Option Addr → TS := fun a cls d =>
  tAsg (tTup (tCons (tC (.str "no folding")) (tCons (tXf a cls d C "at" (tVar 4)) (tCons (tAndV (tCB (rIsG K C a cls d) (tCons (tVar 4) (tCons (tC (.ty "ValueError")) tNil))) (tNotV (tCB (rIsG K C a cls d) (tCons (tVar 4) (tCons (tC (.ref D)) tNil))))) tNil)))) (gName 3)
abbrev askTb (K : PySem.W.Frag) (C : Addr) : WX → TS := fun W =>
  tIfS (tTest (tOp rEq (tVar 0) (tC (.int 0)))) (tAsg (tTup (tCons (tC (.str "told")) (tCons (tCallS (spPerm K C) (WE W) (tCons (tVar 1) (tCons (tVar 2) tNil))) tNil))) (gName 3))
    (tAsg (tTup (tCons (tC (.str "told")) (tCons (tCallS (spX K C pChk badThree) (WE W) (tCons (tVar 1) (tCons (tVar 2) (tCons (tTup (tCons (tC (.str "yes")) (tCons (tLst tNil) tNil))) tNil)))) tNil))) (gName 3))
section
variable {P : Program} {w : World} {K : PySem.W.Frag} {mg : Str → Option Value} {base : Heap} {C D : Addr}
abbrev nAsk : List Str := ["_law_way", "_law_one", "_law_other", "_law_told", "e"]
theorem scAsk : FnScope nAsk ["_law_way", "_law_one", "_law_other"] (defScope sAsk) := ⟨rfl, rfl, rfl, by decide +kernel, rfl, by decide +kernel, by decide +kernel⟩
/-- the suite, told of an error of NoFolding -/
theorem ask_suite (N : NP K mg C D) {E : Ends} {G0 H0 G H H4 : Hp} {σ : L2.St} {i : Int} {x y : PyData} {o : Option PyData} {dd : Addr} (at_ : At K none G0 H0 [some (.int i), some x, some y, o, none] none σ G H) (e4 : Ex H H4) (hd : H4 dd = some (.xd [("at", .int (-1))]))
    (k : ∀ σ' G' H', At K none G0 H0 [some (.int i), some x, some y, some refD, none] none σ' G' H' → E.nx σ' H') : WE (wHit K (.ref C) 4 (askTs K C D) E) σ (.ref C) (some dd) H4 := by
  refine ⟨N.ex, fun a na => ?_⟩
  have l5 : σ.length = 5 := at_.st.len
  have s4 : (σ.set 4 (some (V.ref a)))[4]? = some (some (.ref a)) := List.getElem?_set_self (by omega)
  have a4 := at_.up (Gr.grow at_.r.i e4)
  refine ⟨.ref a, s4, rfl, rfl, dd, _, .int (-1), rfl, hd, by decide, ?_⟩
  refine ⟨.ref a, s4, ⟨rfl, dd, .ty "ValueError", .type "ValueError", _, true, rfl, rfl, fun _ r => r, N.k1, hd, true, rfl, ?_⟩⟩
  refine (if_pos rfl).mpr ?_
  refine ⟨.ref a, s4, ⟨rfl, dd, .ref D, .ref D, _, false, rfl, rfl, fun _ r => r, N.k2, hd, false, rfl, ?_⟩⟩
  refine ⟨by show 3 ≤ sizeLine; decide, fun p hp => ?_⟩
  have g := Gr.new (o := .tup [.str "no folding", .int (-1), .bl true]) a4.r.i hp
  have a5 := a4.up g
  have dv : Dp K (upd G p (.tup [.str "no folding", .int (-1), .bl true])) (.ref p) refD := .tup (.inl (.inl upd_same)) (.cons (.str _) (.cons (.int _) (.cons (.bl _) .nil)))
  exact k _ _ _ ⟨a5.r, ((a5.st.unset (some (.ref a)) 4).set dv 3).unset none 4, OwnOk.no, a5.w, a5.w0⟩
theorem ok_ask {f : Addr} {fd : FuncData} (F : Fun K "_law_asked_at" "_law_asked_at" sAsk f fd) (B : Bi mg) (c1 : cPerm P w K mg base C) (c2 : cChk P w K mg base C) (N : NP K mg C D) :
    FnOk P w K mg base CX0 7 f fd ["_law_way", "_law_one", "_law_other"] (spP K pAsk) := by
  refine F.ok scAsk (fun vs H Q E h => spP_len (by rintro _ _ ⟨i, x, y, _, _, _, rfl, _⟩; rfl) h) (fun cdv A outer s H vs Q E hr h => ?_)
  obtain ⟨f1, fd1, g1, k1, b1, F1⟩ := c1.ex
  obtain ⟨f2, fd2, g2, k2, b2, F2⟩ := c2.ex
  refine body_of (Nm := nAsk) h
    (pss_cons (ps_set (i := 3) scAsk.nd rfl (Or.inl rfl) pe_non)
    (pss_cons (ps_try_hit (i := 4) (tb := askTb K C) (ts := askTs K C D) rfl rfl scAsk.nd rfl rfl ⟨rfl, by decide, Or.inl N.gF⟩
      (fun W pn xe tk _ => pss_one (ps_if (pt_cmpR op_eq (pv 0) pe_int (nomark _))
        (pss_one (ps_set (i := 3) scAsk.nd rfl (Or.inl rfl) (by exact pe_tup (pa_cons pe_str (pa_cons (pe_callS F1 hr rfl g1 k1 b1 (fun σ => passAt tk σ) (pa_cons (pv 1) (pa_cons (pv 2) pa_nil))) pa_nil)))))
        (pss_one (ps_set (i := 3) scAsk.nd rfl (Or.inl rfl) (by exact pe_tup (pa_cons pe_str (pa_cons (pe_callS F2 hr rfl g2 k2 b2 (fun σ => passAt tk σ) (pa_cons (pv 1) (pa_cons (pv 2) (pa_cons (pe_tup (pa_cons pe_str (pa_cons (pe_lst pa_nil) pa_nil))) pa_nil)))) pa_nil)))))))
      (fun a oe cls d pn hz hf => pss_one (ps_set (i := 3) scAsk.nd rfl (Or.inl rfl) (by exact pe_tup (pa_cons pe_str (pa_cons (pe_xf N.xf N.xn hz hf (pv 4)) (pa_cons
        (pe_and (pe_callB (call_isG N.xc hz hf) (by rfl) B.isi (by decide +kernel) (pa_cons (pv 4) (pa_cons (pe_bltn (v := .ty "ValueError") (by rfl) B.ve (by decide +kernel) rfl) pa_nil)))
          (pe_one (pe_not (pe_callB (call_isG N.xc hz hf) (by rfl) B.isi (by decide +kernel) (pa_cons (pv 4) (pa_cons (pe_glob (v := .ref D) (by rfl) N.gP rfl) pa_nil)))))) pa_nil)))))))
    (pss_one (ps_ret (pv 3))))) ?_
  rintro _ _ ⟨i, x, y, hx, hy, hb, rfl, rfl⟩
  refine q_set d_non Free.no ?_
  intro E G0 H0 σ G H at_ kn kr
  have fin : ∀ σ' G' H', At K none G0 H0 [some (.int i), some x, some y, some refD, none] none σ' G' H' → tRet (tVar 3) E σ' H' := fun σ' G' H' a' =>
    (run_ret (W := none) (N := fun _ _ => False) (O := none) (P := fun x => x = refD) (d_var rfl) rfl) E G0 H0 σ' G' H' a' (fun _ _ _ _ _ z => z.elim) kr
  have c : EvB K (tTest (tOp rEq (tVar 0) (tC (.int 0)))) [some (.int i), some x, some y, some .none, none] (decide (i = 0)) := b_of (d_op (d_var rfl) d_int rd_eqI)
  refine c σ G H at_.r.i at_.st _ fun G2 H2 r => ?_
  have a2 := at_.up r
  cases hi : decide (i = 0) with
  | true =>
    have ev : EvS K (tCons (tVar 1) (tCons (tVar 2) tNil)) [some (.int i), some x, some y, some .none, none] [x, y] := s_two (d_var rfl) (d_var rfl)
    show tCallS (spPerm K C) _ (tCons (tVar 1) (tCons (tVar 2) tNil)) σ H2 _
    refine ev σ G2 H2 a2.r.i a2.st _ fun vs G3 H3 r3 dv => ⟨G3, _, r3.i, dv, .inl ⟨⟨x, y, hx, hy, rfl, hb⟩, fun d H4 e4 hd => ask_suite N (a2.up r3) e4 hd fin⟩⟩
  | false =>
    have ev : EvS K (tCons (tVar 1) (tCons (tVar 2) (tCons (tTup (tCons (tC (.str "yes")) (tCons (tLst tNil) tNil))) tNil))) [some (.int i), some x, some y, some .none, none] [x, y, .tuple [.str "yes", .list []]] :=
      s_cons (d_var rfl) (s_two (d_var rfl) (d_tup (s_two d_str (n_lst s_nil (Nat.zero_le _)).dat) (by show 2 ≤ 1000; decide)))
    show tCallS (spX K C pChk badThree) _ (tCons (tVar 1) (tCons (tVar 2) (tCons (tTup (tCons (tC (.str "yes")) (tCons (tLst tNil) tNil))) tNil))) σ H2 _
    refine ev σ G2 H2 a2.r.i a2.st _ fun vs G3 H3 r3 dv => ⟨G3, _, r3.i, dv, .inl ⟨⟨x, y, _, hx, hy, rfl, hb⟩, fun d H4 e4 hd => ask_suite N (a2.up r3) e4 hd fin⟩⟩
abbrev cAsk (P : Program) (w : World) (K : PySem.W.Frag) (mg : Str → Option Value) (base : Heap) := Cal P w K mg base CX0 7 "_law_asked_at" ["_law_way", "_law_one", "_law_other"] (spP K pAsk)
abbrev nRef : List Str := ["_law_one", "_law_other", "_law_told"]
theorem scRef : FnScope nRef ["_law_one", "_law_other"] (defScope sRef) := ⟨rfl, rfl, rfl, by decide +kernel, rfl, by decide +kernel, by decide +kernel⟩
theorem ref_shaped : SeqAt.shaped refD = true := by
  have h1 : PyData.strOk "no folding" = true := by decide +kernel
  simp [refD, SeqAt.shaped, PyData.canLay0, PyData.canLayAll0, PyData.depth, PyData.depthAll, h1]
theorem ref_eqv : PyData.eqv refD refD = true := by
  simp [refD, PyData.eqv, PyData.eqvAll]
theorem ok_ref {f : Addr} {fd : FuncData} (F : Fun K "_law_refused" "_law_refused" sRef f fd) (c1 : cAsk P w K mg base) : FnOk P w K mg base CX0 8 f fd ["_law_one", "_law_other"] (spP K pRef) := by
  refine F.ok scRef (fun vs H Q E h => spP_len (by rintro _ _ ⟨x, y, _, _, _, rfl, _⟩; rfl) h) (fun cdv A outer s H vs Q E hr h => ?_)
  refine body_of (Nm := nRef) h
    (pss_cons (ps_set (i := 2) scRef.nd rfl (Or.inl rfl) (pe_cal c1 hr (pa_cons pe_int (pa_cons (pv 0) (pa_cons (pv 1) pa_nil)))))
    (pss_one (ps_ret (pe_ifExp (pt_cmpR (op_eqD hr.units) (pe_cal c1 hr (pa_cons pe_int (pa_cons (pv 0) (pa_cons (pv 1) pa_nil)))) (pv 2) (nomark _)) (pv 2) pe_non)))) ?_
  rintro _ _ ⟨x, y, hx, hy, hb, rfl, rfl⟩
  refine q_set (d_call (s_cons d_int (s_two (d_var rfl) (d_var rfl))) ⟨0, x, y, hx, hy, hb, rfl, rfl⟩) Free.no ?_
  exact run_ret (d_if (b := true) ((b_of (d_op (d_call (s_cons d_int (s_two (d_var rfl) (d_var rfl))) ⟨1, x, y, hx, hy, hb, rfl, rfl⟩) (d_var rfl) (rd_eqD ref_shaped ref_shaped))).is ref_eqv) (fun _ => d_var rfl) fun z => nomatch z) rfl
end
end K57
/-! _law_right. -/
namespace K57
open PySem PySem.Spec PyProof.Rows L2 Evl
abbrev sRight : Stmt := top 31
/-! ### lists of pairs -/
theorem pr2_lay (x : Nat × Nat) : PyData.canLay0 (pr2 x) = true := by simp [pr2, PyData.canLay0, PyData.canLayAll0]
theorem prs_lay : ∀ l : List (Nat × Nat), PyData.canLayAll0 (l.map pr2) = true
  | [] => rfl
  | x :: r => by
    rw [List.map_cons, PyData.canLayAll0, pr2_lay, prs_lay r]
    rfl
theorem pr2_depth (x : Nat × Nat) : PyData.depth (pr2 x) ≤ 2 := by simp [pr2, PyData.depth, PyData.depthAll]
theorem prs_depth : ∀ l : List (Nat × Nat), PyData.depthAll (l.map pr2) ≤ 2
  | [] => by simp [PyData.depthAll]
  | x :: r => by
    rw [List.map_cons, PyData.depthAll]
    exact Nat.max_le.mpr ⟨pr2_depth x, prs_depth r⟩
theorem prs_shaped (l : List (Nat × Nat)) : SeqAt.shaped (.list (l.map pr2)) = true := by
  have h1 := prs_depth l
  have h2 : PyData.depth (.list (l.map pr2)) ≤ 64 := by
    simp only [PyData.depth]
    omega
  show (PyData.canLay0 (.list (l.map pr2)) && decide (PyData.depth (.list (l.map pr2)) ≤ 64)) = true
  rw [Bool.and_eq_true]
  exact ⟨by simp only [PyData.canLay0]; exact prs_lay l, decide_eq_true h2⟩
theorem prs_eqv (l : List (Nat × Nat)) : PyData.eqv (.list (l.map pr2)) (.list []) = l.isEmpty := by
  cases l <;> simp [PyData.eqv, PyData.eqvAll]
theorem pr2_any (l : List (Nat × Nat)) (x : Nat × Nat) : ((l.map pr2).any fun z => PyData.eqv z (pr2 x)) = decide (x ∈ l) := by
  rw [Bool.eq_iff_iff, List.any_eq_true, decide_eq_true_iff]
  constructor
  · rintro ⟨z, hz, e⟩
    obtain ⟨y, hy, rfl⟩ := List.mem_map.mp hz
    have e' : PyData.eqv (.tuple [.int (y.1 : Nat), .int (y.2 : Nat)]) (.tuple [.int (x.1 : Nat), .int (x.2 : Nat)]) = true := e
    rw [eqv2, Bool.and_eq_true, decide_eq_true_iff, decide_eq_true_iff] at e'
    have e1 : y = x := Prod.ext (by omega) (by omega)
    rw [← e1]
    exact hy
  · intro h
    refine ⟨pr2 x, List.mem_map.mpr ⟨x, h, rfl⟩, ?_⟩
    show PyData.eqv (.tuple [.int (x.1 : Nat), .int (x.2 : Nat)]) (.tuple [.int (x.1 : Nat), .int (x.2 : Nat)]) = true
    rw [eqv2]
    simp
theorem pr2_shaped (x : Nat × Nat) : SeqAt.shaped (pr2 x) = true := shaped2 _ _
/-- the pairs that the one leads to and the other does not -/
def lone (n : Nat) (p q : Nat → Nat) : List (Nat × Nat) := (prs n p q).filter fun x => !decide (x ∈ prs n q p)
theorem lone_nil {n : Nat} {p q : Nat → Nat} : (lone n p q).isEmpty = perm n p q := by
  rw [Bool.eq_iff_iff, List.isEmpty_iff, perm_iff]
  unfold lone
  rw [List.filter_eq_nil_iff]
  constructor
  · intro h b e hb he g
    have m := h (b, e) (mem_prs.mpr ⟨hb, he, g⟩)
    have m' : (b, e) ∈ prs n q p := by simpa using m
    exact (mem_prs.mp m').2.2
  · intro h x hx
    obtain ⟨h1, h2, h3⟩ := mem_prs.mp hx
    have m : x ∈ prs n q p := mem_prs.mpr ⟨h1, h2, h _ _ h1 h2 h3⟩
    simp [m]
/-! ### what is no folding -/
def oddD (n : Nat) (p : Nat → Nat) : List PyData := [.list (itsN n p), .tuple (itsN n p ++ [.int 0]), .tuple (itsN (n - 1) p ++ [.int (n : Nat)]), .tuple (itsN (n - 1) p ++ [.bool true]), .none, .tuple ([.int ((p 0 : Nat) + 1)] ++ (itsN n p).drop 1), .str "0"]
theorem ok_no1 {x y : PyData} (h : isTup x = false) : okB x y = false := by
  unfold okB
  rw [parD_not h]
  rfl
theorem ok_no2 {x y : PyData} (h : isTup y = false) : okB x y = false := by
  unfold okB
  rw [parD_not h, Bool.and_false]
theorem row_len {v : Nat} {n : Int} {ds : List PyData} (h : ds.length ≠ v) : rowD v n (.tuple ds) = false := by
  show (decide (ds.length = v) && ds.all (isT n)) = false
  rw [decide_eq_false h]
  rfl
theorem row_all {v : Nat} {n : Int} {ds : List PyData} {d : PyData} (h : d ∈ ds) (hd : isT n d = false) : rowD v n (.tuple ds) = false := by
  show (decide (ds.length = v) && ds.all (isT n)) = false
  have e : ds.all (isT n) = false := by
    rw [List.all_eq_false]
    exact ⟨d, h, by rw [hd]; decide⟩
  rw [e, Bool.and_false]
theorem par_pk {n : Nat} {ds : List PyData} {k : Nat} (hk : k < ds.length) (h : pkD ds k = false) : parD n (.tuple ds) = false := by
  show (rowD n n (.tuple ds) && (List.range ds.length).all (pkD ds)) = false
  have e : (List.range ds.length).all (pkD ds) = false := by
    rw [List.all_eq_false]
    exact ⟨k, List.mem_range.mpr hk, by rw [h]; decide⟩
  rw [e, Bool.and_false]
theorem ib_its {n : Nat} {p : Nat → Nat} : (itsN n p).all isIB = true := itsN_all fun _ _ => rfl
/-- a tuple as long as the parting, no parting of n -/
theorem bad_same {n : Nat} {p : Nat → Nat} {ds : List PyData} (hl : ds.length = n) (h : parD n (.tuple ds) = false) : okB (.tuple ds) (tupN n p) = false ∧ okB (tupN n p) (.tuple ds) = false := by
  unfold okB
  have e1 : lnD (.tuple ds) = n := hl
  have e2 : lnD (tupN n p) = n := itsN_len n p
  rw [e1, e2, h, Bool.and_false]
  exact ⟨rfl, rfl⟩
theorem odd_bad {n : Nat} {p : Nat → Nat} (h1 : 1 ≤ n) (hn : n ≤ 9) (P : Par n p) {d : PyData} (h : d ∈ oddD n p) : argD d = true ∧ okB d (tupN n p) = false ∧ okB (tupN n p) d = false := by
  have p0 : p 0 = 0 := Nat.le_zero.mp (P 0 (by omega)).1
  have e2 : lnD (tupN n p) = n := itsN_len n p
  unfold oddD at h
  simp only [List.mem_cons, List.not_mem_nil, or_false] at h
  rcases h with rfl | rfl | rfl | rfl | rfl | rfl | rfl
  · exact ⟨rfl, ok_no1 rfl, ok_no2 rfl⟩
  · refine ⟨?_, ?_, ?_⟩
    · show ((itsN n p ++ [PyData.int 0]).all isIB && decide ((itsN n p ++ [PyData.int 0]).length ≤ 20)) = true
      rw [List.all_append, ib_its, List.length_append, itsN_len]
      simp [isIB]
      omega
    · unfold okB
      have e1 : lnD (.tuple (itsN n p ++ [.int 0])) = n + 1 := by
        show (itsN n p ++ [PyData.int 0]).length = n + 1
        rw [List.length_append, itsN_len]
        rfl
      have e3 : parD (n + 1) (tupN n p) = false := parD_row (row_len (by rw [itsN_len]; omega))
      rw [e1, e3, Bool.and_false]
    · unfold okB
      have e3 : parD n (.tuple (itsN n p ++ [.int 0])) = false := parD_row (row_len (by rw [List.length_append, itsN_len]; simp))
      rw [e2, e3, Bool.and_false]
  · refine ⟨?_, bad_same ?_ ?_⟩
    · show ((itsN (n - 1) p ++ [PyData.int (n : Nat)]).all isIB && decide ((itsN (n - 1) p ++ [PyData.int (n : Nat)]).length ≤ 20)) = true
      rw [List.all_append, ib_its, List.length_append, itsN_len]
      simp [isIB]
      omega
    · rw [List.length_append, itsN_len]
      show n - 1 + 1 = n
      omega
    · refine parD_row (row_all (d := .int (n : Nat)) (by simp) ?_)
      show (decide ((0 : Int) ≤ (n : Nat)) && decide (((n : Nat) : Int) < (n : Int))) = false
      rw [decide_eq_false (by omega : ¬ ((n : Nat) : Int) < (n : Int)), Bool.and_false]
  · refine ⟨?_, bad_same ?_ ?_⟩
    · show ((itsN (n - 1) p ++ [PyData.bool true]).all isIB && decide ((itsN (n - 1) p ++ [PyData.bool true]).length ≤ 20)) = true
      rw [List.all_append, ib_its, List.length_append, itsN_len]
      simp [isIB]
      omega
    · rw [List.length_append, itsN_len]
      show n - 1 + 1 = n
      omega
    · exact parD_row (row_all (d := .bool true) (by simp) rfl)
  · exact ⟨rfl, ok_no1 rfl, ok_no2 rfl⟩
  · have hd : ((itsN n p).drop 1).length = n - 1 := by rw [List.length_drop, itsN_len]
    refine ⟨?_, bad_same ?_ (par_pk (k := 0) ?_ ?_)⟩
    · show (([PyData.int ((p 0 : Nat) + 1)] ++ (itsN n p).drop 1).all isIB && decide (([PyData.int ((p 0 : Nat) + 1)] ++ (itsN n p).drop 1).length ≤ 20)) = true
      have e3 : ((itsN n p).drop 1).all isIB = true := by
        rw [List.all_eq_true]
        intro x hx
        exact List.all_eq_true.mp (ib_its (n := n) (p := p)) x (List.mem_of_mem_drop hx)
      rw [List.all_append, e3, List.length_append, hd]
      simp [isIB]
      omega
    · rw [List.length_append, hd]
      show 1 + (n - 1) = n
      omega
    · simp
    · rw [p0]
      show pkD (PyData.int (((0 : Nat) : Int) + 1) :: (itsN n p).drop 1) 0 = false
      unfold pkD
      show (decide (((0 : Nat) : Int) + 1 ≤ ((0 : Nat) : Int)) && _) = false
      rw [decide_eq_false (by decide), Bool.false_and]
  · exact ⟨rfl, ok_no1 rfl, ok_no2 rfl⟩
theorem cut_last {n : Nat} {p : Nat → Nat} (h : 1 ≤ n) : cutD (itsN n p) none (some (-1)) = itsN (n - 1) p := by
  have e : HT.sIx (itsN n p).length (itsN n p).length (some (-1)) = n - 1 := by
    rw [itsN_len]
    show (if (-1 : Int) < 0 then ((-1 : Int) + (n : Int)).toNat else min (-1 : Int).toNat n) = n - 1
    rw [if_pos (by decide)]
    omega
  unfold cutD
  rw [e]
  show ((itsN n p).drop 0).take (n - 1 - 0) = itsN (n - 1) p
  rw [List.drop_zero, Nat.sub_zero]
  unfold itsN
  rw [← List.map_take, List.take_range, Nat.min_eq_left (by omega)]
theorem cut_tail {n : Nat} {p : Nat → Nat} (h : 1 ≤ n) : cutD (itsN n p) (some 1) none = (itsN n p).drop 1 := by
  have e : HT.sIx (itsN n p).length 0 (some 1) = 1 := by
    rw [itsN_len]
    show (if (1 : Int) < 0 then ((1 : Int) + (n : Int)).toNat else min (1 : Int).toNat n) = 1
    rw [if_neg (by decide)]
    show min 1 n = 1
    omega
  unfold cutD
  rw [e]
  show ((itsN n p).drop 1).take ((itsN n p).length - 1) = (itsN n p).drop 1
  rw [List.take_of_length_le (by rw [List.length_drop]; exact Nat.le_refl _)]
/-- the well at a, outside of what is known: what is told behind it is «right» -/
def spRight (K : PySem.W.Frag) : Sp := fun vs H Q _ => ∃ (a : Addr) (G : Hp), vs = [.ref a] ∧ Ex G H ∧ WA a [some (.ref a)] G H ∧ ∀ v G2 H2, GrW (some a) G H G2 H2 → Dp K G2 v (.bool true) → Q v H2
abbrev nRight : List Str := ["_law_well", "_law_size", "_law_bad", "_law_one", "_law_other", "_law_alike", "_law_due", "_law_odd", "_law_pair"]
section
variable {P : Program} {w : World} {K : PySem.W.Frag} {mg : Str → Option Value} {base : Heap} {C D : Addr}
abbrev cTR (P : Program) (w : World) (K : PySem.W.Frag) (mg : Str → Option Value) (base : Heap) := Cal P w K mg base CX0 7 "_law_told_right" ["_law_one", "_law_other", "_law_due"] (spP K pTR)
abbrev cRef (P : Program) (w : World) (K : PySem.W.Frag) (mg : Str → Option Value) (base : Heap) := Cal P w K mg base CX0 8 "_law_refused" ["_law_one", "_law_other"] (spP K pRef)
abbrev cRight (P : Program) (w : World) (K : PySem.W.Frag) (mg : Str → Option Value) (base : Heap) := Cal P w K mg base CX0 9 "_law_right" ["_law_well"] (spRight K)
theorem scRight : FnScope nRight ["_law_well"] (defScope sRight) := ⟨rfl, rfl, rfl, by decide +kernel, rfl, by decide +kernel, by decide +kernel⟩
theorem g_imp {a : Addr} {te : TE} {τ : List (Option PyData)} {Pa Pb : PyData → Prop} (h : EvG K a te τ Pa) (i : ∀ d, Pa d → Pb d) : EvG K a te τ Pb := fun σ G H e w s Q q => h σ G H e w s Q fun d v G2 H2 p r w2 dv => q d v G2 H2 (i d p) r w2 dv
theorem g_plus {a : Addr} {τ : List (Option PyData)} (c m : Nat) (h0 : 0 < m) (h1 : m ≤ 1000) : EvG K a (tOp (rI0 fun i j => .int (i + j)) (tC (.int (c : Nat))) (tCall (spDraw K) [] E0 (tCons (tVar 0) (tCons (tC (.int (m : Nat))) tNil)))) τ (fun d => ∃ r : Nat, c ≤ r ∧ r < c + m ∧ d = .int (r : Nat)) :=
  g_op (g_pure d_int) (g_draw d_int (by omega) (by omega)) fun x y hx hy => by
    obtain ⟨r, hr, rfl⟩ := hy
    subst hx
    refine ⟨.int ((c + r : Nat) : Int), ⟨c + r, by omega, by omega, rfl⟩, ?_⟩
    rw [show ((c + r : Nat) : Int) = (c : Int) + (r : Int) by omega]
    exact rd_add
theorem g_two {a : Addr} {te : TE} {τ : List (Option PyData)} {n : Nat} (h : EvD K te τ (.int (n : Nat))) (h1 : 1 ≤ n) (h9 : n ≤ 9) : EvG K a (tCall (spTwoT K) [] E0 (tCons (tVar 0) (tCons te tNil))) τ (fun x => ∃ d1 d2, (∃ p, Par n p ∧ d1 = tupN n p) ∧ (∃ q, Par n q ∧ d2 = tupN n q) ∧ x = .tuple [d1, d2]) := fun σ G H e w s Q k => by
  refine ⟨_, w.sl, h σ G H e s _ fun v G2 H2 r dv => ?_⟩
  have w2 := w.up r
  rw [dv.intOf]
  refine ⟨a, n, G2, h1, h9, rfl, r.i, ⟨rfl, w2.g, w2.h⟩, fun v G3 H3 p q hp hq r3 ok dv' => ?_⟩
  exact k _ v G3 H3 ⟨_, _, ⟨p, hp, rfl⟩, ⟨q, hq, rfl⟩, rfl⟩ (WA.tr r.toW w2 r3) ⟨w.sl, (ok a rfl).1, (ok a rfl).2⟩ dv'
theorem word_swap {n : Nat} {p q : Nat → Nat} : word n p q = word n q p := by
  unfold word
  rw [perm_swap]
theorem right_of {X : Cx} {body : List Stmt} {vs : List V} {H : Hp} {Q : VK} {E : XK} {t : TS} (h : spRight K vs H Q E) (hd : PSs X body t)
    (hr : ∀ (a : Addr), RunW K a t [none, none, none, none, none, none, none, none, none] (fun _ _ => False) (rD K fun d => d = .bool true)) :
    ∃ t, PSs X body t ∧ t { nx := fun _ H' => Q .non H', rt := Q } (L2.start nRight vs) H := by
  obtain ⟨a, G, rfl, e, wa, k⟩ := h
  refine ⟨t, hd, hr a _ G H _ G H ⟨GrW.refl e, ⟨rfl, fun i d hi => ?_⟩, OwnOk.no, wa.ok, fun b hb => by cases hb; exact wa.ne⟩ rfl (fun _ _ _ _ _ z => z.elim) fun v G' H' r w ⟨d, ed, dv⟩ => ?_⟩
  · exfalso
    rcases i with _ | _ | _ | _ | _ | _ | _ | _ | _ | i <;> cases hi
  · rw [ed] at dv
    exact k v G' H' r dv
theorem ok_right {f : Addr} {fd : FuncData} (F : Fun K "_law_right" "_law_right" sRight f fd) (B : Bi mg) (c1 : cDraw P w K mg base) (c2 : cTwoT P w K mg base) (c3 : cPairs P w K mg base) (c4 : cTR P w K mg base) (c5 : cRef P w K mg base) (c6 : cPerm P w K mg base C) :
    FnOk P w K mg base CX0 9 f fd ["_law_well"] (spRight K) := by
  refine F.ok scRight (fun vs H Q E h => by obtain ⟨a, G, rfl, _⟩ := h; rfl) (fun cdv A outer s H vs Q E hr h => ?_)
  have hr1 : Room 1 _ := hr.mono (by decide)
  have hr2 : Room 2 _ := hr.mono (by decide)
  have hr6 : Room 6 _ := hr.mono (by decide)
  have hr7 : Room 7 _ := hr.mono (by decide)
  have hu65 : (A.deeper (envOfC "_law_right" (defScope sRight) s.heap.objs.size f cdv)).units + 65 < cLine := by have := hr.un; omega
  refine' right_of h (pss_cons ?a1 (pss_cons ?a2 (pss_cons ?a3 (pss_cons ?a4 (pss_cons ?a5 (pss_cons ?a6 (pss_cons ?a7 (pss_cons ?a8 (pss_one ?a9))))))))) ?z
  case a1 => exact ps_set (i := 1) scRight.nd rfl (Or.inl rfl) (pe_ix (r := rIxL K) ix_list (pe_lst (pa_cons (pe_op op_add pe_int (pe_cal c1 hr1 (pa_cons (pv 0) (pa_cons pe_int pa_nil)))) (pa_cons (pe_op op_add pe_int (pe_cal c1 hr1 (pa_cons (pv 0) (pa_cons pe_int pa_nil)))) pa_nil)))
        (pe_callTy call_int1 (by rfl) B.int boot_int (pa_cons (pe_cmpR op_eq (pe_cal c1 hr1 (pa_cons (pv 0) (pa_cons pe_int pa_nil))) pe_int (nomark _)) pa_nil)) (fun _ _ => rfl))
  case a2 => exact ps_set (i := 2) scRight.nd rfl (Or.inl rfl) (pe_cal c1 hr1 (pa_cons (pv 0) (pa_cons pe_int pa_nil)))
  case a3 => exact ps_asg (pe_cal c2 hr2 (pa_cons (pv 0) (pa_cons (pv 1) pa_nil))) (pg_tup rfl (pgs_cons (pg_name (i := 3) scRight.nd rfl (Or.inr rfl)) (pgs_cons (pg_name (i := 4) scRight.nd rfl (Or.inr rfl)) pgs_nil)))
  case a4 => exact ps_set (i := 5) scRight.nd rfl (Or.inl rfl) (pe_cmpR (op_eqD hr.units) (pe_lc (own := [("_law_pair", 8)]) (g := gName 8) rfl scRight.nd (pi_list (pe_cal c3 hr2 (pa_cons (pv 3) (pa_cons (pv 4) pa_nil)))) (blkOk_by (N := nRight) (sc := defScope sRight) (by decide +kernel))
          (fun _ _ _ _ _ => pg_name (i := 8) scRight.nd rfl (Or.inl rfl))
          (fun _ _ _ _ _ => pts_one (pt_cmpR (r := rNotInD K) (op_notInD hu65) (pv 8) (pe_cal c3 hr2 (pa_cons (pv 4) (pa_cons (pv 3) pa_nil))) (by rfl)))
          (fun _ _ _ _ _ => pv 8)) (pe_lst pa_nil) (nomark _))
  case a5 => exact ps_set (i := 6) scRight.nd rfl (Or.inl rfl) (pe_ix (r := rIxL K) ix_list (pe_lst (pa_cons pe_str (pa_cons pe_str pa_nil))) (pe_callTy call_int1 (by rfl) B.int boot_int (pa_cons (pv 5) pa_nil)) (fun _ _ => rfl))
  case a6 => exact ps_if (PW.pt (pw_or (pt_not (pt_val (pe_cal c4 hr7 (pa_cons (pv 3) (pa_cons (pv 4) (pa_cons (pv 6) pa_nil))))))
        (pw_or1 (pt_not (pt_val (pe_cal c4 hr7 (pa_cons (pv 4) (pa_cons (pv 3) (pa_cons (pv 6) pa_nil))))))))) (pss_one (ps_ret pe_bl)) pss_nil
  case a7 => exact ps_set (i := 7) scRight.nd rfl (Or.inl rfl) (pe_ix (r := rIxL K) ix_list (pe_lst
        (pa_cons (pe_callTy (r := rListS K) call_list_of (by rfl) B.list boot_list (pa_cons (pv 3) pa_nil))
        (pa_cons (pe_op (r := rCatA K) op_catA (pv 3) (pe_tup (pa_cons pe_int pa_nil)))
        (pa_cons (pe_op (r := rCatA K) op_catA (pe_slice sl_tupA (pv 3) po_none (po_some (pe_un un_neg pe_int))) (pe_tup (pa_cons (pv 1) pa_nil)))
        (pa_cons (pe_op (r := rCatA K) op_catA (pe_slice sl_tupA (pv 3) po_none (po_some (pe_un un_neg pe_int))) (pe_tup (pa_cons pe_bl pa_nil)))
        (pa_cons pe_non
        (pa_cons (pe_op (r := rCatA K) op_catA (pe_tup (pa_cons (pe_op op_add (pe_ix (r := rIxT K) ix_tup (pv 3) pe_int (fun _ _ => rfl)) pe_int) pa_nil)) (pe_slice sl_tupA (pv 3) (po_some pe_int) po_none))
        (pa_cons pe_str pa_nil)))))))) (pv 2) (fun _ _ => rfl))
  case a8 => exact ps_if (PW.pt (pw_or (pt_cmpR (op_neD hr.units) (pe_cal c5 hr (pa_cons (pv 7) (pa_cons (pv 3) pa_nil))) (pe_tup (pa_cons pe_str (pa_cons (pe_un un_neg pe_int) (pa_cons pe_bl pa_nil)))) (by rfl))
        (pw_or1 (pt_cmpR (op_neD hr.units) (pe_cal c5 hr (pa_cons (pv 3) (pa_cons (pv 7) pa_nil))) (pe_tup (pa_cons pe_str (pa_cons (pe_un un_neg pe_int) (pa_cons pe_bl pa_nil)))) (by rfl))))) (pss_one (ps_ret pe_bl)) pss_nil
  case a9 => exact ps_ret (pe_cmpR op_eq (pe_ix (r := rIxT K) ix_tup (pe_calX c6 hr6 (pa_cons (pv 3) (pa_cons (pv 3) pa_nil))) pe_int (fun _ _ => rfl)) pe_str (nomark _))
  case z =>
    intro a
    refine rw_asg (P := fun d => ∃ n : Nat, 1 ≤ n ∧ n ≤ 9 ∧ d = .int (n : Nat)) (g_op (g_lst (gs_cons (g_plus 1 6 (by decide) (by decide)) (gs_cons (g_plus 6 4 (by decide) (by decide)) gs_nil)) ?_)
      (g_int (g_imp (g_op (P := fun x => ∃ b, x = .bool b) (g_draw d_int (by decide) (by decide)) (g_pure d_int) fun x y hx hy => ?_) fun d h => h) fun k H Q q => .inr ⟨k, rfl, q⟩) fun x y hx hy => ?_) (by decide) fun d1 hd1 => ?_
    · rintro ds ⟨_, _, _, ⟨_, _, _, rfl, rfl⟩, rfl⟩
      show 2 ≤ 1000
      decide
    · obtain ⟨r, _, rfl⟩ := hx
      subst hy
      exact ⟨_, ⟨_, rfl⟩, rd_eqI⟩
    · obtain ⟨ds, ⟨_, _, ⟨r, r1, r2, rfl⟩, ⟨_, _, ⟨t, t1, t2, rfl⟩, rfl, rfl⟩, rfl⟩, rfl⟩ := hx
      obtain ⟨k, hk, rfl⟩ := hy
      have h2 : k = 0 ∨ k = 1 := by omega
      rcases h2 with rfl | rfl
      · exact ⟨_, ⟨r, r1, by omega, rfl⟩, rd_ixL (k := 0) rfl⟩
      · exact ⟨_, ⟨t, by omega, by omega, rfl⟩, rd_ixL (k := 1) rfl⟩
    obtain ⟨n, h1, hn, rfl⟩ := hd1
    refine rw_asg (g_draw d_int (by decide) (by decide)) (by decide) fun d2 hd2 => ?_
    obtain ⟨bad, hbad, rfl⟩ := hd2
    refine rw_unp2 (by decide) (by decide) (g_two (d_var rfl) h1 hn) fun e1 e2 he1 he2 => rw_run ?_
    obtain ⟨p, hp, rfl⟩ := he1
    obtain ⟨q, hq, rfl⟩ := he2
    refine q_set (d := .bool (perm n p q)) ((d_op ((n_pickL (fun d => !(((prs n q p).map pr2).any fun z => PyData.eqv z d)) (fun d => d) (d_call (s_two (d_var rfl) (d_var rfl)) ⟨n, p, q, hn, rfl, rfl⟩) (by have := prs_le (p := p) (q := q) hn; rw [List.length_map]; omega) (by simp) (fun d hd => ?_) fun d _ _ => d_var rfl).dat.is (d2 := .list ((lone n p q).map pr2)) ?_) (n_lst s_nil (Nat.zero_le _)).dat (rd_eqD (prs_shaped _) nil_shaped)).is ?_) Free.no ?_
    · obtain ⟨x, hx, rfl⟩ := List.mem_map.mp hd
      exact b_of (d_op (d_var rfl) (d_call (s_two (d_var rfl) (d_var rfl)) ⟨n, q, p, hn, rfl, rfl⟩) (rd_notIn (pr2_shaped x) (prs_shaped _)))
    · congr 1
      rw [List.map_id'' (fun _ => rfl), List.filter_map]
      unfold lone
      congr 2
      funext x
      show (!(((prs n q p).map pr2).any fun z => PyData.eqv z (pr2 x))) = _
      rw [pr2_any]
    · rw [prs_eqv, lone_nil]
    refine q_set (d := .str (word n p q)) (d_op (n_lst (s_two d_str d_str) (by show 2 ≤ 1000; decide)).dat (d_intB (d_var rfl) fun k H Q q => .inr ⟨k, rfl, q⟩) ?_) Free.no ?_
    · cases hpm : perm n p q with
      | true =>
        rw [word_yes hpm]
        exact rd_ixL (k := 1) rfl
      | false =>
        rw [word_no hpm]
        exact rd_ixL (k := 0) rfl
    refine q_when (b := false) (b_or (a := false) (b := false) ?_ fun _ => ?_) (fun z => nomatch z) fun _ => ?_
    · exact b_not (a := true) (b_B (d_call (s_cons (d_var rfl) (s_two (d_var rfl) (d_var rfl))) ⟨n, p, q, h1, hn, hp, hq, rfl, rfl⟩))
    · exact b_not (a := true) (b_B (d_call (s_cons (d_var rfl) (s_two (d_var rfl) (d_var rfl))) ⟨n, q, p, h1, hn, hq, hp, by rw [word_swap], rfl⟩))
    have hb7 : bad < (oddD n p).length := by
      show bad < 7
      omega
    obtain ⟨ha, b1, b2⟩ := odd_bad h1 hn hp (List.getElem_mem hb7)
    have hl : (itsN n p).length = n := itsN_len n p
    have hl1 : (itsN (n - 1) p).length = n - 1 := itsN_len _ p
    refine q_set (d := (oddD n p)[bad]) (d_op (d1 := .list (oddD n p)) (n_lst ?_ (by show 7 ≤ 1000; decide)).dat (d_var rfl) (rd_ixL (List.getElem?_eq_getElem hb7))) Free.no ?_
    · refine s_cons (n_listOf (d_var rfl)).dat (s_cons (d_op (d_var rfl) (d_tup (s_one d_int) (by show 1 ≤ 1000; decide)) (rd_catA ?_)) (s_cons (d_op ((d_slT (d_var rfl) p_none (p_some (d_neg d_int))).is (congrArg PyData.tuple (cut_last h1))) (d_tup (s_one (d_var rfl)) (by show 1 ≤ 1000; decide)) (rd_catA ?_))
        (s_cons (d_op ((d_slT (d_var rfl) p_none (p_some (d_neg d_int))).is (congrArg PyData.tuple (cut_last h1))) (d_tup (s_one d_bl) (by show 1 ≤ 1000; decide)) (rd_catA ?_)) (s_cons d_non (s_cons (d_op (d_tup (s_one (d_op (d_op (d_var rfl) d_int (rd_ixT (k := 0) (itsN_at (by omega)))) d_int rd_add)) (by show 1 ≤ 1000; decide))
          ((d_slT (d_var rfl) (p_some d_int) p_none).is (congrArg PyData.tuple (cut_tail h1))) (rd_catA ?_)) (s_one d_str))))))
      · rw [hl]
        show n + 1 ≤ 1000
        omega
      · rw [hl1]
        show n - 1 + 1 ≤ 1000
        omega
      · rw [hl1]
        show n - 1 + 1 ≤ 1000
        omega
      · rw [List.length_drop, hl]
        show 1 + (n - 1) ≤ 1000
        omega
    have hne : (!PyData.eqv refD refD) = false := by rw [ref_eqv]; rfl
    refine q_when (b := false) (b_or (a := false) (b := false) ?_ fun _ => ?_) (fun z => nomatch z) fun _ => ?_
    · exact b_of ((d_op (d_call (s_two (d_var rfl) (d_var rfl)) ⟨_, _, ha, argN (by omega), b1, rfl, rfl⟩) ((d_tup (s_cons d_str (s_two (d_neg d_int) d_bl)) (by show 3 ≤ 1000; decide)).is (d2 := refD) rfl) (rd_neD ref_shaped ref_shaped)).is (congrArg PyData.bool hne))
    · exact b_of ((d_op (d_call (s_two (d_var rfl) (d_var rfl)) ⟨_, _, argN (by omega), ha, b2, rfl, rfl⟩) ((d_tup (s_cons d_str (s_two (d_neg d_int) d_bl)) (by show 3 ≤ 1000; decide)).is (d2 := refD) rfl) (rd_neD ref_shaped ref_shaped)).is (congrArg PyData.bool hne))
    refine run_ret (d_op (d_perm hn hp hp (s_two (d_var rfl) (d_var rfl))) d_str rd_eqS) ?_
    rw [word_yes perm_self, decide_eq_true rfl]
end
end K57
/-! law. -/
namespace K57
open PySem PySem.Spec PyProof.Rows L2 Evl
abbrev sLaw : Stmt := top 32
def pLaw : List PyData → PyData → Prop := fun ds d => ∃ ns : List Int, ns.length ≤ 63 ∧ ds = [.list (ns.map .int)] ∧ d = .bool true
abbrev nLaw : List Str := ["_law_script", "_law_k", "_law_cell"]
/-! the two pairs that the text names -/
def p3 : Nat → Nat := fun k => if k = 2 then 2 else 0
def q3 : Nat → Nat := fun k => if k = 0 then 0 else 1
def p2 : Nat → Nat := fun _ => 0
theorem par_of {n : Nat} {p : Nat → Nat} (h : ((List.range n).all fun k => decide (p k ≤ k) && decide (p (p k) = p k)) = true) : Par n p := fun k hk => by
  have z := List.all_eq_true.mp h k (List.mem_range.mpr hk)
  have z' := Bool.and_eq_true_iff.mp z
  exact ⟨of_decide_eq_true z'.1, of_decide_eq_true z'.2⟩
section
variable {P : Program} {w : World} {K : PySem.W.Frag} {mg : Str → Option Value} {base : Heap} {C D : Addr}
theorem rd_pow {i j : Int} (h : CPow i j) : RD K (rI CPow fun i j => .int (i ^ j.toNat)) (.int i) (.int j) (.int (i ^ j.toNat)) := rd_I h fun _ => .int _
theorem d_right {τ : List (Option PyData)} {E : XK} {t : TA} {x y z : Int} (h : EvS K t τ [.int x, .int y, .int z]) : EvD K (tCall (spRight K) [] E (tCons (tLst t) tNil)) τ (.bool true) := fun σ G H e s Q q =>
  h σ G H e s _ fun vs G1 H1 r1 da => by
    have ev : vs = [x, y, z].map V.int := DpAll.ints (ns := [x, y, z]) da
    subst ev
    refine ⟨by show 3 ≤ sizeLine; decide, fun l hl => ?_⟩
    have e1 : Ex H1 (upd H1 l (.lst [.int x, .int y, .int z])) := Ex.new hl
    refine ⟨l, G1, rfl, r1.i.trans e1, ⟨rfl, ex_free r1.i hl, x, y, z, upd_same⟩, fun v G3 H3 r3 dv => q v G3 H3 ⟨r1.g.trans r3.g, r3.i, fun b o _ hb => ?_, fun b hb hn => ?_⟩ dv⟩
    · have b1 := r1.ex b o hb
      exact r3.h b o (fun z => by
        cases z
        rw [hl] at b1
        cases b1) (e1 b o b1)
    · have n1 := r1.s b hb hn
      refine r3.s b ?_ n1
      cases hb' : H b with
      | none => exact absurd hb' hb
      | some o =>
        have e2 := e1 b o (r1.ex b o hb')
        exact fun z => by
          have e3 := e2.symm.trans z
          cases e3
theorem scLaw : FnScope nLaw ["_law_script"] (defScope sLaw) := ⟨rfl, rfl, rfl, by decide +kernel, rfl, by decide +kernel, by decide +kernel⟩
theorem ok_law {f : Addr} {fd : FuncData} (F : Fun K "law" "law" sLaw f fd) (B : Bi mg) (c1 : cRight P w K mg base) (c2 : cPerm P w K mg base C) : FnOk P w K mg base CX0 10 f fd ["_law_script"] (spP K pLaw) := by
  refine F.ok scLaw (fun vs H Q E h => spP_len (by rintro _ _ ⟨ns, _, rfl, _⟩; rfl) h) (fun cdv A outer s H vs Q E hr h => ?_)
  have hr6 : Room 6 _ := hr.mono (by decide)
  refine' body_of (Nm := nLaw) h (pss_cons ?a1 (pss_one ?a2)) ?z
  case a1 =>
    exact ps_for PassesOwn.never rfl (pi_enum (by rfl) B.enum (pa_cons (pe_slice sl_list (pe_op (r := rCatS K) op_catS (pv 0) (pe_lst (pa_cons pe_int pa_nil))) po_none (po_some pe_int)) pa_nil))
      (pg_tup rfl (pgs_cons (pg_name (i := 1) scLaw.nd rfl (Or.inl rfl)) (pgs_cons (pg_name (i := 2) scLaw.nd rfl (Or.inl rfl)) pgs_nil)))
      (pss_one (ps_if (pt_not (pt_val (pe_cal c1 hr (pa_cons (pe_lst (pa_cons (pe_op op_mul (pv 2) (pe_callTy call_int1 (by rfl) B.int boot_int (pa_cons (pe_cmpR op_ge (pv 2) (pe_op op_pow pe_int pe_int) (nomark _)) pa_nil)))
        (pa_cons (pe_op op_add (pe_op op_mod (pv 2) pe_int) (pe_op op_mul pe_int (pv 1))) (pa_cons pe_int pa_nil)))) pa_nil)))) (pss_one (ps_ret pe_bl)) pss_nil))
  case a2 =>
    exact ps_ret (pe_and (pe_cmpR op_eq (pe_ix (r := rIxT K) ix_tup (pe_calX c2 hr6 (pa_cons (pe_tup (pa_cons pe_int (pa_cons pe_int (pa_cons pe_int pa_nil)))) (pa_cons (pe_tup (pa_cons pe_int (pa_cons pe_int (pa_cons pe_int pa_nil)))) pa_nil))) pe_int (fun _ _ => rfl)) pe_str (nomark _))
      (pe_one (pe_cmpR op_eq (pe_ix (r := rIxT K) ix_tup (pe_calX c2 hr6 (pa_cons (pe_tup (pa_cons pe_int (pa_cons pe_int pa_nil))) (pa_cons (pe_tup (pa_cons pe_int (pa_cons pe_int pa_nil))) pa_nil))) pe_int (fun _ _ => rfl)) pe_str (nomark _))))
  case z =>
    rintro _ _ ⟨ns, hns, rfl, rfl⟩
    have hcat : EvD K (tSl (rSlL K) (tOp (rCatS K) (tVar 0) (tLst (tCons (tC (.int 0)) tNil))) tNoPart (tPart (tC (.int 6)))) (begin_ nLaw.length [.list (ns.map .int)]) (.list (cutD (ns.map PyData.int ++ [0].map PyData.int) none (some 6))) :=
      d_slL (d_op (d_var rfl) (n_lst (s_one d_int) (by show 1 ≤ 1000; decide)).dat (rd_catS (by rw [List.length_map]; show ns.length + 1 ≤ 1000; omega))) p_none (p_some d_int)
    refine run_seq (M := fun τ' O' => (∃ a b, τ' = [some (.list (ns.map .int)), a, b]) ∧ O' = none) ?_ ?_
    · refine run_forE (j := 1) (g := gName 2) (τg := fun τ k d => (τ.set 1 (some (.int (k : Nat)))).set 2 (some d)) (s_one hcat) (fun σ τ G0 H0 G H k v d Q _ at_ dv q => q _ ((at_.set (.int (k : Nat)) Free.no).set dv Free.no))
        (fun _ τ' O' => (∃ a b, τ' = [some (.list (ns.map .int)), a, b]) ∧ O' = none) ⟨⟨_, _, rfl⟩, rfl⟩ ?_ fun τ' O' p => p
      rintro k d τ' O' hd ⟨⟨a, b, rfl⟩, rfl⟩
      refine ⟨rfl, ?_⟩
      obtain ⟨i, rfl⟩ : ∃ i : Int, d = .int i := by
        have hm := List.mem_of_getElem? hd
        have hm2 := List.mem_of_mem_drop (List.mem_of_mem_take hm)
        rw [← List.map_append] at hm2
        obtain ⟨i, _, e⟩ := List.mem_map.mp hm2
        exact ⟨i, e.symm⟩
      refine run_if (b := false) (b_not (a := true) (b_B (d_right (s_cons (d_op (d_var rfl) (d_intB (d_op (d_var rfl) (d_op d_int d_int (rd_pow ⟨by decide, by decide, by decide⟩)) rd_ge) fun k H Q q => .inr ⟨k, rfl, q⟩) (rd_mul ?_)) (s_two (d_op (d_op (d_var rfl) d_int (rd_mod (by decide))) (d_op d_int (d_var rfl) (rd_mul ?_)) rd_add) d_int)))))
        (fun z => nomatch z) fun _ => run_next ⟨⟨_, _, rfl⟩, rfl⟩
      · refine .inr ?_
        split <;> decide
      · exact .inl ⟨by decide, by decide⟩
    · rintro τ' O' ⟨⟨a, b, rfl⟩, rfl⟩
      refine run_ret (P := fun x => x = .bool true) (d_and (a := true) (b := true) ?_ fun _ => ?_) rfl
      · refine (d_op (d_perm (n := 3) (p := p3) (q := q3) (by decide) (par_of (by decide)) (par_of (by decide)) (s_two (d_tup (s_cons d_int (s_two d_int d_int)) (by show 3 ≤ 1000; decide)) (d_tup (s_cons d_int (s_two d_int d_int)) (by show 3 ≤ 1000; decide)))) d_str rd_eqS).is ?_
        rw [word_no (by decide), decide_eq_true rfl]
      · refine (d_op (d_perm (n := 2) (p := p2) (q := id) (by decide) (par_of (by decide)) (par_of (by decide)) (s_two (d_tup (s_two d_int d_int) (by show 2 ≤ 1000; decide)) (d_tup (s_two d_int d_int) (by show 2 ≤ 1000; decide)))) d_str rd_eqS).is ?_
        rw [word_yes (by decide), decide_eq_true rfl]
end
end K57
/-! The end: what the written part says of every def. -/
namespace K57
open PySem PySem.Spec PyProof.Rows L2 Evl
/-- a def of the text -/
structure FF (K : PySem.W.Frag) (mg : Str → Option Value) (x : Str) (st : Stmt) (ps : List Str) (f : Addr) (fd : FuncData) : Prop where
  g : mg x = some (.ref f)
  k : PySem.W.keepIn K (.ref f) = true
  F : Fun K x x st f fd
  b : Binds K fd ps []
theorem FF.cal {P : Program} {w : World} {K : PySem.W.Frag} {mg : Str → Option Value} {base : Heap} {CX : CXT} {k : Nat} {x : Str} {st : Stmt} {ps : List Str} {f : Addr} {fd : FuncData} {sp : Sp} (T : FF K mg x st ps f fd) (o : FnOk P w K mg base CX k f fd ps sp) : Cal P w K mg base CX k x ps sp :=
  ⟨⟨f, fd, T.g, T.k, T.b, o⟩⟩
theorem kit_ty {K : PySem.W.Frag} {C : Addr} {T : String} {b : Bool} (h : PySem.W.subIn K (.ref C) (.type T) = some b) (hk : PySem.W.kitMeta T = true) : PySem.W.kitOne K (.ref C) (.type T) = some b := by
  have e : ((Value.ref C : Value) == .type T) = false := rfl
  unfold PySem.W.kitOne PySem.W.kitCls
  rw [e, if_neg Bool.false_ne_true]
  show (if PySem.W.kitMeta T = true then PySem.W.subIn K (.ref C) (.type T) else none) = some b
  rw [if_pos hk]
  exact h
theorem kit_ref {K : PySem.W.Frag} {C D : Addr} {b : Bool} (hs : PySem.W.subIn K (.ref C) (.ref C) = some true) (hd : PySem.W.isClsIn K D = true) (ht : PySem.W.typeIn K (.ref D) = some (.type "type")) (h : PySem.W.subIn K (.ref C) (.ref D) = some false) : PySem.W.kitOne K (.ref C) (.ref D) = some false := by
  have hne : C ≠ D := fun z => by
    rw [← z, hs] at h
    cases h
  have e : ((Value.ref C : Value) == .ref D) = false := by
    cases q : ((Value.ref C : Value) == .ref D) with
    | false => rfl
    | true => exact absurd (Value.ref.inj (beq_iff_eq.mp q)) hne
  have e2 : ((PySem.W.clsIn K D).isSome && PySem.W.typeIn K (.ref D) == some (.type "type")) = true := by
    have hd' : (PySem.W.clsIn K D).isSome = true := hd
    rw [hd', ht] <;> rfl
  unfold PySem.W.kitOne PySem.W.kitCls
  rw [e, if_neg Bool.false_ne_true]
  show (if ((PySem.W.clsIn K D).isSome && PySem.W.typeIn K (.ref D) == some (.type "type")) = true then PySem.W.subIn K (.ref C) (.ref D) else none) = some false
  rw [if_pos e2]
  exact h
/-- every def of the text, then the law -/
theorem all_ok {P : Program} {w : World} {K : PySem.W.Frag} {mg : Str → Option Value} {base : Heap} {C D W fI : Addr} {fdI : FuncData} {f_whole f_thing f_row f_part f_two f_amid f_perm f_led f_yes f_no f_chk f_draw f_marks f_twoL f_amidL f_pairs f_join f_thingL f_yesL f_noL f_rightT f_ask f_ref f_right f_law : Addr} {fd_whole fd_thing fd_row fd_part fd_two fd_amid fd_perm fd_led fd_yes fd_no fd_chk fd_draw fd_marks fd_twoL fd_amidL fd_pairs fd_join fd_thingL fd_yesL fd_noL fd_rightT fd_ask fd_ref fd_right fd_law : FuncData}
    (B : Bi mg) (NP : NP K mg C D) (O : OexC K C) (no : PySem.W.findIn K (.ref C) "at" = some none) (iC : PySem.W.findIn K (.ref C) "__init__" = some (some (.ref fI))) (tI : PySem.W.typeIn K (.ref fI) = some (.type "function")) (FI : Fun K "__init__" "NoFolding.__init__" sInitF fI fdI) (bI : Binds K fdI ["self", "at"] []) (gW : mg "WishError" = some (.ref W)) (T : WI K W)
    (T_whole : FF K mg "is_whole" sWhole ["thing"] f_whole fd_whole)
    (T_thing : FF K mg "is_thing" sThing ["thing", "size"] f_thing fd_thing)
    (T_row : FF K mg "is_row" sRow ["row", "wide", "size"] f_row fd_row)
    (T_part : FF K mg "is_parting" sPart ["thing", "size"] f_part fd_part)
    (T_two : FF K mg "check_two" sTwo ["one", "other"] f_two fd_two)
    (T_amid : FF K mg "amid_of" sAmid ["one", "other", "begin", "end"] f_amid fd_amid)
    (T_perm : FF K mg "permuted" sPerm ["one", "other"] f_perm fd_perm)
    (T_led : FF K mg "ends_led" sLed ["one", "other"] f_led fd_led)
    (T_yes : FF K mg "check_yes" sYes ["one", "other", "told"] f_yes fd_yes)
    (T_no : FF K mg "check_no" sNo ["one", "other", "things"] f_no fd_no)
    (T_chk : FF K mg "check_permuted" sChk ["one", "other", "answer"] f_chk fd_chk)
    (T_draw : FF K mg "_law_draw" sDraw ["_law_well", "_law_many"] f_draw fd_draw)
    (T_marks : FF K mg "_law_of_marks" sMarks ["_law_marks"] f_marks fd_marks)
    (T_twoL : FF K mg "_law_two" sTwoL ["_law_well", "_law_size"] f_twoL fd_twoL)
    (T_amidL : FF K mg "_law_amid" sAmidL ["_law_one", "_law_other", "_law_begin", "_law_end"] f_amidL fd_amidL)
    (T_pairs : FF K mg "_law_pairs" sPairs ["_law_one", "_law_other"] f_pairs fd_pairs)
    (T_join : FF K mg "_law_joined" sJoin ["_law_one", "_law_other"] f_join fd_join)
    (T_thingL : FF K mg "_law_is_thing" sThingL ["_law_thing", "_law_size"] f_thingL fd_thingL)
    (T_yesL : FF K mg "_law_yes" sYesL ["_law_one", "_law_other", "_law_told"] f_yesL fd_yesL)
    (T_noL : FF K mg "_law_no" sNoL ["_law_one", "_law_other", "_law_told"] f_noL fd_noL)
    (T_rightT : FF K mg "_law_told_right" sRightT ["_law_one", "_law_other", "_law_due"] f_rightT fd_rightT)
    (T_ask : FF K mg "_law_asked_at" sAsk ["_law_way", "_law_one", "_law_other"] f_ask fd_ask)
    (T_ref : FF K mg "_law_refused" sRef ["_law_one", "_law_other"] f_ref fd_ref)
    (T_right : FF K mg "_law_right" sRight ["_law_well"] f_right fd_right)
    (T_law : FF K mg "law" sLaw ["_law_script"] f_law fd_law) :
    FnOk P w K mg base CX0 10 f_law fd_law ["_law_script"] (spP K pLaw) := by
  have N : NF P w K mg base C := ⟨NP.gF, O, no, fI, fdI, iC, tI, bI, ok_initF FI gW T⟩
  have k_whole : Cal P w K mg base CX0 1 "is_whole" ["thing"] (spP K pWhole) := T_whole.cal (ok_whole T_whole.F B)
  have k_thing : Cal P w K mg base CX0 2 "is_thing" ["thing", "size"] (spP K pThing) := T_thing.cal (ok_thing T_thing.F B k_whole)
  have k_row : Cal P w K mg base CX0 3 "is_row" ["row", "wide", "size"] (spP K pRow) := T_row.cal (ok_row T_row.F B k_thing)
  have k_part : Cal P w K mg base CX0 4 "is_parting" ["thing", "size"] (spP K pPart) := T_part.cal (ok_part T_part.F B k_row)
  have k_two : Cal P w K mg base (L2.CX P w) 5 "check_two" ["one", "other"] (spX K C pTwo badTwo) := T_two.cal (ok_two T_two.F B k_part N)
  have k_amid : Cal P w K mg base CX0 1 "amid_of" ["one", "other", "begin", "end"] (spP K pAmid) := T_amid.cal (ok_amid T_amid.F B)
  have k_perm : Cal P w K mg base (L2.CX P w) 6 "permuted" ["one", "other"] (spPerm K C) := T_perm.cal (ok_perm T_perm.F B k_two k_amid)
  have k_led : Cal P w K mg base CX0 2 "ends_led" ["one", "other"] (spP K pLed) := T_led.cal (ok_led T_led.F B k_amid)
  have k_yes : Cal P w K mg base CX0 4 "check_yes" ["one", "other", "told"] (spP K pYes) := T_yes.cal (ok_yes T_yes.F B k_led k_row)
  have k_no : Cal P w K mg base CX0 2 "check_no" ["one", "other", "things"] (spP K pNo) := T_no.cal (ok_no T_no.F B k_amid)
  have k_chk : Cal P w K mg base (L2.CX P w) 6 "check_permuted" ["one", "other", "answer"] (spX K C pChk badThree) := T_chk.cal (ok_chk T_chk.F B k_two k_yes k_no k_row)
  have k_draw : Cal P w K mg base CX0 1 "_law_draw" ["_law_well", "_law_many"] (spDraw K) := T_draw.cal (ok_draw T_draw.F)
  have k_marks : Cal P w K mg base CX0 1 "_law_of_marks" ["_law_marks"] (spP K pMarks) := T_marks.cal (ok_marks T_marks.F B)
  have k_twoL : Cal P w K mg base CX0 2 "_law_two" ["_law_well", "_law_size"] (spTwoT K) := T_twoL.cal (ok_twoL T_twoL.F B k_draw k_marks)
  have k_amidL : Cal P w K mg base CX0 1 "_law_amid" ["_law_one", "_law_other", "_law_begin", "_law_end"] (spP K pAmidL) := T_amidL.cal (ok_amidL T_amidL.F B)
  have k_pairs : Cal P w K mg base CX0 2 "_law_pairs" ["_law_one", "_law_other"] (spP K pPairs) := T_pairs.cal (ok_pairs T_pairs.F B k_amidL)
  have k_join : Cal P w K mg base CX0 1 "_law_joined" ["_law_one", "_law_other"] (spP K pJoin) := T_join.cal (ok_join T_join.F B)
  have k_thingL : Cal P w K mg base CX0 1 "_law_is_thing" ["_law_thing", "_law_size"] (spP K pThing) := T_thingL.cal (ok_thingL T_thingL.F B)
  have k_yesL : Cal P w K mg base CX0 3 "_law_yes" ["_law_one", "_law_other", "_law_told"] (spP K pYesL) := T_yesL.cal (ok_yesL T_yesL.F B k_pairs k_thingL k_amidL k_join)
  have k_noL : Cal P w K mg base CX0 2 "_law_no" ["_law_one", "_law_other", "_law_told"] (spP K pNoL) := T_noL.cal (ok_noL T_noL.F B k_thingL k_amidL)
  have k_rightT : Cal P w K mg base CX0 7 "_law_told_right" ["_law_one", "_law_other", "_law_due"] (spP K pTR) := T_rightT.cal (ok_rightT T_rightT.F B k_perm k_chk k_yesL k_noL)
  have k_ask : Cal P w K mg base CX0 7 "_law_asked_at" ["_law_way", "_law_one", "_law_other"] (spP K pAsk) := T_ask.cal (ok_ask T_ask.F B k_perm k_chk NP)
  have k_ref : Cal P w K mg base CX0 8 "_law_refused" ["_law_one", "_law_other"] (spP K pRef) := T_ref.cal (ok_ref T_ref.F k_ask)
  have k_right : Cal P w K mg base CX0 9 "_law_right" ["_law_well"] (spRight K) := T_right.cal (ok_right T_right.F B k_draw k_twoL k_pairs k_rightT k_ref k_perm)
  exact ok_law T_law.F B k_right k_perm
theorem all_mk {l : PySem.W.OpenLaw} {w : World} {K : PySem.W.Frag} {h : Heap} {mg : Str → Option Value} {fa C D W fI : Addr} (X : K.In h) (G : h.Ns mainGlobals mg) (hfa : mg "law" = some (.ref fa))
    {f1 f2 f3 f4 f5 f6 f7 f8 f9 f10 f11 f12 f13 f14 f15 f16 f17 f18 f19 f20 f21 f22 f23 f24 f25 : Addr}
    {odI anI od1 an1 od2 an2 od3 an3 od4 an4 od5 an5 od6 an6 od7 an7 od8 an8 od9 an9 od10 an10 od11 an11 od12 an12 od13 an13 od14 an14 od15 an15 od16 an16 od17 an17 od18 an18 od19 an19 od20 an20 od21 an21 od22 an22 od23 an23 od24 an24 od25 an25 : Option Addr} {slI sl1 sl2 sl3 sl4 sl5 sl6 sl7 sl8 sl9 sl10 sl11 sl12 sl13 sl14 sl15 sl16 sl17 sl18 sl19 sl20 sl21 sl22 sl23 sl24 sl25 : Array (Option Value)} {ocI kVI dcI pmI cdI ctI oc1 kV1 dc1 pm1 cd1 ct1 oc2 kV2 dc2 pm2 cd2 ct2 oc3 kV3 dc3 pm3 cd3 ct3 oc4 kV4 dc4 pm4 cd4 ct4 oc5 kV5 dc5 pm5 cd5 ct5 oc6 kV6 dc6 pm6 cd6 ct6 oc7 kV7 dc7 pm7 cd7 ct7 oc8 kV8 dc8 pm8 cd8 ct8 oc9 kV9 dc9 pm9 cd9 ct9 oc10 kV10 dc10 pm10 cd10 ct10 oc11 kV11 dc11 pm11 cd11 ct11 oc12 kV12 dc12 pm12 cd12 ct12 oc13 kV13 dc13 pm13 cd13 ct13 oc14 kV14 dc14 pm14 cd14 ct14 oc15 kV15 dc15 pm15 cd15 ct15 oc16 kV16 dc16 pm16 cd16 ct16 oc17 kV17 dc17 pm17 cd17 ct17 oc18 kV18 dc18 pm18 cd18 ct18 oc19 kV19 dc19 pm19 cd19 ct19 oc20 kV20 dc20 pm20 cd20 ct20 oc21 kV21 dc21 pm21 cd21 ct21 oc22 kV22 dc22 pm22 cd22 ct22 oc23 kV23 dc23 pm23 cd23 ct23 oc24 kV24 dc24 pm24 cd24 ct24 oc25 kV25 dc25 pm25 cd25 ct25 : Value}
    {nm qn : Str} {Nn : Addr} {bs : List Value} {sn : List Str} {sub : List Value} {ab : Bool} {col : Option Bool} {dd : Option Addr} {m0 m1 m2 m3 m5 : Option Value}
    (a1 : PySem.W.nsIn K mainGlobals "is_whole" = some (some (.ref f1)))
    (l1 : K.lookup f1 = some ⟨oc1, od1, .func (PySem.W.fnOf "is_whole" "is_whole" (defArgs sWhole) (defBody sWhole) (defScope sWhole) .none kV1 dc1 pm1 an1 cd1 ct1), sl1⟩)
    (c1 : PySem.W.codeIn K cd1 "is_whole" = true)
    (k1 : PySem.W.keepIn K (.ref f1) = true)
    (a2 : PySem.W.nsIn K mainGlobals "is_thing" = some (some (.ref f2)))
    (l2 : K.lookup f2 = some ⟨oc2, od2, .func (PySem.W.fnOf "is_thing" "is_thing" (defArgs sThing) (defBody sThing) (defScope sThing) .none kV2 dc2 pm2 an2 cd2 ct2), sl2⟩)
    (c2 : PySem.W.codeIn K cd2 "is_thing" = true)
    (k2 : PySem.W.keepIn K (.ref f2) = true)
    (a3 : PySem.W.nsIn K mainGlobals "is_row" = some (some (.ref f3)))
    (l3 : K.lookup f3 = some ⟨oc3, od3, .func (PySem.W.fnOf "is_row" "is_row" (defArgs sRow) (defBody sRow) (defScope sRow) .none kV3 dc3 pm3 an3 cd3 ct3), sl3⟩)
    (c3 : PySem.W.codeIn K cd3 "is_row" = true)
    (k3 : PySem.W.keepIn K (.ref f3) = true)
    (a4 : PySem.W.nsIn K mainGlobals "is_parting" = some (some (.ref f4)))
    (l4 : K.lookup f4 = some ⟨oc4, od4, .func (PySem.W.fnOf "is_parting" "is_parting" (defArgs sPart) (defBody sPart) (defScope sPart) .none kV4 dc4 pm4 an4 cd4 ct4), sl4⟩)
    (c4 : PySem.W.codeIn K cd4 "is_parting" = true)
    (k4 : PySem.W.keepIn K (.ref f4) = true)
    (a5 : PySem.W.nsIn K mainGlobals "check_two" = some (some (.ref f5)))
    (l5 : K.lookup f5 = some ⟨oc5, od5, .func (PySem.W.fnOf "check_two" "check_two" (defArgs sTwo) (defBody sTwo) (defScope sTwo) .none kV5 dc5 pm5 an5 cd5 ct5), sl5⟩)
    (c5 : PySem.W.codeIn K cd5 "check_two" = true)
    (k5 : PySem.W.keepIn K (.ref f5) = true)
    (a6 : PySem.W.nsIn K mainGlobals "amid_of" = some (some (.ref f6)))
    (l6 : K.lookup f6 = some ⟨oc6, od6, .func (PySem.W.fnOf "amid_of" "amid_of" (defArgs sAmid) (defBody sAmid) (defScope sAmid) .none kV6 dc6 pm6 an6 cd6 ct6), sl6⟩)
    (c6 : PySem.W.codeIn K cd6 "amid_of" = true)
    (k6 : PySem.W.keepIn K (.ref f6) = true)
    (a7 : PySem.W.nsIn K mainGlobals "permuted" = some (some (.ref f7)))
    (l7 : K.lookup f7 = some ⟨oc7, od7, .func (PySem.W.fnOf "permuted" "permuted" (defArgs sPerm) (defBody sPerm) (defScope sPerm) .none kV7 dc7 pm7 an7 cd7 ct7), sl7⟩)
    (c7 : PySem.W.codeIn K cd7 "permuted" = true)
    (k7 : PySem.W.keepIn K (.ref f7) = true)
    (a8 : PySem.W.nsIn K mainGlobals "ends_led" = some (some (.ref f8)))
    (l8 : K.lookup f8 = some ⟨oc8, od8, .func (PySem.W.fnOf "ends_led" "ends_led" (defArgs sLed) (defBody sLed) (defScope sLed) .none kV8 dc8 pm8 an8 cd8 ct8), sl8⟩)
    (c8 : PySem.W.codeIn K cd8 "ends_led" = true)
    (k8 : PySem.W.keepIn K (.ref f8) = true)
    (a9 : PySem.W.nsIn K mainGlobals "check_yes" = some (some (.ref f9)))
    (l9 : K.lookup f9 = some ⟨oc9, od9, .func (PySem.W.fnOf "check_yes" "check_yes" (defArgs sYes) (defBody sYes) (defScope sYes) .none kV9 dc9 pm9 an9 cd9 ct9), sl9⟩)
    (c9 : PySem.W.codeIn K cd9 "check_yes" = true)
    (k9 : PySem.W.keepIn K (.ref f9) = true)
    (a10 : PySem.W.nsIn K mainGlobals "check_no" = some (some (.ref f10)))
    (l10 : K.lookup f10 = some ⟨oc10, od10, .func (PySem.W.fnOf "check_no" "check_no" (defArgs sNo) (defBody sNo) (defScope sNo) .none kV10 dc10 pm10 an10 cd10 ct10), sl10⟩)
    (c10 : PySem.W.codeIn K cd10 "check_no" = true)
    (k10 : PySem.W.keepIn K (.ref f10) = true)
    (a11 : PySem.W.nsIn K mainGlobals "check_permuted" = some (some (.ref f11)))
    (l11 : K.lookup f11 = some ⟨oc11, od11, .func (PySem.W.fnOf "check_permuted" "check_permuted" (defArgs sChk) (defBody sChk) (defScope sChk) .none kV11 dc11 pm11 an11 cd11 ct11), sl11⟩)
    (c11 : PySem.W.codeIn K cd11 "check_permuted" = true)
    (k11 : PySem.W.keepIn K (.ref f11) = true)
    (a12 : PySem.W.nsIn K mainGlobals "_law_draw" = some (some (.ref f12)))
    (l12 : K.lookup f12 = some ⟨oc12, od12, .func (PySem.W.fnOf "_law_draw" "_law_draw" (defArgs sDraw) (defBody sDraw) (defScope sDraw) .none kV12 dc12 pm12 an12 cd12 ct12), sl12⟩)
    (c12 : PySem.W.codeIn K cd12 "_law_draw" = true)
    (k12 : PySem.W.keepIn K (.ref f12) = true)
    (a13 : PySem.W.nsIn K mainGlobals "_law_of_marks" = some (some (.ref f13)))
    (l13 : K.lookup f13 = some ⟨oc13, od13, .func (PySem.W.fnOf "_law_of_marks" "_law_of_marks" (defArgs sMarks) (defBody sMarks) (defScope sMarks) .none kV13 dc13 pm13 an13 cd13 ct13), sl13⟩)
    (c13 : PySem.W.codeIn K cd13 "_law_of_marks" = true)
    (k13 : PySem.W.keepIn K (.ref f13) = true)
    (a14 : PySem.W.nsIn K mainGlobals "_law_two" = some (some (.ref f14)))
    (l14 : K.lookup f14 = some ⟨oc14, od14, .func (PySem.W.fnOf "_law_two" "_law_two" (defArgs sTwoL) (defBody sTwoL) (defScope sTwoL) .none kV14 dc14 pm14 an14 cd14 ct14), sl14⟩)
    (c14 : PySem.W.codeIn K cd14 "_law_two" = true)
    (k14 : PySem.W.keepIn K (.ref f14) = true)
    (a15 : PySem.W.nsIn K mainGlobals "_law_amid" = some (some (.ref f15)))
    (l15 : K.lookup f15 = some ⟨oc15, od15, .func (PySem.W.fnOf "_law_amid" "_law_amid" (defArgs sAmidL) (defBody sAmidL) (defScope sAmidL) .none kV15 dc15 pm15 an15 cd15 ct15), sl15⟩)
    (c15 : PySem.W.codeIn K cd15 "_law_amid" = true)
    (k15 : PySem.W.keepIn K (.ref f15) = true)
    (a16 : PySem.W.nsIn K mainGlobals "_law_pairs" = some (some (.ref f16)))
    (l16 : K.lookup f16 = some ⟨oc16, od16, .func (PySem.W.fnOf "_law_pairs" "_law_pairs" (defArgs sPairs) (defBody sPairs) (defScope sPairs) .none kV16 dc16 pm16 an16 cd16 ct16), sl16⟩)
    (c16 : PySem.W.codeIn K cd16 "_law_pairs" = true)
    (k16 : PySem.W.keepIn K (.ref f16) = true)
    (a17 : PySem.W.nsIn K mainGlobals "_law_joined" = some (some (.ref f17)))
    (l17 : K.lookup f17 = some ⟨oc17, od17, .func (PySem.W.fnOf "_law_joined" "_law_joined" (defArgs sJoin) (defBody sJoin) (defScope sJoin) .none kV17 dc17 pm17 an17 cd17 ct17), sl17⟩)
    (c17 : PySem.W.codeIn K cd17 "_law_joined" = true)
    (k17 : PySem.W.keepIn K (.ref f17) = true)
    (a18 : PySem.W.nsIn K mainGlobals "_law_is_thing" = some (some (.ref f18)))
    (l18 : K.lookup f18 = some ⟨oc18, od18, .func (PySem.W.fnOf "_law_is_thing" "_law_is_thing" (defArgs sThingL) (defBody sThingL) (defScope sThingL) .none kV18 dc18 pm18 an18 cd18 ct18), sl18⟩)
    (c18 : PySem.W.codeIn K cd18 "_law_is_thing" = true)
    (k18 : PySem.W.keepIn K (.ref f18) = true)
    (a19 : PySem.W.nsIn K mainGlobals "_law_yes" = some (some (.ref f19)))
    (l19 : K.lookup f19 = some ⟨oc19, od19, .func (PySem.W.fnOf "_law_yes" "_law_yes" (defArgs sYesL) (defBody sYesL) (defScope sYesL) .none kV19 dc19 pm19 an19 cd19 ct19), sl19⟩)
    (c19 : PySem.W.codeIn K cd19 "_law_yes" = true)
    (k19 : PySem.W.keepIn K (.ref f19) = true)
    (a20 : PySem.W.nsIn K mainGlobals "_law_no" = some (some (.ref f20)))
    (l20 : K.lookup f20 = some ⟨oc20, od20, .func (PySem.W.fnOf "_law_no" "_law_no" (defArgs sNoL) (defBody sNoL) (defScope sNoL) .none kV20 dc20 pm20 an20 cd20 ct20), sl20⟩)
    (c20 : PySem.W.codeIn K cd20 "_law_no" = true)
    (k20 : PySem.W.keepIn K (.ref f20) = true)
    (a21 : PySem.W.nsIn K mainGlobals "_law_told_right" = some (some (.ref f21)))
    (l21 : K.lookup f21 = some ⟨oc21, od21, .func (PySem.W.fnOf "_law_told_right" "_law_told_right" (defArgs sRightT) (defBody sRightT) (defScope sRightT) .none kV21 dc21 pm21 an21 cd21 ct21), sl21⟩)
    (c21 : PySem.W.codeIn K cd21 "_law_told_right" = true)
    (k21 : PySem.W.keepIn K (.ref f21) = true)
    (a22 : PySem.W.nsIn K mainGlobals "_law_asked_at" = some (some (.ref f22)))
    (l22 : K.lookup f22 = some ⟨oc22, od22, .func (PySem.W.fnOf "_law_asked_at" "_law_asked_at" (defArgs sAsk) (defBody sAsk) (defScope sAsk) .none kV22 dc22 pm22 an22 cd22 ct22), sl22⟩)
    (c22 : PySem.W.codeIn K cd22 "_law_asked_at" = true)
    (k22 : PySem.W.keepIn K (.ref f22) = true)
    (a23 : PySem.W.nsIn K mainGlobals "_law_refused" = some (some (.ref f23)))
    (l23 : K.lookup f23 = some ⟨oc23, od23, .func (PySem.W.fnOf "_law_refused" "_law_refused" (defArgs sRef) (defBody sRef) (defScope sRef) .none kV23 dc23 pm23 an23 cd23 ct23), sl23⟩)
    (c23 : PySem.W.codeIn K cd23 "_law_refused" = true)
    (k23 : PySem.W.keepIn K (.ref f23) = true)
    (a24 : PySem.W.nsIn K mainGlobals "_law_right" = some (some (.ref f24)))
    (l24 : K.lookup f24 = some ⟨oc24, od24, .func (PySem.W.fnOf "_law_right" "_law_right" (defArgs sRight) (defBody sRight) (defScope sRight) .none kV24 dc24 pm24 an24 cd24 ct24), sl24⟩)
    (c24 : PySem.W.codeIn K cd24 "_law_right" = true)
    (k24 : PySem.W.keepIn K (.ref f24) = true)
    (a25 : PySem.W.nsIn K mainGlobals "law" = some (some (.ref f25)))
    (l25 : K.lookup f25 = some ⟨oc25, od25, .func (PySem.W.fnOf "law" "law" (defArgs sLaw) (defBody sLaw) (defScope sLaw) .none kV25 dc25 pm25 an25 cd25 ct25), sl25⟩)
    (c25 : PySem.W.codeIn K cd25 "law" = true)
    (k25 : PySem.W.keepIn K (.ref f25) = true)
    (z_len : PySem.W.nsIn K mainGlobals "len" = some none)
    (z_range : PySem.W.nsIn K mainGlobals "range" = some none)
    (z_isi : PySem.W.nsIn K mainGlobals "isinstance" = some none)
    (z_all : PySem.W.nsIn K mainGlobals "all" = some none)
    (z_enum : PySem.W.nsIn K mainGlobals "enumerate" = some none)
    (z_list : PySem.W.nsIn K mainGlobals "list" = some none)
    (z_tuple : PySem.W.nsIn K mainGlobals "tuple" = some none)
    (z_int : PySem.W.nsIn K mainGlobals "int" = some none)
    (z_bool : PySem.W.nsIn K mainGlobals "bool" = some none)
    (z_sum : PySem.W.nsIn K mainGlobals "sum" = some none)
    (z_min : PySem.W.nsIn K mainGlobals "min" = some none)
    (z_zip : PySem.W.nsIn K mainGlobals "zip" = some none)
    (z_ve : PySem.W.nsIn K mainGlobals "ValueError" = some none)
    (gW : PySem.W.nsIn K mainGlobals "WishError" = some (some (.ref W)))
    (gD : PySem.W.nsIn K mainGlobals "NoPaper" = some (some (.ref D)))
    (gC : PySem.W.nsIn K mainGlobals "NoFolding" = some (some (.ref C)))
    (w1 : PySem.W.specialIn K (.ref W) "__getattribute__" = some (some (.builtin "type.__getattribute__")))
    (w2 : PySem.W.readsIn K W (.type "type") = true)
    (w3 : PySem.W.findCls K (.ref W) (.type "type") "__init__" = some (.val (.builtin "ValueError.__init__")))
    (xL : K.lookup C = some (excClassObj nm qn C Nn bs [.ref W, .type "ValueError", .type "Exception", .type "BaseException", .type "object"] true sn sub ab col dd m0 m1 m2 m3 m5 "ValueError.__new__"))
    (sa : PySem.W.findIn K (.ref C) "__setattr__" = some (some (.builtin "object.__setattr__")))
    (eC : PySem.W.subIn K (.ref C) (.type "BaseException") = some true)
    (tC : PySem.W.typeIn K (.ref C) = some (.type "type"))
    (kC : PySem.W.keepIn K (.ref C) = true)
    (nb : PySem.W.findIn K (.ref C) "at" = some none)
    (iC : PySem.W.findIn K (.ref C) "__init__" = some (some (.ref fI)))
    (tI : PySem.W.typeIn K (.ref fI) = some (.type "function"))
    (lI : K.lookup fI = some ⟨ocI, odI, .func (PySem.W.fnOf "__init__" "NoFolding.__init__" (defArgs sInitF) (defBody sInitF) (defScope sInitF) .none kVI dcI pmI anI cdI ctI), slI⟩)
    (cI : PySem.W.codeIn K cdI "NoFolding.__init__" = true)
    (kI : PySem.W.keepIn K (.ref fI) = true)
    (xg : PySem.W.findIn K (.ref C) "__getattribute__" = some (some (.builtin "BaseException.__getattribute__")))
    (xh : PySem.W.findIn K (.ref C) "__getattr__" = some none)
    (hC : PySem.W.hasDictIn K C = true)
    (xc : PySem.W.findIn K (.ref C) "__class__" = some (some (.builtin "object.__class__")))
    (xn : PySem.W.specialIn K (.builtin "object.__class__") "__get__" = some (some (.builtin "getset_descriptor.__get__")))
    (xt : PySem.W.takesIn K (.builtin "object.__class__") = some true)
    (xm : PySem.W.mroIn K C (.type "object") = some true)
    (sV : PySem.W.subIn K (.ref C) (.type "ValueError") = some true)
    (iD : PySem.W.isClsIn K D = true)
    (tD : PySem.W.typeIn K (.ref D) = some (.type "type"))
    (sD : PySem.W.subIn K (.ref C) (.ref D) = some false)
    (sC : PySem.W.subIn K (.ref C) (.ref C) = some true) :
    ∃ fd : FuncData, (∀ (s : Shared) (v : Value), BindsTo s fd ⟨[v], []⟩ [("_law_script", v)]) ∧ ∀ base : Heap, K.In base → base.Ns mainGlobals mg → FnOk l.prog w K mg base CX0 10 fa fd ["_law_script"] (spP K pLaw) := by
  have e := hfa.symm.trans (PySem.W.mg_of X G a25)
  cases e
  have O : OexC K C := ⟨⟨nm, qn, Nn, bs, _, sn, sub, ab, col, dd, m0, m1, m2, m3, m5, xL, rfl⟩, sa, eC, tC, kC⟩
  have NPs : NP K mg C D := ⟨PySem.W.mg_of X G gC, PySem.W.mg_of X G gD, ⟨xg, xh, eC, hC, xc, xn, xt, xm⟩, ⟨xg, xh, eC, hC⟩, nb, kit_ty sV (by decide +kernel), kit_ref (b := false) sC iD tD sD, PySem.W.exm_ref eC hC tC sC⟩
  have B : Bi mg := ⟨PySem.W.mg_none_of X G z_len, PySem.W.mg_none_of X G z_range, PySem.W.mg_none_of X G z_isi, PySem.W.mg_none_of X G z_all, PySem.W.mg_none_of X G z_enum, PySem.W.mg_none_of X G z_list, PySem.W.mg_none_of X G z_tuple, PySem.W.mg_none_of X G z_int, PySem.W.mg_none_of X G z_bool, PySem.W.mg_none_of X G z_sum, PySem.W.mg_none_of X G z_min, PySem.W.mg_none_of X G z_zip, PySem.W.mg_none_of X G z_ve⟩
  have FI := fun_mk (st := sInitF) lI cI kI
  have bI := FI.binds (ps := ["self", "at"]) fun _ _ _ _ _ _ us hl => match us, hl with | [_, _], _ => rfl
  have F1 := fun_mk (st := sWhole) l1 c1 k1
  have b1 := F1.binds (ps := ["thing"]) fun _ _ _ _ _ _ us hl => match us, hl with | [_], _ => rfl
  have F2 := fun_mk (st := sThing) l2 c2 k2
  have b2 := F2.binds (ps := ["thing", "size"]) fun _ _ _ _ _ _ us hl => match us, hl with | [_, _], _ => rfl
  have F3 := fun_mk (st := sRow) l3 c3 k3
  have b3 := F3.binds (ps := ["row", "wide", "size"]) fun _ _ _ _ _ _ us hl => match us, hl with | [_, _, _], _ => rfl
  have F4 := fun_mk (st := sPart) l4 c4 k4
  have b4 := F4.binds (ps := ["thing", "size"]) fun _ _ _ _ _ _ us hl => match us, hl with | [_, _], _ => rfl
  have F5 := fun_mk (st := sTwo) l5 c5 k5
  have b5 := F5.binds (ps := ["one", "other"]) fun _ _ _ _ _ _ us hl => match us, hl with | [_, _], _ => rfl
  have F6 := fun_mk (st := sAmid) l6 c6 k6
  have b6 := F6.binds (ps := ["one", "other", "begin", "end"]) fun _ _ _ _ _ _ us hl => match us, hl with | [_, _, _, _], _ => rfl
  have F7 := fun_mk (st := sPerm) l7 c7 k7
  have b7 := F7.binds (ps := ["one", "other"]) fun _ _ _ _ _ _ us hl => match us, hl with | [_, _], _ => rfl
  have F8 := fun_mk (st := sLed) l8 c8 k8
  have b8 := F8.binds (ps := ["one", "other"]) fun _ _ _ _ _ _ us hl => match us, hl with | [_, _], _ => rfl
  have F9 := fun_mk (st := sYes) l9 c9 k9
  have b9 := F9.binds (ps := ["one", "other", "told"]) fun _ _ _ _ _ _ us hl => match us, hl with | [_, _, _], _ => rfl
  have F10 := fun_mk (st := sNo) l10 c10 k10
  have b10 := F10.binds (ps := ["one", "other", "things"]) fun _ _ _ _ _ _ us hl => match us, hl with | [_, _, _], _ => rfl
  have F11 := fun_mk (st := sChk) l11 c11 k11
  have b11 := F11.binds (ps := ["one", "other", "answer"]) fun _ _ _ _ _ _ us hl => match us, hl with | [_, _, _], _ => rfl
  have F12 := fun_mk (st := sDraw) l12 c12 k12
  have b12 := F12.binds (ps := ["_law_well", "_law_many"]) fun _ _ _ _ _ _ us hl => match us, hl with | [_, _], _ => rfl
  have F13 := fun_mk (st := sMarks) l13 c13 k13
  have b13 := F13.binds (ps := ["_law_marks"]) fun _ _ _ _ _ _ us hl => match us, hl with | [_], _ => rfl
  have F14 := fun_mk (st := sTwoL) l14 c14 k14
  have b14 := F14.binds (ps := ["_law_well", "_law_size"]) fun _ _ _ _ _ _ us hl => match us, hl with | [_, _], _ => rfl
  have F15 := fun_mk (st := sAmidL) l15 c15 k15
  have b15 := F15.binds (ps := ["_law_one", "_law_other", "_law_begin", "_law_end"]) fun _ _ _ _ _ _ us hl => match us, hl with | [_, _, _, _], _ => rfl
  have F16 := fun_mk (st := sPairs) l16 c16 k16
  have b16 := F16.binds (ps := ["_law_one", "_law_other"]) fun _ _ _ _ _ _ us hl => match us, hl with | [_, _], _ => rfl
  have F17 := fun_mk (st := sJoin) l17 c17 k17
  have b17 := F17.binds (ps := ["_law_one", "_law_other"]) fun _ _ _ _ _ _ us hl => match us, hl with | [_, _], _ => rfl
  have F18 := fun_mk (st := sThingL) l18 c18 k18
  have b18 := F18.binds (ps := ["_law_thing", "_law_size"]) fun _ _ _ _ _ _ us hl => match us, hl with | [_, _], _ => rfl
  have F19 := fun_mk (st := sYesL) l19 c19 k19
  have b19 := F19.binds (ps := ["_law_one", "_law_other", "_law_told"]) fun _ _ _ _ _ _ us hl => match us, hl with | [_, _, _], _ => rfl
  have F20 := fun_mk (st := sNoL) l20 c20 k20
  have b20 := F20.binds (ps := ["_law_one", "_law_other", "_law_told"]) fun _ _ _ _ _ _ us hl => match us, hl with | [_, _, _], _ => rfl
  have F21 := fun_mk (st := sRightT) l21 c21 k21
  have b21 := F21.binds (ps := ["_law_one", "_law_other", "_law_due"]) fun _ _ _ _ _ _ us hl => match us, hl with | [_, _, _], _ => rfl
  have F22 := fun_mk (st := sAsk) l22 c22 k22
  have b22 := F22.binds (ps := ["_law_way", "_law_one", "_law_other"]) fun _ _ _ _ _ _ us hl => match us, hl with | [_, _, _], _ => rfl
  have F23 := fun_mk (st := sRef) l23 c23 k23
  have b23 := F23.binds (ps := ["_law_one", "_law_other"]) fun _ _ _ _ _ _ us hl => match us, hl with | [_, _], _ => rfl
  have F24 := fun_mk (st := sRight) l24 c24 k24
  have b24 := F24.binds (ps := ["_law_well"]) fun _ _ _ _ _ _ us hl => match us, hl with | [_], _ => rfl
  have F25 := fun_mk (st := sLaw) l25 c25 k25
  have b25 := F25.binds (ps := ["_law_script"]) fun _ _ _ _ _ _ us hl => match us, hl with | [_], _ => rfl
  refine ⟨PySem.W.fnOf "law" "law" (defArgs sLaw) (defBody sLaw) (defScope sLaw) .none kV25 dc25 pm25 an25 cd25 ct25, fun s v => .of_eq rfl, fun base _ _ => ?_⟩
  exact all_ok B NPs O nb iC tI FI bI (PySem.W.mg_of X G gW) ⟨w1, _, w2, w3⟩ ⟨PySem.W.mg_of X G a1, k1, F1, b1⟩ ⟨PySem.W.mg_of X G a2, k2, F2, b2⟩ ⟨PySem.W.mg_of X G a3, k3, F3, b3⟩ ⟨PySem.W.mg_of X G a4, k4, F4, b4⟩ ⟨PySem.W.mg_of X G a5, k5, F5, b5⟩ ⟨PySem.W.mg_of X G a6, k6, F6, b6⟩ ⟨PySem.W.mg_of X G a7, k7, F7, b7⟩ ⟨PySem.W.mg_of X G a8, k8, F8, b8⟩ ⟨PySem.W.mg_of X G a9, k9, F9, b9⟩ ⟨PySem.W.mg_of X G a10, k10, F10, b10⟩ ⟨PySem.W.mg_of X G a11, k11, F11, b11⟩ ⟨PySem.W.mg_of X G a12, k12, F12, b12⟩ ⟨PySem.W.mg_of X G a13, k13, F13, b13⟩ ⟨PySem.W.mg_of X G a14, k14, F14, b14⟩ ⟨PySem.W.mg_of X G a15, k15, F15, b15⟩ ⟨PySem.W.mg_of X G a16, k16, F16, b16⟩ ⟨PySem.W.mg_of X G a17, k17, F17, b17⟩ ⟨PySem.W.mg_of X G a18, k18, F18, b18⟩ ⟨PySem.W.mg_of X G a19, k19, F19, b19⟩ ⟨PySem.W.mg_of X G a20, k20, F20, b20⟩ ⟨PySem.W.mg_of X G a21, k21, F21, b21⟩ ⟨PySem.W.mg_of X G a22, k22, F22, b22⟩ ⟨PySem.W.mg_of X G a23, k23, F23, b23⟩ ⟨PySem.W.mg_of X G a24, k24, F24, b24⟩ ⟨PySem.W.mg_of X G a25, k25, F25, b25⟩
theorem walk {l : PySem.W.OpenLaw} {q : Program} {loose : List Str} {XP : (Str → Option Value) → Heap → Prop} {YP : World → Heap → Prop} {d : DefRec} {K : Params → PySem.W.Frag} (hn : l.most = some 63) (hdf : d.params.defaults = [])
    (hY : ∀ (w : World) (h : Heap), YP w h → (K w.params).In h)
    (F : ∀ (w : World) (mg : Str → Option Value) (fa : Addr) (h : Heap), (K w.params).In h → h.Ns mainGlobals mg → mg d.name = some (.ref fa) →
      ∃ fd : FuncData, (∀ (s : Shared) (u : Value), BindsTo s fd ⟨[u], []⟩ [("_law_script", u)]) ∧ ∀ base : Heap, (K w.params).In base → base.Ns mainGlobals mg → FnOk l.prog w (K w.params) mg base CX0 10 fa fd ["_law_script"] (spP (K w.params) pLaw)) :
    PySem.W.WalkO q loose XP YP l.row.toRowW d [] (fun f vs => PySem.call f vs) :=
  L2.walk_of (n := 63) (k := 10) (x := "_law_script") (CX := fun _ => CX0) (sp := fun w => spP (K w.params) pLaw) hn (by decide) hdf ⟨rfl, by decide, by decide⟩ hY F
    (fun _ H a ns hl _ hS => ⟨H, [.list (ns.map .int)], .bool true, Ex.refl H, .cons (.lst hS (dpa_ofInts ns)) .nil, ⟨ns, hl, rfl, rfl⟩, fun _ _ _ _ dv => dv.boolOf⟩) fun _ _ _ _ _ z => z
end K57
open PySem PySem.W PyProof.Rows in
set_option maxRecDepth 100000 in
set_option maxHeartbeats 0 in
theorem PySem.Challenge.cw_wishdeeds_k57_whole_permuted_or_not_holds : PySem.Challenge.rw_wishdeeds_k57_whole_permuted_or_not.Holds := by
  w_on; o_law; k_head; (case hw => w_witness2)
  k_fill
  refine K57.walk (l := PySem.Challenge.rw_wishdeeds_k57_whole_permuted_or_not) rfl rfl (fun w h Y => PySem.W.kIn_of Y) ?F
  case F =>
    intro w mg fa h KX G hmg
    refine' K57.all_mk KX G hmg ?a1 ?l1 ?c1 ?k1 ?a2 ?l2 ?c2 ?k2 ?a3 ?l3 ?c3 ?k3 ?a4 ?l4 ?c4 ?k4 ?a5 ?l5 ?c5 ?k5 ?a6 ?l6 ?c6 ?k6 ?a7 ?l7 ?c7 ?k7 ?a8 ?l8 ?c8 ?k8 ?a9 ?l9 ?c9 ?k9 ?a10 ?l10 ?c10 ?k10 ?a11 ?l11 ?c11 ?k11 ?a12 ?l12 ?c12 ?k12 ?a13 ?l13 ?c13 ?k13 ?a14 ?l14 ?c14 ?k14 ?a15 ?l15 ?c15 ?k15 ?a16 ?l16 ?c16 ?k16 ?a17 ?l17 ?c17 ?k17 ?a18 ?l18 ?c18 ?k18 ?a19 ?l19 ?c19 ?k19 ?a20 ?l20 ?c20 ?k20 ?a21 ?l21 ?c21 ?k21 ?a22 ?l22 ?c22 ?k22 ?a23 ?l23 ?c23 ?k23 ?a24 ?l24 ?c24 ?k24 ?a25 ?l25 ?c25 ?k25 ?z_len ?z_range ?z_isi ?z_all ?z_enum ?z_list ?z_tuple ?z_int ?z_bool ?z_sum ?z_min ?z_zip ?z_ve ?gW ?gD ?gC ?w1 ?w2 ?w3 ?xL ?sa ?eC ?tC ?kC ?nb ?iC ?tI ?lI ?cI ?kI ?xg ?xh ?hC ?xc ?xn ?xt ?xm ?sV ?iD ?tD ?sD ?sC
    (case a1 => k_is)
    (case l1 => k_is)
    (case c1 => k_is)
    (case k1 => k_is)
    (case a2 => k_is)
    (case l2 => k_is)
    (case c2 => k_is)
    (case k2 => k_is)
    (case a3 => k_is)
    (case l3 => k_is)
    (case c3 => k_is)
    (case k3 => k_is)
    (case a4 => k_is)
    (case l4 => k_is)
    (case c4 => k_is)
    (case k4 => k_is)
    (case a5 => k_is)
    (case l5 => k_is)
    (case c5 => k_is)
    (case k5 => k_is)
    (case a6 => k_is)
    (case l6 => k_is)
    (case c6 => k_is)
    (case k6 => k_is)
    (case a7 => k_is)
    (case l7 => k_is)
    (case c7 => k_is)
    (case k7 => k_is)
    (case a8 => k_is)
    (case l8 => k_is)
    (case c8 => k_is)
    (case k8 => k_is)
    (case a9 => k_is)
    (case l9 => k_is)
    (case c9 => k_is)
    (case k9 => k_is)
    (case a10 => k_is)
    (case l10 => k_is)
    (case c10 => k_is)
    (case k10 => k_is)
    (case a11 => k_is)
    (case l11 => k_is)
    (case c11 => k_is)
    (case k11 => k_is)
    (case a12 => k_is)
    (case l12 => k_is)
    (case c12 => k_is)
    (case k12 => k_is)
    (case a13 => k_is)
    (case l13 => k_is)
    (case c13 => k_is)
    (case k13 => k_is)
    (case a14 => k_is)
    (case l14 => k_is)
    (case c14 => k_is)
    (case k14 => k_is)
    (case a15 => k_is)
    (case l15 => k_is)
    (case c15 => k_is)
    (case k15 => k_is)
    (case a16 => k_is)
    (case l16 => k_is)
    (case c16 => k_is)
    (case k16 => k_is)
    (case a17 => k_is)
    (case l17 => k_is)
    (case c17 => k_is)
    (case k17 => k_is)
    (case a18 => k_is)
    (case l18 => k_is)
    (case c18 => k_is)
    (case k18 => k_is)
    (case a19 => k_is)
    (case l19 => k_is)
    (case c19 => k_is)
    (case k19 => k_is)
    (case a20 => k_is)
    (case l20 => k_is)
    (case c20 => k_is)
    (case k20 => k_is)
    (case a21 => k_is)
    (case l21 => k_is)
    (case c21 => k_is)
    (case k21 => k_is)
    (case a22 => k_is)
    (case l22 => k_is)
    (case c22 => k_is)
    (case k22 => k_is)
    (case a23 => k_is)
    (case l23 => k_is)
    (case c23 => k_is)
    (case k23 => k_is)
    (case a24 => k_is)
    (case l24 => k_is)
    (case c24 => k_is)
    (case k24 => k_is)
    (case a25 => k_is)
    (case l25 => k_is)
    (case c25 => k_is)
    (case k25 => k_is)
    (case z_len => k_is)
    (case z_range => k_is)
    (case z_isi => k_is)
    (case z_all => k_is)
    (case z_enum => k_is)
    (case z_list => k_is)
    (case z_tuple => k_is)
    (case z_int => k_is)
    (case z_bool => k_is)
    (case z_sum => k_is)
    (case z_min => k_is)
    (case z_zip => k_is)
    (case z_ve => k_is)
    (case gW => k_is)
    (case gD => k_is)
    (case gC => k_is)
    (case w1 => k_is)
    (case w2 => k_is)
    (case w3 => k_is)
    (case xL => k_is)
    (case sa => k_is)
    (case eC => k_is)
    (case tC => k_is)
    (case kC => k_is)
    (case nb => k_is)
    (case iC => k_is)
    (case tI => k_is)
    (case lI => k_is)
    (case cI => k_is)
    (case kI => k_is)
    (case xg => k_is)
    (case xh => k_is)
    (case hC => k_is)
    (case xc => k_is)
    (case xn => k_is)
    (case xt => k_is)
    (case xm => k_is)
    (case sV => k_is)
    (case iD => k_is)
    (case tD => k_is)
    (case sD => k_is)
    (case sC => first | rfl | k_is)
