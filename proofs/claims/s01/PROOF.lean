import PyProof.Rows.All
import Si94Spec
import PySi94
import Wide.All
import OpenK.AllK
import Wide.FinOn
import Open.SpecLaws
import KE.OsGo
import KE.DatumOrd
import KE.KDictKeyed
import KE.KDictLaw
import HandS.ForSpec
import HandS.Comp
import HandS.Dict
import HandS.SetKeys
import HandS.Iter
import HandS.Conv
import HandS.ExcInit
import HandS.ExcField
import HandS.SortKw
import PySem.Challenge.RW_roadbehind_s01_answers
set_option Elab.async false
set_option linter.all false
set_option maxRecDepth 100000
set_option maxHeartbeats 2000000
section
set_option autoImplicit false
namespace RB
open Si94

/-! ### the mirror of the tables -/
def lessO : Option Nat → Option Nat → Option Nat
  | none, b => b
  | some a, none => some a
  | some a, some b => if b < a then some b else some a
def addO : Option Nat → Option Nat → Option Nat
  | some a, some b => some (a + b)
  | _, _ => none
abbrev Tb := List (List (Option Nat))
def set2 (t : Tb) (a b : Nat) (v : Option Nat) : Tb := t.set a ((t.getD a []).set b v)
def stand (n : Nat) : Tb := (List.range n).map fun a => (List.range n).map fun b => if a = b then some 0 else none
def road1 (t : Tb) (r : Nat × Nat × Nat) : Tb :=
  let t1 := set2 t r.1 r.2.1 (lessO (far t r.1 r.2.1) (some r.2.2))
  set2 t1 r.2.1 r.1 (lessO (far t1 r.2.1 r.1) (some r.2.2))
def byRoads (n : Nat) (rs : List (Nat × Nat × Nat)) : Tb := rs.foldl road1 (stand n)
def byWay (n : Nat) (t : Tb) (k : Nat) : Tb := (List.range n).map fun a => (List.range n).map fun b => lessO (far t a b) (addO (far t a k) (far t k b))
def drives (n : Nat) (rs : List (Nat × Nat × Nat)) : Tb := (List.range n).foldl (byWay n) (byRoads n rs)
/-- a table of n rows of n -/
def Sq (n : Nat) (t : Tb) : Prop := t.length = n ∧ ∀ r ∈ t, r.length = n

/-! ### the least of a set of numbers -/
def Low (d : Option Nat) (S : Nat → Prop) : Prop := (∀ m, d = some m → S m) ∧ ∀ m, S m → ∃ k, d = some k ∧ k ≤ m
theorem Low.uniq {d d' : Option Nat} {S : Nat → Prop} (a : Low d S) (b : Low d' S) : d = d' := by
  cases d with
  | none =>
    cases d' with
    | none => rfl
    | some y =>
      obtain ⟨k, e, _⟩ := a.2 y (b.1 y rfl)
      cases e
  | some x =>
    obtain ⟨k, e, h⟩ := b.2 x (a.1 x rfl)
    obtain ⟨k', e', h'⟩ := a.2 k (b.1 k e)
    cases e'
    rw [e, Nat.le_antisymm h' h]
theorem Low.dom {d : Option Nat} {S T : Nat → Prop} (a : Low d S) (h1 : ∀ m, S m → T m) (h2 : ∀ m, T m → ∃ k, S k ∧ k ≤ m) : Low d T :=
  ⟨fun m e => h1 m (a.1 m e), fun m t => by
    obtain ⟨k, s, l⟩ := h2 m t
    obtain ⟨j, e, l2⟩ := a.2 k s
    exact ⟨j, e, Nat.le_trans l2 l⟩⟩
theorem low_less {d e : Option Nat} {S T : Nat → Prop} (a : Low d S) (b : Low e T) : Low (lessO d e) (fun m => S m ∨ T m) := by
  constructor
  · intro m h
    cases d with
    | none => exact .inr (b.1 m h)
    | some x =>
      cases e with
      | none => exact .inl (a.1 m h)
      | some y =>
        have h : (if y < x then some y else some x) = some m := h
        by_cases c : y < x
        · rw [if_pos c] at h
          exact .inr (b.1 m h)
        · rw [if_neg c] at h
          exact .inl (a.1 m h)
  · intro m h
    rcases h with h | h
    · obtain ⟨k, ek, l⟩ := a.2 m h
      subst ek
      cases e with
      | none => exact ⟨k, rfl, l⟩
      | some y =>
        show ∃ j, (if y < k then some y else some k) = some j ∧ j ≤ m
        by_cases c : y < k
        · exact ⟨y, if_pos c, by omega⟩
        · exact ⟨k, if_neg c, l⟩
    · obtain ⟨k, ek, l⟩ := b.2 m h
      subst ek
      cases d with
      | none => exact ⟨k, rfl, l⟩
      | some x =>
        show ∃ j, (if k < x then some k else some x) = some j ∧ j ≤ m
        by_cases c : k < x
        · exact ⟨k, if_pos c, l⟩
        · exact ⟨x, if_neg c, by omega⟩
theorem low_add {d e : Option Nat} {S T : Nat → Prop} (a : Low d S) (b : Low e T) : Low (addO d e) (fun m => ∃ x y, S x ∧ T y ∧ m = x + y) := by
  constructor
  · intro m h
    cases d with
    | none => cases h
    | some x =>
      cases e with
      | none => cases h
      | some y => exact ⟨x, y, a.1 x rfl, b.1 y rfl, (Option.some.inj h).symm⟩
  · rintro m ⟨x, y, hx, hy, rfl⟩
    obtain ⟨k, ek, l⟩ := a.2 x hx
    obtain ⟨j, ej, l2⟩ := b.2 y hy
    subst ek
    subst ej
    exact ⟨k + j, rfl, by omega⟩
theorem low_some (k : Nat) : Low (some k) (fun m => m = k) := ⟨fun m e => (Option.some.inj e).symm, fun m e => ⟨k, rfl, by omega⟩⟩
theorem low_none : Low none (fun _ => False) := ⟨fun m e => (by cases e), fun m e => e.elim⟩
theorem low_least : ∀ l : List Nat, Low (least l) (fun m => m ∈ l)
  | [] => ⟨fun m e => (by cases e), fun m e => (by simp at e)⟩
  | n :: l => by
    have ih := low_least l
    constructor
    · intro m h
      unfold least at h
      cases e : least l with
      | none =>
        rw [e] at h
        have z : n = m := Option.some.inj h
        rw [z]
        exact List.mem_cons_self
      | some k =>
        rw [e] at h
        have z : min n k = m := Option.some.inj h
        have q := ih.1 k e
        by_cases c : n ≤ k
        · rw [Nat.min_eq_left c] at z
          rw [z]
          exact List.mem_cons_self
        · rw [Nat.min_eq_right (by omega)] at z
          rw [← z]
          exact List.mem_cons_of_mem _ q
    · intro m h
      unfold least
      cases e : least l with
      | none =>
        refine ⟨n, rfl, ?_⟩
        rcases List.mem_cons.mp h with h | h
        · omega
        · obtain ⟨k, ek, _⟩ := ih.2 m h
          rw [e] at ek
          cases ek
      | some k =>
        refine ⟨min n k, rfl, ?_⟩
        rcases List.mem_cons.mp h with h | h
        · have := Nat.min_le_left n k
          omega
        · obtain ⟨j, ej, l2⟩ := ih.2 m h
          rw [e] at ej
          cases ej
          have := Nat.min_le_right n k
          omega

/-! ### tables -/
theorem getD_of {α : Type} {l : List α} {i : Nat} {x d : α} (h : l[i]? = some x) : l.getD i d = x := by
  rw [List.getD, h]
  rfl
theorem getD_at {α : Type} {l : List α} {i : Nat} (d : α) (h : i < l.length) : l[i]? = some (l.getD i d) := by
  have e : l[i]? = some l[i] := List.getElem?_eq_getElem h
  rw [getD_of e, e]
theorem far_map {n : Nat} (f : Nat → Nat → Option Nat) {a b : Nat} (ha : a < n) (hb : b < n) : far ((List.range n).map fun a => (List.range n).map fun b => f a b) a b = f a b := by
  unfold far
  simp [List.getD, ha, hb]
theorem sq_map (n : Nat) (f : Nat → Nat → Option Nat) : Sq n ((List.range n).map fun a => (List.range n).map fun b => f a b) := by
  refine ⟨by simp, fun r hr => ?_⟩
  obtain ⟨a, _, rfl⟩ := List.mem_map.mp hr
  simp
theorem getD_mem {n : Nat} {t : Tb} (h : Sq n t) {a : Nat} (ha : a < n) : t.getD a [] ∈ t ∧ t[a]? = some (t.getD a []) ∧ (t.getD a []).length = n := by
  have hl : a < t.length := by rw [h.1]; exact ha
  have e : t[a]? = some t[a] := List.getElem?_eq_getElem hl
  have e2 : t.getD a [] = t[a] := by rw [List.getD, e]; rfl
  rw [e2]
  exact ⟨List.getElem_mem hl, e, h.2 _ (List.getElem_mem hl)⟩
theorem sq_set2 {n : Nat} {t : Tb} (h : Sq n t) {a : Nat} (ha : a < n) (b : Nat) (v : Option Nat) : Sq n (set2 t a b v) := by
  refine ⟨by unfold set2; rw [List.length_set]; exact h.1, fun r hr => ?_⟩
  rcases List.mem_or_eq_of_mem_set hr with q | q
  · exact h.2 r q
  · rw [q, List.length_set]
    exact (getD_mem h ha).2.2
theorem far_set2 {n : Nat} {t : Tb} (h : Sq n t) {a b x y : Nat} (ha : a < n) (hb : b < n) (v : Option Nat) : far (set2 t a b v) x y = if x = a ∧ y = b then v else far t x y := by
  unfold far set2
  have hl : a < t.length := by rw [h.1]; exact ha
  have hrow := (getD_mem h ha).2.2
  by_cases ex : x = a
  · subst ex
    have e1 : (t.set x ((t.getD x []).set b v)).getD x [] = (t.getD x []).set b v := by
      rw [List.getD, List.getElem?_set_self hl]
      rfl
    rw [e1]
    by_cases ey : y = b
    · subst ey
      rw [if_pos ⟨rfl, rfl⟩, List.getD, List.getElem?_set_self (by omega)]
      rfl
    · rw [if_neg (fun q => ey q.2), List.getD, List.getElem?_set_ne (Ne.symm ey)]
      rfl
  · rw [if_neg (fun q => ex q.1)]
    have e1 : (t.set a ((t.getD a []).set b v)).getD x [] = t.getD x [] := by
      rw [List.getD, List.getElem?_set_ne (Ne.symm ex)]
      rfl
    rw [e1]
theorem tb_ext {n : Nat} {t u : Tb} (ht : Sq n t) (hu : Sq n u) (h : ∀ a b, a < n → b < n → far t a b = far u a b) : t = u := by
  apply List.ext_getElem?
  intro a
  by_cases ha : a < n
  · obtain ⟨_, e1, l1⟩ := getD_mem ht ha
    obtain ⟨_, e2, l2⟩ := getD_mem hu ha
    rw [e1, e2]
    congr 1
    apply List.ext_getElem?
    intro b
    by_cases hb : b < n
    · have q := h a b ha hb
      unfold far at q
      have z1 : (t.getD a [])[b]? = some ((t.getD a []).getD b none) := getD_at none (by omega)
      have z2 : (u.getD a [])[b]? = some ((u.getD a []).getD b none) := getD_at none (by omega)
      rw [z1, z2, q]
    · rw [List.getElem?_eq_none_iff.mpr (by omega), List.getElem?_eq_none_iff.mpr (by omega)]
  · rw [List.getElem?_eq_none_iff.mpr (by rw [ht.1]; omega), List.getElem?_eq_none_iff.mpr (by rw [hu.1]; omega)]

/-! ### walks -/
/-- a road of m minutes between a and b -/
def Ed (rs : List (Nat × Nat × Nat)) (a b m : Nat) : Prop := ∃ r ∈ rs, ((r.1 = a ∧ r.2.1 = b) ∨ (r.1 = b ∧ r.2.1 = a)) ∧ r.2.2 = m
/-- roads between places that are there -/
def Rds (n : Nat) (rs : List (Nat × Nat × Nat)) : Prop := ∀ r ∈ rs, r.1 < n ∧ r.2.1 < n ∧ r.1 ≠ r.2.1 ∧ 1 ≤ r.2.2
theorem Ed.lt {n : Nat} {rs : List (Nat × Nat × Nat)} (h : Rds n rs) {a b m : Nat} (e : Ed rs a b m) : a < n ∧ b < n ∧ 1 ≤ m := by
  obtain ⟨r, hr, q, e⟩ := e
  have := h r hr
  omega
inductive Wk (rs : List (Nat × Nat × Nat)) (k : Nat) : Nat → Nat → Nat → Prop
  | nil (a : Nat) : Wk rs k a a 0
  | edge {a b m : Nat} (e : Ed rs a b m) : Wk rs k a b m
  | join {a v b x y : Nat} (p : Wk rs k a v x) (hv : v < k) (q : Wk rs k v b y) : Wk rs k a b (x + y)
theorem Wk.mono {rs : List (Nat × Nat × Nat)} {k j a b m : Nat} (h : k ≤ j) (w : Wk rs k a b m) : Wk rs j a b m := by
  induction w with
  | nil a => exact .nil a
  | edge e => exact .edge e
  | join p hv q i1 i2 => exact .join i1 (by omega) i2
theorem Wk.cut {rs : List (Nat × Nat × Nat)} {k a b m : Nat} (w : Wk rs (k + 1) a b m) : (∃ m', m' ≤ m ∧ Wk rs k a b m') ∨ ∃ x y, x + y ≤ m ∧ Wk rs k a k x ∧ Wk rs k k b y := by
  induction w with
  | nil a => exact .inl ⟨0, Nat.le_refl _, .nil a⟩
  | edge e => exact .inl ⟨_, Nat.le_refl _, .edge e⟩
  | @join a v b x y p hv q i1 i2 =>
    by_cases c : v < k
    · rcases i1 with ⟨m1, l1, w1⟩ | ⟨x1, y1, l1, w1, w1'⟩
      · rcases i2 with ⟨m2, l2, w2⟩ | ⟨x2, y2, l2, w2, w2'⟩
        · exact .inl ⟨m1 + m2, by omega, .join w1 c w2⟩
        · exact .inr ⟨m1 + x2, y2, by omega, .join w1 c w2, w2'⟩
      · rcases i2 with ⟨m2, l2, w2⟩ | ⟨x2, y2, l2, w2, w2'⟩
        · exact .inr ⟨x1, y1 + m2, by omega, w1, .join w1' c w2⟩
        · exact .inr ⟨x1, y2, by omega, w1, w2'⟩
    · have e : v = k := by omega
      subst e
      rcases i1 with ⟨m1, l1, w1⟩ | ⟨x1, y1, l1, w1, w1'⟩
      · rcases i2 with ⟨m2, l2, w2⟩ | ⟨x2, y2, l2, w2, w2'⟩
        · exact .inr ⟨m1, m2, by omega, w1, w2⟩
        · exact .inr ⟨m1, y2, by omega, w1, w2'⟩
      · rcases i2 with ⟨m2, l2, w2⟩ | ⟨x2, y2, l2, w2, w2'⟩
        · exact .inr ⟨x1, m2, by omega, w1, w2⟩
        · exact .inr ⟨x1, y2, by omega, w1, w2'⟩
/-- t tells the least walks through places below k -/
def Tells (n : Nat) (rs : List (Nat × Nat × Nat)) (k : Nat) (t : Tb) : Prop := ∀ a b, a < n → b < n → Low (far t a b) (Wk rs k a b)
theorem tells_way {n : Nat} {rs : List (Nat × Nat × Nat)} {k : Nat} {t : Tb} (hk : k < n) (h : Tells n rs k t) : Tells n rs (k + 1) (byWay n t k) := fun a b ha hb => by
  unfold byWay
  rw [far_map (fun a b => lessO (far t a b) (addO (far t a k) (far t k b))) ha hb]
  refine (low_less (h a b ha hb) (low_add (h a k ha hk) (h k b hk hb))).dom ?_ ?_
  · rintro m (w | ⟨x, y, w1, w2, rfl⟩)
    · exact w.mono (by omega)
    · exact .join (w1.mono (by omega)) (by omega) (w2.mono (by omega))
  · intro m w
    rcases w.cut with ⟨m', l, w'⟩ | ⟨x, y, l, w1, w2⟩
    · exact ⟨m', .inl w', l⟩
    · exact ⟨x + y, .inr ⟨x, y, w1, w2, rfl⟩, l⟩
theorem sq_way (n : Nat) (t : Tb) (k : Nat) : Sq n (byWay n t k) := sq_map n _
theorem tells_fold {n : Nat} {rs : List (Nat × Nat × Nat)} : ∀ (j k : Nat) (t : Tb), k + j ≤ n → Sq n t → Tells n rs k t → Sq n ((List.range' k j).foldl (byWay n) t) ∧ Tells n rs (k + j) ((List.range' k j).foldl (byWay n) t)
  | 0, k, t, _, hs, h => ⟨hs, h⟩
  | j + 1, k, t, hl, hs, h => by
    rw [List.range'_succ, List.foldl_cons]
    have := tells_fold j (k + 1) (byWay n t k) (by omega) (sq_way n t k) (tells_way (by omega) h)
    rw [show k + 1 + j = k + (j + 1) by omega] at this
    exact this
/-- one road at most -/
theorem wk0 {rs : List (Nat × Nat × Nat)} {a b m : Nat} (w : Wk rs 0 a b m) : (a = b ∧ m = 0) ∨ Ed rs a b m := by
  cases w with
  | nil => exact .inl ⟨rfl, rfl⟩
  | edge e => exact .inr e
  | join p hv q => omega
theorem sq_road1 {n : Nat} {t : Tb} {r : Nat × Nat × Nat} (h : Sq n t) (h1 : r.1 < n) (h2 : r.2.1 < n) : Sq n (road1 t r) := by
  unfold road1
  exact sq_set2 (sq_set2 h h1 _ _) h2 _ _
theorem tells_road1 {n : Nat} {rs : List (Nat × Nat × Nat)} {t : Tb} {r : Nat × Nat × Nat} (hs : Sq n t) (h1 : r.1 < n) (h2 : r.2.1 < n) (h3 : r.1 ≠ r.2.1) (h : Tells n rs 0 t) : Tells n (rs ++ [r]) 0 (road1 t r) := fun a b ha hb => by
  unfold road1
  obtain ⟨p, q, m⟩ := r
  dsimp only at *
  have s1 := sq_set2 hs h1 q (lessO (far t p q) (some m))
  rw [far_set2 s1 h2 h1, far_set2 hs h1 h2, far_set2 hs h1 h2]
  have old : ∀ {x y z : Nat}, Wk rs 0 x y z → Wk (rs ++ [(p, q, m)]) 0 x y z := fun {x y z} w => by
    rcases wk0 w with ⟨rfl, rfl⟩ | ⟨r, hr, e⟩
    · exact .nil _
    · exact .edge ⟨r, List.mem_append_left _ hr, e⟩
  have new : ∀ {x y z : Nat}, Wk (rs ++ [(p, q, m)]) 0 x y z → Wk rs 0 x y z ∨ (((x = p ∧ y = q) ∨ (x = q ∧ y = p)) ∧ z = m) := fun {x y z} w => by
    rcases wk0 w with ⟨rfl, rfl⟩ | ⟨r, hr, e, e2⟩
    · exact .inl (.nil _)
    · rcases List.mem_append.mp hr with hr | hr
      · exact .inl (.edge ⟨r, hr, e, e2⟩)
      · have z := List.mem_singleton.mp hr
        subst z
        dsimp only at e e2
        refine .inr ⟨?_, e2.symm⟩
        omega
  have two : ∀ {x y : Nat}, x < n → y < n → ((x = p ∧ y = q) ∨ (x = q ∧ y = p)) → Low (lessO (far t x y) (some m)) (Wk (rs ++ [(p, q, m)]) 0 x y) := fun {x y} hx hy e => by
    refine (low_less (h x y hx hy) (low_some m)).dom ?_ ?_
    · rintro z (w | rfl)
      · exact old w
      · refine .edge ⟨(p, q, z), by simp, ?_, rfl⟩
        dsimp only
        omega
    · intro z w
      rcases new w with w | ⟨_, e⟩
      · exact ⟨z, .inl w, Nat.le_refl _⟩
      · exact ⟨z, .inr e, Nat.le_refl _⟩
  by_cases c1 : a = q ∧ b = p
  · rw [if_pos c1, if_neg (by omega)]
    obtain ⟨rfl, rfl⟩ := c1
    exact two h2 h1 (.inr ⟨rfl, rfl⟩)
  · rw [if_neg c1]
    by_cases c2 : a = p ∧ b = q
    · rw [if_pos c2]
      obtain ⟨rfl, rfl⟩ := c2
      exact two h1 h2 (.inl ⟨rfl, rfl⟩)
    · rw [if_neg c2]
      refine (h a b ha hb).dom (fun _ w => old w) fun z w => ?_
      rcases new w with w | ⟨e, _⟩
      · exact ⟨z, w, Nat.le_refl _⟩
      · omega
theorem tells_stand (n : Nat) : Tells n [] 0 (stand n) := fun a b ha hb => by
  unfold stand
  rw [far_map (fun a b => if a = b then some 0 else none) ha hb]
  by_cases c : a = b
  · subst c
    rw [if_pos rfl]
    refine (low_some 0).dom (fun m e => by subst e; exact .nil _) fun m w => ?_
    exact ⟨0, rfl, Nat.zero_le _⟩
  · rw [if_neg c]
    refine low_none.dom (fun m e => e.elim) fun m w => ?_
    rcases wk0 w with ⟨e, _⟩ | ⟨r, hr, _⟩
    · exact (c e).elim
    · simp at hr
theorem tells_roads {n : Nat} : ∀ (more rs : List (Nat × Nat × Nat)) (t : Tb), Rds n more → Sq n t → Tells n rs 0 t → Sq n (more.foldl road1 t) ∧ Tells n (rs ++ more) 0 (more.foldl road1 t)
  | [], rs, t, _, hs, h => by rw [List.append_nil]; exact ⟨hs, h⟩
  | r :: more, rs, t, hr, hs, h => by
    have e := hr r List.mem_cons_self
    have := tells_roads more (rs ++ [r]) (road1 t r) (fun x hx => hr x (List.mem_cons_of_mem _ hx)) (sq_road1 hs e.1 e.2.1) (tells_road1 hs e.1 e.2.1 e.2.2.1 h)
    rw [List.append_assoc] at this
    exact this
theorem sq_stand (n : Nat) : Sq n (stand n) := sq_map n _
theorem sq_byRoads {n : Nat} {rs : List (Nat × Nat × Nat)} (h : Rds n rs) : Sq n (byRoads n rs) := (tells_roads rs [] (stand n) h (sq_stand n) (tells_stand n)).1
theorem drives_tells {n : Nat} {rs : List (Nat × Nat × Nat)} (h : Rds n rs) : Sq n (drives n rs) ∧ Tells n rs n (drives n rs) := by
  obtain ⟨s, t⟩ := tells_roads rs [] (stand n) h (sq_stand n) (tells_stand n)
  rw [List.nil_append] at t
  have := tells_fold (rs := rs) n 0 (byRoads n rs) (by omega) s t
  rw [Nat.zero_add] at this
  unfold drives
  rw [List.range_eq_range']
  exact this

/-! ### paths: no place twice is enough -/
inductive Path (rs : List (Nat × Nat × Nat)) : Nat → Nat → List Nat → Nat → Prop
  | nil (a : Nat) : Path rs a a [a] 0
  | cons {a w b k m : Nat} {p : List Nat} (e : Ed rs a w k) (q : Path rs w b p m) : Path rs a b (a :: p) (k + m)
theorem Path.append {rs : List (Nat × Nat × Nat)} {a v x : Nat} {p : List Nat} (h : Path rs a v p x) : ∀ {b y : Nat} {q : List Nat}, Path rs v b q y → ∃ r, Path rs a b r (x + y) := by
  induction h with
  | nil a =>
    intro b y q h2
    rw [Nat.zero_add]
    exact ⟨q, h2⟩
  | cons e _ ih =>
    intro b y q h2
    obtain ⟨r, hr⟩ := ih h2
    rw [Nat.add_assoc]
    exact ⟨_, .cons e hr⟩
theorem Wk.path {rs : List (Nat × Nat × Nat)} {k a b m : Nat} (w : Wk rs k a b m) : ∃ p, Path rs a b p m := by
  induction w with
  | nil a => exact ⟨_, .nil a⟩
  | @edge a b m e => exact ⟨_, show Path rs a b _ (m + 0) from .cons e (.nil b)⟩
  | join _ _ _ i1 i2 =>
    obtain ⟨p, h1⟩ := i1
    obtain ⟨q, h2⟩ := i2
    exact h1.append h2
theorem Path.from_ {rs : List (Nat × Nat × Nat)} {a b m : Nat} {p : List Nat} (h : Path rs a b p m) : ∀ v ∈ p, ∃ z m', Path rs v b z m' ∧ m' ≤ m ∧ z.Sublist p := by
  induction h with
  | nil a =>
    intro v hv
    rw [List.mem_singleton.mp hv]
    exact ⟨_, _, .nil a, Nat.le_refl _, List.Sublist.refl _⟩
  | @cons a w b k m p e q ih =>
    intro v hv
    rcases List.mem_cons.mp hv with rfl | hv
    · exact ⟨_, _, .cons e q, Nat.le_refl _, List.Sublist.refl _⟩
    · obtain ⟨z, m', h1, h2, h3⟩ := ih v hv
      exact ⟨z, m', h1, by omega, h3.trans (List.sublist_cons_self ..)⟩
theorem Path.simple {rs : List (Nat × Nat × Nat)} {a b m : Nat} {p : List Nat} (h : Path rs a b p m) : ∃ z m', Path rs a b z m' ∧ m' ≤ m ∧ z.Nodup := by
  induction h with
  | nil a => exact ⟨_, _, .nil a, Nat.le_refl _, by simp⟩
  | @cons a w b k m p e q ih =>
    obtain ⟨z, m', h1, h2, h3⟩ := ih
    by_cases c : a ∈ z
    · obtain ⟨y, m2, q1, q2, q3⟩ := h1.from_ a c
      exact ⟨y, m2, q1, by omega, q3.nodup h3⟩
    · exact ⟨_, _, .cons e h1, by omega, List.nodup_cons.mpr ⟨c, h3⟩⟩
theorem Path.lt {n : Nat} {rs : List (Nat × Nat × Nat)} (hr : Rds n rs) {a b m : Nat} {p : List Nat} (h : Path rs a b p m) : b < n → ∀ v ∈ p, v < n := by
  induction h with
  | nil a =>
    intro hb v hv
    rw [List.mem_singleton.mp hv]
    exact hb
  | cons e _ ih =>
    intro hb v hv
    rcases List.mem_cons.mp hv with rfl | hv
    · exact (e.lt hr).1
    · exact ih hb v hv
theorem nodup_le {α : Type} [DecidableEq α] : ∀ {l m : List α}, l.Nodup → (∀ x ∈ l, x ∈ m) → l.length ≤ m.length
  | [], m, _, _ => Nat.zero_le _
  | x :: l, m, h, s => by
    have hx := s x List.mem_cons_self
    obtain ⟨h1, h2⟩ := List.nodup_cons.mp h
    have ih := nodup_le (l := l) (m := m.erase x) h2 fun y hy => (List.mem_erase_of_ne (fun e => h1 (by rw [← e]; exact hy))).mpr (s y (List.mem_cons_of_mem _ hy))
    have e := List.length_erase_of_mem hx
    have := List.length_pos_of_mem hx
    rw [List.length_cons]
    omega

/-! ### rounds -/
/-- a walk of at most i roads -/
inductive Wn (rs : List (Nat × Nat × Nat)) : Nat → Nat → Nat → Nat → Prop
  | nil (i a : Nat) : Wn rs i a a 0
  | snoc {i a v b x k : Nat} (p : Wn rs i a v x) (e : Ed rs v b k) : Wn rs (i + 1) a b (x + k)
theorem Wn.cons {rs : List (Nat × Nat × Nat)} {i w b x : Nat} (h : Wn rs i w b x) : ∀ {a k : Nat}, Ed rs a w k → Wn rs (i + 1) a b (k + x) := by
  induction h with
  | nil i w =>
    intro a k e
    have := Wn.snoc (rs := rs) (.nil i a) e
    rw [Nat.zero_add] at this
    exact this
  | snoc p e ih =>
    intro a k e2
    have := Wn.snoc (ih e2) e
    rw [← Nat.add_assoc]
    exact this
theorem Wn.more {rs : List (Nat × Nat × Nat)} {i a b x : Nat} (h : Wn rs i a b x) : Wn rs (i + 1) a b x := by
  induction h with
  | nil i a => exact .nil _ a
  | snoc p e ih => exact .snoc ih e
theorem Wn.mono {rs : List (Nat × Nat × Nat)} {i j a b x : Nat} (h : Wn rs i a b x) (l : i ≤ j) : Wn rs j a b x := by
  obtain ⟨d, rfl⟩ := Nat.le.dest l
  induction d with
  | zero => exact h
  | succ d ih => exact (ih (by omega)).more
theorem Path.wn {rs : List (Nat × Nat × Nat)} {a b m : Nat} {p : List Nat} (h : Path rs a b p m) : Wn rs p.length a b m := by
  induction h with
  | nil a => exact .nil _ a
  | cons e _ ih => exact ih.cons e
theorem Wn.wk {n : Nat} {rs : List (Nat × Nat × Nat)} (hr : Rds n rs) {i a b x : Nat} (h : Wn rs i a b x) : Wk rs n a b x := by
  induction h with
  | nil i a => exact .nil a
  | snoc p e ih => exact .join ih (e.lt hr).1 (.edge e)
theorem low_wn {n : Nat} {rs : List (Nat × Nat × Nat)} (hr : Rds n rs) {a b : Nat} (hb : b < n) {d : Option Nat} (h : Low d (Wn rs n a b)) : Low d (Wk rs n a b) :=
  h.dom (fun _ w => w.wk hr) fun m w => by
    obtain ⟨p, hp⟩ := w.path
    obtain ⟨z, m', h1, h2, h3⟩ := hp.simple
    have hl : z.length ≤ (List.range n).length := nodup_le h3 fun v hv => List.mem_range.mpr (h1.lt hr hb v hv)
    rw [List.length_range] at hl
    exact ⟨m', h1.wn.mono hl, h2⟩
theorem low_road (c : Chase) (a b : Nat) : Low (c.road a b) (Ed c.roads a b) := by
  unfold Chase.road
  refine (low_least _).dom (fun m h => ?_) fun m h => ?_
  · obtain ⟨r, hr, e⟩ := List.mem_map.mp h
    obtain ⟨h1, h2⟩ := List.mem_filter.mp hr
    refine ⟨r, h1, ?_, e⟩
    simpa using h2
  · obtain ⟨r, h1, h2, e⟩ := h
    exact ⟨m, List.mem_map.mpr ⟨r, List.mem_filter.mpr ⟨h1, by simpa using h2⟩, e⟩, Nat.le_refl _⟩
theorem farther_length (c : Chase) (l : List (Option Nat)) : (c.farther l).length = c.places := by simp [Chase.farther]
theorem low_farther {c : Chase} (hr : Rds c.places c.roads) {l : List (Option Nat)} {i a : Nat} (h : ∀ b, b < c.places → Low (l.getD b none) (Wn c.roads i a b)) :
    ∀ b, b < c.places → Low ((c.farther l).getD b none) (Wn c.roads (i + 1) a b) := fun b hb => by
  have e : (c.farther l).getD b none = least (((l.getD b none).toList) ++ (List.range c.places).filterMap fun a => match l.getD a none, c.road a b with
    | some n, some m => some (n + m)
    | _, _ => none) := by
    unfold Chase.farther
    rw [List.getD, List.getElem?_map, List.getElem?_range hb]
    rfl
  rw [e]
  refine (low_least _).dom (fun m q => ?_) fun m w => ?_
  · rcases List.mem_append.mp q with q | q
    · have q' : l.getD b none = some m := by simpa using q
      exact ((h b hb).1 m q').more
    · obtain ⟨v, hv, q⟩ := List.mem_filterMap.mp q
      have hv' := List.mem_range.mp hv
      cases e1 : l.getD v none with
      | none => rw [e1] at q; cases q
      | some x =>
        cases e2 : c.road v b with
        | none => rw [e1, e2] at q; cases q
        | some y =>
          rw [e1, e2] at q
          cases q
          exact .snoc ((h v hv').1 x e1) ((low_road c v b).1 y e2)
  · cases w with
    | nil =>
      obtain ⟨k, ek, l1⟩ := (h a hb).2 0 (.nil i a)
      exact ⟨k, List.mem_append_left _ (by rw [ek]; simp), l1⟩
    | @snoc _ _ v _ x k p e =>
      have hv := (e.lt hr).1
      obtain ⟨x', e1, l1⟩ := (h v hv).2 x p
      obtain ⟨k', e2, l2⟩ := (low_road c v b).2 k e
      refine ⟨x' + k', List.mem_append_right _ (List.mem_filterMap.mpr ⟨v, List.mem_range.mpr hv, ?_⟩), by omega⟩
      rw [e1, e2]
theorem low_spread {c : Chase} (hr : Rds c.places c.roads) : ∀ (j i : Nat) (l : List (Option Nat)) (a : Nat), l.length = c.places → (∀ b, b < c.places → Low (l.getD b none) (Wn c.roads i a b)) →
    (c.spread j l).length = c.places ∧ ∀ b, b < c.places → Low ((c.spread j l).getD b none) (Wn c.roads (i + j) a b)
  | 0, i, l, a, hl, h => ⟨hl, h⟩
  | j + 1, i, l, a, hl, h => by
    have := low_spread hr j (i + 1) (c.farther l) a (farther_length c l) (low_farther hr h)
    rw [show i + 1 + j = i + (j + 1) by omega] at this
    exact this
theorem ways_tells {c : Chase} (hr : Rds c.places c.roads) : Sq c.places c.ways ∧ Tells c.places c.roads c.places c.ways := by
  have key : ∀ a, (c.from_ a).length = c.places ∧ ∀ b, b < c.places → Low ((c.from_ a).getD b none) (Wn c.roads c.places a b) := fun a => by
    have := low_spread hr c.places 0 ((List.range c.places).map fun b => if b = a then some 0 else none) a (by simp) fun b hb => by
      rw [List.getD, List.getElem?_map, List.getElem?_range hb]
      show Low (if b = a then some 0 else none) _
      by_cases e : b = a
      · rw [if_pos e, e]
        refine (low_some 0).dom (fun m z => by subst z; exact .nil 0 a) fun m w => ⟨0, rfl, Nat.zero_le _⟩
      · rw [if_neg e]
        refine low_none.dom (fun m z => z.elim) fun m w => ?_
        cases w
        exact (e rfl).elim
    rw [Nat.zero_add] at this
    exact this
  refine ⟨⟨by simp [Chase.ways], fun r hr' => ?_⟩, fun a b ha hb => ?_⟩
  · obtain ⟨a, _, rfl⟩ := List.mem_map.mp hr'
    exact (key a).1
  · have e : far c.ways a b = (c.from_ a).getD b none := by
      unfold far Chase.ways
      rw [getD_of (x := c.from_ a) (by rw [List.getElem?_map, List.getElem?_range ha]; rfl)]
    rw [e]
    exact low_wn hr hb ((key a).2 b hb)
theorem drives_ways {c : Chase} (hr : Rds c.places c.roads) : drives c.places c.roads = c.ways := by
  obtain ⟨s1, t1⟩ := drives_tells hr
  obtain ⟨s2, t2⟩ := ways_tells hr
  exact tb_ext s1 s2 fun a b ha hb => (t1 a b ha hb).uniq (t2 a b ha hb)
/-- to itself 0; 0 to itself alone -/
theorem ways_zero {c : Chase} (hr : Rds c.places c.roads) {a b : Nat} (ha : a < c.places) (hb : b < c.places) : far c.ways a b = some 0 ↔ a = b := by
  have h := (ways_tells hr).2 a b ha hb
  constructor
  · intro e
    have w := h.1 0 e
    have key : ∀ {k x y m : Nat}, Wk c.roads k x y m → m = 0 → x = y := fun {k x y m} w => by
      induction w with
      | nil a => exact fun _ => rfl
      | edge e =>
        intro z
        have := (e.lt hr).2.2
        omega
      | join _ _ _ i1 i2 =>
        intro z
        exact (i1 (by omega)).trans (i2 (by omega))
    exact key w rfl
  · rintro rfl
    obtain ⟨k, e, l⟩ := h.2 0 (.nil a)
    rw [e]
    congr
    omega
end RB
end
section
set_option autoImplicit false
namespace RB
open Si94

/-! ### the search's mirror -/
def newsAt (c : Chase) (i : Nat) : News := c.news.getD i ⟨0, []⟩
def sinceOf (c : Chase) (gone : Nat) : Nat := if gone = 0 then 0 else (newsAt c (gone - 1)).minute
def inTime (n : Nat) (w : Tb) (p t u : Nat) : List Nat := (List.range n).filter fun q => match far w p q with
  | none => false
  | some m => decide (t + m ≤ u)
def lateFrom (w : Tb) (q : Nat) (s : List Nat) : Option Nat := worstOf (s.map fun v => far w q v)
abbrev T3 := Nat × Nat × Nat
def lastCh (c : Chase) (w : Tb) (p t : Nat) (s : List Nat) : List T3 := (inTime c.places w p t c.landing).filterMap fun q => (lateFrom w q s).map fun l => (l, c.news.length, q)
def lateBehind (c : Chase) (w : Tb) (q i : Nat) (s : List Nat) : Option Nat := worstOf ((split (newsAt c i).parts s).map fun u => c.value w (c.news.drop (i + 1)) (newsAt c i).minute q u)
def newsRow (c : Chase) (w : Tb) (p t i : Nat) (s : List Nat) : List T3 := (inTime c.places w p t (newsAt c i).minute).filterMap fun q => (lateBehind c w q i s).map fun l => (l, i, q)
def newsCh (c : Chase) (w : Tb) (p t gone : Nat) (s : List Nat) : List T3 := (List.range' gone (c.news.length - gone)).flatMap fun i => newsRow c w p t i s
def choices (c : Chase) (w : Tb) (p gone : Nat) (s : List Nat) : List T3 := newsCh c w p (sinceOf c gone) gone s ++ lastCh c w p (sinceOf c gone) s
/-- news in order, none behind the landing -/
def Srt (c : Chase) : Prop := (∀ i j, i ≤ j → j < c.news.length → (newsAt c i).minute ≤ (newsAt c j).minute) ∧ ∀ j, j < c.news.length → (newsAt c j).minute ≤ c.landing

theorem drop_news {c : Chase} {g : Nat} (h : g < c.news.length) : c.news.drop g = newsAt c g :: c.news.drop (g + 1) := by
  rw [List.drop_eq_getElem_cons h]
  congr
  exact (getD_of (List.getElem?_eq_getElem h)).symm
theorem newsCh_step {c : Chase} {w : Tb} {p t g : Nat} {s : List Nat} (h : g < c.news.length) : newsCh c w p t g s = newsRow c w p t g s ++ newsCh c w p t (g + 1) s := by
  unfold newsCh
  have e : c.news.length - g = (c.news.length - (g + 1)) + 1 := by omega
  rw [e, List.range'_succ, List.flatMap_cons]
theorem newsCh_end {c : Chase} {w : Tb} {p t : Nat} {s : List Nat} : newsCh c w p t c.news.length s = [] := by
  unfold newsCh
  rw [Nat.sub_self]
  rfl
/-- the least of two lists of the same reach -/
theorem least_eq {l l' : List Nat} (h1 : ∀ m ∈ l, ∃ k ∈ l', k ≤ m) (h2 : ∀ m ∈ l', m ∈ l) : least l = least l' :=
  (low_least l).uniq ((low_least l').dom h2 fun m hm => let ⟨k, a, b⟩ := h1 m hm; ⟨k, a, b⟩)
theorem firsts {c : Chase} {w : Tb} {p t u : Nat} {f : Nat → Option Nat} {i : Nat} (h : t ≤ u) :
    ((inTime c.places w p t u).filterMap fun q => (f q).map fun l => ((l, i, q) : T3)).map (·.1) =
      ((List.range c.places).map fun q => match far w p q with
        | none => none
        | some n => if n ≤ u - t then f q else none).filterMap fun x => x := by
  unfold inTime
  rw [List.filterMap_filter, List.map_filterMap, List.filterMap_map]
  congr 1
  funext q
  cases e : far w p q with
  | none => simp [e]
  | some n =>
    have : (t + n ≤ u) = (n ≤ u - t) := propext (by omega)
    simp only [e, Function.comp, this]
    by_cases c : n ≤ u - t
    · simp only [c, decide_true, if_true]
      cases f q <;> rfl
    · simp only [c, decide_false, if_false]
      rfl
theorem value_last (c : Chase) (w : Tb) (p t : Nat) (s : List Nat) (h : t ≤ c.landing) : least ((lastCh c w p t s).map (·.1)) = c.value w [] t p s := by
  unfold lastCh
  rw [firsts (c := c) h]
  rfl
theorem value_law (c : Chase) (w : Tb) (p t : Nat) (s : List Nat) (hs : Srt c) (ht : t ≤ c.landing) :
    ∀ (r g : Nat), g + r = c.news.length → (∀ j, g ≤ j → j < c.news.length → t ≤ (newsAt c j).minute) → least ((newsCh c w p t g s ++ lastCh c w p t s).map (·.1)) = c.value w (c.news.drop g) t p s
  | 0, g, e, _ => by
    have e' : g = c.news.length := by omega
    subst e'
    rw [newsCh_end, List.nil_append, List.drop_length]
    exact value_last c w p t s ht
  | r + 1, g, e, hm => by
    have hg : g < c.news.length := by omega
    have ih := value_law c w p t s hs ht r (g + 1) (by omega) fun j a b => hm j (by omega) b
    rw [drop_news hg, newsCh_step hg, List.append_assoc, List.map_append]
    unfold newsRow lateBehind
    rw [firsts (c := c) (f := fun q => worstOf ((split (newsAt c g).parts s).map fun u => c.value w (c.news.drop (g + 1)) (newsAt c g).minute q u)) (hm g (Nat.le_refl _) hg)]
    have ev : c.value w (newsAt c g :: c.news.drop (g + 1)) t p s = bestOf (c.value w (c.news.drop (g + 1)) t p s :: (List.range c.places).map fun q => match far w p q with
      | none => none
      | some n => if n ≤ (newsAt c g).minute - t then worstOf ((split (newsAt c g).parts s).map fun u => c.value w (c.news.drop (g + 1)) (newsAt c g).minute q u) else none) := rfl
    rw [ev]
    unfold bestOf
    rw [← ih, List.filterMap_cons]
    generalize ((newsCh c w p t (g + 1) s ++ lastCh c w p t s).map (·.1)) = L0
    have key : ∀ L : List Nat, least (L ++ L0) = least (match least L0 with | none => L | some b => b :: L) := fun L => by
      have l0 := low_least L0
      cases e0 : least L0 with
      | none =>
        refine least_eq (fun m hm => ?_) fun m hm => List.mem_append_left _ hm
        rcases List.mem_append.mp hm with hm | hm
        · exact ⟨m, hm, Nat.le_refl _⟩
        · obtain ⟨k, ek, _⟩ := l0.2 m hm
          rw [e0] at ek
          cases ek
      | some b =>
        refine least_eq (fun m hm => ?_) fun m hm => ?_
        · rcases List.mem_append.mp hm with hm | hm
          · exact ⟨m, List.mem_cons_of_mem _ hm, Nat.le_refl _⟩
          · obtain ⟨k, ek, l⟩ := l0.2 m hm
            rw [e0] at ek
            cases ek
            exact ⟨b, List.mem_cons_self, l⟩
        · rcases List.mem_cons.mp hm with rfl | hm
          · exact List.mem_append_right _ (l0.1 _ e0)
          · exact List.mem_append_left _ hm
    rw [key]
    cases least L0 <;> rfl
theorem since_le {c : Chase} (hs : Srt c) {g : Nat} (hg : g ≤ c.news.length) : sinceOf c g ≤ c.landing ∧ ∀ j, g ≤ j → j < c.news.length → sinceOf c g ≤ (newsAt c j).minute := by
  unfold sinceOf
  by_cases e : g = 0
  · rw [if_pos e]
    exact ⟨Nat.zero_le _, fun _ _ _ => Nat.zero_le _⟩
  · rw [if_neg e]
    exact ⟨hs.2 (g - 1) (by omega), fun j a b => hs.1 (g - 1) j (by omega) b⟩
theorem choices_value {c : Chase} (hs : Srt c) (w : Tb) (p g : Nat) (s : List Nat) (hg : g ≤ c.news.length) : least ((choices c w p g s).map (·.1)) = c.value w (c.news.drop g) (sinceOf c g) p s :=
  let ⟨h1, h2⟩ := since_le hs hg
  value_law c w p (sinceOf c g) s hs h1 (c.news.length - g) g (by omega) h2

/-! ### the least of the triples -/
def tlt (a b : T3) : Bool := if a.1 = b.1 then (if a.2.1 = b.2.1 then decide (a.2.2 < b.2.2) else decide (a.2.1 < b.2.1)) else decide (a.1 < b.1)
def bestT : List T3 → Option T3
  | [] => none
  | x :: xs => some (xs.foldl (fun a y => if tlt y a = true then y else a) x)
def Up (a b : T3) : Prop := a.2.1 < b.2.1 ∨ (a.2.1 = b.2.1 ∧ a.2.2 < b.2.2)
theorem best_fold : ∀ (ys : List T3) (a : T3), (a :: ys).Pairwise Up →
    let r := ys.foldl (fun a y => if tlt y a = true then y else a) a
    (a :: ys).find? (fun x => x.1 == r.1) = some r ∧ least ((a :: ys).map (·.1)) = some r.1 ∧ r.1 ≤ a.1
  | [], a, _ => ⟨by simp, by simp [least], Nat.le_refl _⟩
  | y :: ys, a, h => by
    obtain ⟨h1, h2⟩ := List.pairwise_cons.mp h
    obtain ⟨h3, h4⟩ := List.pairwise_cons.mp h2
    have ay := h1 y List.mem_cons_self
    intro r
    by_cases c : y.1 < a.1
    · have e : tlt y a = true := by
        unfold tlt
        rw [if_neg (by omega)]
        exact decide_eq_true c
      have er : r = ys.foldl (fun a y => if tlt y a = true then y else a) y := by
        show (y :: ys).foldl (fun a y => if tlt y a = true then y else a) a = _
        rw [List.foldl_cons, if_pos e]
      obtain ⟨i1, i2, i3⟩ := best_fold ys y h2
      rw [← er] at i1 i2 i3
      refine ⟨?_, ?_, by omega⟩
      · rw [List.find?_cons]
        have : (a.1 == r.1) = false := by
          rw [beq_eq_false_iff_ne]
          omega
        rw [this]
        exact i1
      · rw [List.map_cons, least, i2]
        show some (min a.1 r.1) = some r.1
        rw [Nat.min_eq_right (by omega)]
    · have e : tlt y a = false := by
        unfold tlt
        by_cases c1 : y.1 = a.1
        · rw [if_pos c1]
          rcases ay with q | ⟨q, q2⟩
          · rw [if_neg (by omega)]
            exact decide_eq_false (by omega)
          · rw [if_pos q.symm]
            exact decide_eq_false (by omega)
        · rw [if_neg c1]
          exact decide_eq_false c
      have er : r = ys.foldl (fun a y => if tlt y a = true then y else a) a := by
        show (y :: ys).foldl (fun a y => if tlt y a = true then y else a) a = _
        rw [List.foldl_cons, e]
        rfl
      have h5 : (a :: ys).Pairwise Up := List.pairwise_cons.mpr ⟨fun z hz => h1 z (List.mem_cons_of_mem _ hz), h4⟩
      obtain ⟨i1, i2, i3⟩ := best_fold ys a h5
      rw [← er] at i1 i2 i3
      refine ⟨?_, ?_, i3⟩
      · rw [List.find?_cons] at i1 ⊢
        cases c2 : (a.1 == r.1) with
        | true =>
          rw [c2] at i1
          exact i1
        | false =>
          rw [c2] at i1
          have : (y.1 == r.1) = false := by
            rw [beq_eq_false_iff_ne] at c2 ⊢
            omega
          show (y :: ys).find? _ = some r
          rw [List.find?_cons, this]
          exact i1
      · rw [List.map_cons, least] at i2
        rw [List.map_cons, List.map_cons, least, least]
        cases e2 : least (ys.map (·.1)) with
        | none =>
          rw [e2] at i2
          have i2 : some a.1 = some r.1 := i2
          have := Option.some.inj i2
          show some (min a.1 y.1) = some r.1
          rw [Nat.min_eq_left (by omega), this]
        | some k =>
          rw [e2] at i2
          have i2 : some (min a.1 k) = some r.1 := i2
          have := Option.some.inj i2
          show some (min a.1 (min y.1 k)) = some r.1
          congr 1
          omega
theorem best_find {L : List T3} (h : L.Pairwise Up) : bestT L = (least (L.map (·.1))).bind fun n => L.find? fun x => x.1 == n := by
  cases L with
  | nil => rfl
  | cons a ys =>
    obtain ⟨i1, i2, _⟩ := best_fold ys a h
    rw [i2]
    exact i1.symm
theorem inTime_up (n : Nat) (w : Tb) (p t u : Nat) : (inTime n w p t u).Pairwise (· < ·) := List.Pairwise.filter _ List.pairwise_lt_range
theorem row_up {l : List Nat} {f : Nat → Option Nat} {i : Nat} (h : l.Pairwise (· < ·)) : (l.filterMap fun q => (f q).map fun x => ((x, i, q) : T3)).Pairwise Up := by
  rw [List.pairwise_filterMap]
  refine h.imp fun {a b} hab x hx y hy => ?_
  simp only [Option.map_eq_some_iff] at hx hy
  obtain ⟨_, _, rfl⟩ := hx
  obtain ⟨_, _, rfl⟩ := hy
  exact .inr ⟨rfl, hab⟩
theorem row_i {l : List Nat} {f : Nat → Option Nat} {i : Nat} {x : T3} (h : x ∈ l.filterMap fun q => (f q).map fun x => ((x, i, q) : T3)) : x.2.1 = i := by
  obtain ⟨q, _, e⟩ := List.mem_filterMap.mp h
  simp only [Option.map_eq_some_iff] at e
  obtain ⟨_, _, rfl⟩ := e
  rfl
theorem newsCh_up (c : Chase) (w : Tb) (p t : Nat) (s : List Nat) : ∀ (r g : Nat), g + r = c.news.length → (newsCh c w p t g s).Pairwise Up ∧ ∀ x ∈ newsCh c w p t g s, g ≤ x.2.1 ∧ x.2.1 < c.news.length
  | 0, g, e => by
    have e' : g = c.news.length := by omega
    subst e'
    rw [newsCh_end]
    exact ⟨.nil, fun x hx => by simp at hx⟩
  | r + 1, g, e => by
    obtain ⟨i1, i2⟩ := newsCh_up c w p t s r (g + 1) (by omega)
    rw [newsCh_step (by omega)]
    refine ⟨List.pairwise_append.mpr ⟨row_up (inTime_up ..), i1, fun x hx y hy => ?_⟩, fun x hx => ?_⟩
    · have := row_i hx
      have := i2 y hy
      exact .inl (by omega)
    · rcases List.mem_append.mp hx with hx | hx
      · have := row_i hx
        omega
      · have := i2 x hx
        omega
theorem choices_up (c : Chase) (w : Tb) (p g : Nat) (s : List Nat) (hg : g ≤ c.news.length) : (choices c w p g s).Pairwise Up := by
  obtain ⟨i1, i2⟩ := newsCh_up c w p (sinceOf c g) s (c.news.length - g) g (by omega)
  refine List.pairwise_append.mpr ⟨i1, row_up (inTime_up ..), fun x hx y hy => ?_⟩
  have := i2 x hx
  have := row_i hy
  exact .inl (by omega)
/-- the minute of the i-th news, of the landing behind the last -/
def minAt (c : Chase) (i : Nat) : Nat := if i < c.news.length then (newsAt c i).minute else c.landing
theorem find_row {n : Nat} {w : Tb} {p u i m : Nat} {f : Nat → Option Nat} :
    ((inTime n w p 0 u).filterMap fun q => (f q).map fun l => ((l, i, q) : T3)).find? (fun x => x.1 == m) =
      ((List.range n).find? fun q => match far w p q with
        | none => false
        | some k => decide (k ≤ u) && (f q == some m)).map fun q => (m, i, q) := by
  unfold inTime
  rw [List.find?_filterMap, List.find?_filter]
  have e : (fun q : Nat => (match far w p q with
      | none => false
      | some k => decide (0 + k ≤ u)) && ((f q).map fun l => ((l, i, q) : T3)).any fun x => x.1 == m) = fun q => match far w p q with
        | none => false
        | some k => decide (k ≤ u) && (f q == some m) := by
    funext q
    cases far w p q with
    | none => rfl
    | some k =>
      show (decide (0 + k ≤ u) && _) = (decide (k ≤ u) && _)
      rw [Nat.zero_add]
      cases f q <;> rfl
  have e2 : (fun a : Nat => decide ((match far w p a with
      | none => false
      | some k => decide (0 + k ≤ u)) = true ∧ (((f a).map fun l => ((l, i, a) : T3)).any fun x => x.1 == m) = true)) = fun q => match far w p q with
        | none => false
        | some k => decide (k ≤ u) && (f q == some m) := by
    rw [← e]
    funext q
    simp
  first
    | rw [e]
    | rw [e2]
  cases h : (List.range n).find? fun q => match far w p q with
        | none => false
        | some k => decide (k ≤ u) && (f q == some m) with
  | none => rfl
  | some q =>
    have hq := List.find?_some h
    cases e1 : far w p q with
    | none => simp [e1] at hq
    | some k =>
      simp only [e1, Bool.and_eq_true, beq_iff_eq] at hq
      show (f q).map _ = some (m, i, q)
      rw [hq.2]
      rfl
theorem first_law (c : Chase) (w : Tb) (n : Nat) : ∀ (r g : Nat), g + r = c.news.length →
    c.firstFrom w n (c.news.drop g) = ((newsCh c w c.start 0 g c.mays ++ lastCh c w c.start 0 c.mays).find? fun x => x.1 == n).map fun x => (x.2.2, minAt c x.2.1)
  | 0, g, e => by
    have e' : g = c.news.length := by omega
    subst e'
    rw [newsCh_end, List.nil_append, List.drop_length]
    unfold lastCh
    rw [find_row]
    unfold Chase.firstFrom lateFrom
    rw [Option.map_map]
    have e3 : minAt c c.news.length = c.landing := if_neg (Nat.lt_irrefl _)
    congr 1
    funext q
    show (q, c.landing) = (q, minAt c c.news.length)
    rw [e3]
  | r + 1, g, e => by
    have hg : g < c.news.length := by omega
    have ih := first_law c w n r (g + 1) (by omega)
    rw [drop_news hg, newsCh_step hg, List.append_assoc, List.find?_append]
    unfold newsRow
    rw [find_row]
    unfold Chase.firstFrom
    rw [ih]
    have e3 : minAt c g = (newsAt c g).minute := if_pos hg
    unfold lateBehind
    generalize ((List.range c.places).find? _) = o
    cases o with
    | none => rfl
    | some q =>
      show some (q, (newsAt c g).minute) = some (q, minAt c g)
      rw [e3]
theorem worst_law {c : Chase} (hs : Srt c) : bestT (choices c c.ways c.start 0 c.mays) = match c.worst with
    | none => none
    | some n => (choices c c.ways c.start 0 c.mays).find? fun x => x.1 == n := by
  rw [best_find (choices_up c _ _ 0 _ (Nat.zero_le _)), choices_value hs _ _ 0 _ (Nat.zero_le _)]
  show (c.worst).bind _ = _
  cases c.worst <;> rfl
/-- the program's answer to worst, by the best triple -/
theorem worst_said {c : Chase} (hs : Srt c) : (match bestT (choices c c.ways c.start 0 c.mays) with
      | none => (c.worst = none)
      | some x => c.worst = some x.1 ∧ c.firstFrom c.ways x.1 c.news = some (x.2.2, minAt c x.2.1) ∧ x.2.1 ≤ c.news.length) := by
  have h := worst_law hs
  have f := fun n => first_law c c.ways n c.news.length 0 (by omega)
  cases e : c.worst with
  | none =>
    rw [e] at h
    rw [h]
  | some n =>
    rw [e] at h
    have h : bestT (choices c c.ways c.start 0 c.mays) = (choices c c.ways c.start 0 c.mays).find? fun x => x.1 == n := h
    have hv := choices_value hs c.ways c.start 0 c.mays (Nat.zero_le _)
    have hv : least ((choices c c.ways c.start 0 c.mays).map (·.1)) = c.worst := hv
    rw [e] at hv
    have hm := (low_least _).1 n hv
    obtain ⟨x, hx, ex⟩ := List.mem_map.mp hm
    cases e2 : (choices c c.ways c.start 0 c.mays).find? fun x => x.1 == n with
    | none =>
      have := List.find?_eq_none.mp e2 x hx
      simp [ex] at this
    | some y =>
      rw [h, e2]
      have ey : y.1 = n := by
        have := List.find?_some e2
        simpa using this
      refine ⟨by rw [ey], ?_, ?_⟩
      · have q := f n
        rw [List.drop_zero] at q
        rw [ey, q]
        have e2' : (newsCh c c.ways c.start 0 0 c.mays ++ lastCh c c.ways c.start 0 c.mays).find? (fun x => x.1 == n) = some y := e2
        rw [e2']
        rfl
      · have hy := List.mem_of_find?_eq_some e2
        rcases List.mem_append.mp hy with hy | hy
        · have := ((newsCh_up c c.ways c.start (sinceOf c 0) c.mays c.news.length 0 (by omega)).2 y hy).2
          omega
        · have := row_i hy
          omega

/-! ### unknown, known -/
theorem ways_same {c d : Chase} (h1 : c.places = d.places) (h2 : c.roads = d.roads) : c.ways = d.ways := by
  have e : ∀ l, c.farther l = d.farther l := fun l => by
    unfold Chase.farther Chase.road
    rw [h1, h2]
  have e2 : ∀ n l, c.spread n l = d.spread n l := fun n => by
    induction n with
    | zero => exact fun l => rfl
    | succ n ih =>
      intro l
      show c.spread n (c.farther l) = d.spread n (d.farther l)
      rw [e, ih]
  unfold Chase.ways
  rw [h1]
  congr 1
  funext a
  unfold Chase.from_
  rw [e2, h1]
theorem value_same {c d : Chase} (h1 : c.places = d.places) (h2 : c.landing = d.landing) (w : Tb) : ∀ (l : List News) (t p : Nat) (s : List Nat), c.value w l t p s = d.value w l t p s
  | [], t, p, s => by
    unfold Chase.value
    rw [h1, h2]
  | x :: l, t, p, s => by
    unfold Chase.value
    simp only [h1, value_same h1 h2 w l]
theorem unknown_law (c : Chase) : c.silent.worst = least ((lastCh c c.ways c.start 0 c.mays).map (·.1)) := by
  rw [value_last c _ _ _ _ (Nat.zero_le _)]
  show c.silent.value c.silent.ways [] 0 c.start c.silent.mays = _
  rw [ways_same (c := c.silent) (d := c) rfl rfl, value_same (c := c.silent) (d := c) rfl rfl]
  rfl
theorem worst_each : ∀ {l : List (Option Nat)} {u : Nat}, worstOf l = some u → ∀ o ∈ l, ∃ k, o = some k ∧ k ≤ u
  | [], _, _ => fun o ho => by simp at ho
  | none :: l, _, h => by cases h
  | some n :: l, u, h => by
    have h : (worstOf l).map (fun m => max n m) = some u := h
    simp only [Option.map_eq_some_iff] at h
    obtain ⟨m, hm, e⟩ := h
    intro o ho
    rcases List.mem_cons.mp ho with rfl | ho
    · exact ⟨n, rfl, by omega⟩
    · obtain ⟨k, ek, l⟩ := worst_each hm o ho
      exact ⟨k, ek, by omega⟩
theorem worst_below {u : Nat} : ∀ {l : List (Option Nat)}, (∀ o ∈ l, ∃ k, o = some k ∧ k ≤ u) → ∃ m, worstOf l = some m ∧ m ≤ u
  | [], _ => ⟨0, rfl, Nat.zero_le _⟩
  | o :: l, h => by
    obtain ⟨k, rfl, hk⟩ := h o List.mem_cons_self
    obtain ⟨m, hm, l2⟩ := worst_below fun o ho => h o (List.mem_cons_of_mem _ ho)
    refine ⟨max k m, ?_, by omega⟩
    show (worstOf l).map (fun m => max k m) = _
    rw [hm]
    rfl
theorem eraseDups_nodup : ∀ {l : List Nat}, l.Nodup → l.eraseDups = l
  | [], _ => rfl
  | a :: l, h => by
    obtain ⟨h1, h2⟩ := List.nodup_cons.mp h
    rw [List.eraseDups_cons]
    have e : l.filter (fun b => !b == a) = l := List.filter_eq_self.mpr fun b hb => by
      have : b ≠ a := fun e => h1 (by rw [← e]; exact hb)
      simpa using this
    rw [e, eraseDups_nodup h2]
theorem mays_nodup (c : Chase) : c.mays.Nodup := List.Pairwise.filter _ List.nodup_range
theorem mays_lt {c : Chase} {v : Nat} (h : v ∈ c.mays) : v < c.places := List.mem_range.mp (List.mem_filter.mp h).1
theorem split_own {n : Nat} {s : List Nat} (h1 : s.Nodup) (h2 : ∀ v ∈ s, v < n) : split (List.range n) s = s.map fun v => [v] := by
  have g : ∀ v ∈ s, (List.range n).getD v 0 = v := fun v hv => getD_of (by rw [List.getElem?_range (h2 v hv)])
  unfold split
  have e1 : (s.map fun v => (List.range n).getD v 0) = s := by
    rw [List.map_congr_left (g := id) g, List.map_id]
  rw [e1, eraseDups_nodup h1]
  refine List.map_congr_left fun k hk => ?_
  have e2 : (s.filter fun v => (List.range n).getD v 0 == k) = s.filter fun v => v == k := List.filter_congr fun v hv => by rw [g v hv]
  rw [e2]
  have key : ∀ {l : List Nat}, l.Nodup → k ∈ l → (l.filter fun v => v == k) = [k] := fun {l} => by
    induction l with
    | nil => intro _ h; simp at h
    | cons a l ih =>
      intro hn hk
      obtain ⟨n1, n2⟩ := List.nodup_cons.mp hn
      by_cases e : a = k
      · subst e
        have : (l.filter fun v => v == a) = [] := List.filter_eq_nil_iff.mpr fun b hb q => n1 (by
          have z : b = a := by simpa using q
          rw [← z]
          exact hb)
        rw [List.filter_cons_of_pos (by simp), this]
      · rw [List.filter_cons_of_neg (by simpa using e)]
        rcases List.mem_cons.mp hk with h | h
        · exact (e h.symm).elim
        · exact ih n2 h
  exact key h1 hk
theorem bestOf_mem {l : List (Option Nat)} : Low (bestOf l) (fun m => some m ∈ l) := by
  unfold bestOf
  refine (low_least _).dom (fun m h => ?_) fun m h => ⟨m, ?_, Nat.le_refl _⟩
  · obtain ⟨o, ho, e⟩ := List.mem_filterMap.mp h
    rw [← e]
    exact ho
  · exact List.mem_filterMap.mpr ⟨some m, h, rfl⟩
theorem known_law {c : Chase} (hr : Rds c.places c.roads) (hst : c.start < c.places) :
    c.open_.worst = worstOf (c.mays.map fun v => least ((lastCh c c.ways c.start 0 [v]).map (·.1))) := by
  have e1 : (c.mays.map fun v => least ((lastCh c c.ways c.start 0 [v]).map (·.1))) = c.mays.map fun v => c.value c.ways [] 0 c.start [v] :=
    List.map_congr_left fun v _ => value_last c _ _ _ _ (Nat.zero_le _)
  rw [e1]
  show c.open_.value c.open_.ways [⟨0, List.range c.places⟩] 0 c.start c.open_.mays = _
  rw [ways_same (c := c.open_) (d := c) rfl rfl, value_same (c := c.open_) (d := c) rfl rfl]
  show c.value c.ways [⟨0, List.range c.places⟩] 0 c.start c.mays = _
  have hz := fun {q : Nat} (hq : q < c.places) => ways_zero hr hst hq
  generalize hw : c.ways = w at *
  have e2 : ∀ _q : Nat, split (List.range c.places) c.mays = c.mays.map fun v => [v] := fun _ => split_own (mays_nodup c) fun v hv => mays_lt hv
  generalize hW : worstOf (c.mays.map fun v => c.value w [] 0 c.start [v]) = W
  have low : Low (c.value w [⟨0, List.range c.places⟩] 0 c.start c.mays) (fun m => c.value w [] 0 c.start c.mays = some m ∨ W = some m) := by
    have e3 : c.value w [⟨0, List.range c.places⟩] 0 c.start c.mays = bestOf (c.value w [] 0 c.start c.mays :: (List.range c.places).map fun q => match far w c.start q with
      | none => none
      | some n => if n ≤ 0 - 0 then worstOf ((split (List.range c.places) c.mays).map fun u => c.value w [] 0 q u) else none) := rfl
    rw [e3]
    refine bestOf_mem.dom (fun m h => ?_) fun m h => ⟨m, ?_, Nat.le_refl _⟩
    · rcases List.mem_cons.mp h with h | h
      · exact .inl h.symm
      · obtain ⟨q, hq, e⟩ := List.mem_map.mp h
        have hq' := List.mem_range.mp hq
        cases e4 : far w c.start q with
        | none => rw [e4] at e; cases e
        | some k =>
          rw [e4] at e
          have e : (if k ≤ 0 - 0 then worstOf ((split (List.range c.places) c.mays).map fun u => c.value w [] 0 q u) else none) = some m := e
          by_cases ck : k ≤ 0 - 0
          · rw [if_pos ck] at e
            have k0 : k = 0 := by omega
            subst k0
            have eq := (hz hq').mp e4
            subst eq
            rw [e2 0, List.map_map] at e
            refine .inr ?_
            rw [← hW]
            exact e
          · rw [if_neg ck] at e
            cases e
    · rcases h with h | h
      · rw [h]
        exact List.mem_cons_self
      · refine List.mem_cons_of_mem _ (List.mem_map.mpr ⟨c.start, List.mem_range.mpr hst, ?_⟩)
        have e4 := (hz hst).mpr rfl
        rw [e4]
        show (if 0 ≤ 0 - 0 then worstOf ((split (List.range c.places) c.mays).map fun u => c.value w [] 0 c.start u) else none) = some m
        rw [if_pos (Nat.le_refl 0), e2 0, List.map_map]
        rw [← hW] at h
        exact h
  have dom : Low W (fun m => c.value w [] 0 c.start c.mays = some m ∨ W = some m) := by
    refine ⟨fun m e => .inr e, fun m h => ?_⟩
    rcases h with h | h
    · have e3 : c.value w [] 0 c.start c.mays = bestOf ((List.range c.places).map fun q => match far w c.start q with
          | none => none
          | some n => if n ≤ c.landing - 0 then worstOf (c.mays.map fun v => far w q v) else none) := rfl
      rw [e3] at h
      have hm := bestOf_mem.1 m h
      obtain ⟨q, hq, e⟩ := List.mem_map.mp hm
      cases e4 : far w c.start q with
      | none => rw [e4] at e; cases e
      | some k =>
        rw [e4] at e
        have e : (if k ≤ c.landing - 0 then worstOf (c.mays.map fun v => far w q v) else none) = some m := e
        by_cases ck : k ≤ c.landing - 0
        · rw [if_pos ck] at e
          have each := worst_each e
          obtain ⟨u, hu, l⟩ := worst_below (u := m) (l := c.mays.map fun v => c.value w [] 0 c.start [v]) fun o ho => by
            obtain ⟨v, hv, e5⟩ := List.mem_map.mp ho
            obtain ⟨x, ex, lx⟩ := each _ (List.mem_map.mpr ⟨v, hv, rfl⟩)
            have e6 : c.value w [] 0 c.start [v] = bestOf ((List.range c.places).map fun q => match far w c.start q with
              | none => none
              | some n => if n ≤ c.landing - 0 then worstOf ([v].map fun v => far w q v) else none) := rfl
            have hx : some x ∈ ((List.range c.places).map fun q => match far w c.start q with
              | none => none
              | some n => if n ≤ c.landing - 0 then worstOf ([v].map fun v => far w q v) else none) := by
              refine List.mem_map.mpr ⟨q, hq, ?_⟩
              rw [e4]
              show (if k ≤ c.landing - 0 then worstOf ([v].map fun v => far w q v) else none) = some x
              rw [if_pos ck, List.map_cons, ex]
              show some (max x 0) = some x
              rw [Nat.max_eq_left (Nat.zero_le _)]
            obtain ⟨y, ey, ly⟩ := bestOf_mem.2 x hx
            exact ⟨y, by rw [← e5, e6, ey], by omega⟩
          rw [hW] at hu
          exact ⟨u, hu, l⟩
        · rw [if_neg ck] at e
          cases e
    · exact ⟨m, h, Nat.le_refl _⟩
  exact low.uniq dom
end RB
end
section
set_option autoImplicit false
namespace RB
open Si94

/-! ### small laws -/
theorem least_is {l : List Nat} {m : Nat} (h : m ∈ l) (hl : ∀ x ∈ l, m ≤ x) : least l = some m :=
  (low_least l).uniq ⟨fun k e => by rw [← Option.some.inj e]; exact h, fun k hk => ⟨m, rfl, hl k hk⟩⟩
theorem worst_none : ∀ {l : List (Option Nat)}, none ∈ l → worstOf l = none
  | [], h => by simp at h
  | none :: l, _ => rfl
  | some n :: l, h => by
    have h : none ∈ l := by simpa using h
    show (worstOf l).map _ = none
    rw [worst_none h]
    rfl
theorem worst_is {l : List (Option Nat)} {m : Nat} (h : some m ∈ l) (hl : ∀ o ∈ l, ∃ k, o = some k ∧ k ≤ m) : worstOf l = some m := by
  obtain ⟨u, hu, l1⟩ := worst_below hl
  obtain ⟨k, ek, l2⟩ := worst_each hu _ h
  have := Option.some.inj ek
  rw [hu]
  congr 1
  omega
theorem all_some : ∀ {l : List (Option Nat)}, none ∉ l → ∃ xs : List Nat, l = xs.map some
  | [], _ => ⟨[], rfl⟩
  | none :: l, h => by simp at h
  | some n :: l, h => by
    obtain ⟨xs, e⟩ := all_some (l := l) fun q => h (List.mem_cons_of_mem _ q)
    exact ⟨n :: xs, by rw [e]; rfl⟩

/-! ### what is kept of a chase -/
structure Good (c : Chase) : Prop where
  p1 : 1 ≤ c.places
  p6 : c.places ≤ 6
  st : c.start < c.places
  la : c.landing ≤ 1000
  rd : Rds c.places c.roads
  rm : ∀ r ∈ c.roads, r.2.2 ≤ 1000
  rl : c.roads.length ≤ 12
  m1 : 1 ≤ c.may
  m2 : c.may < 2 ^ c.places
  nl : c.news.length ≤ 3
  srt : Srt c
  np : ∀ x ∈ c.news, x.parts.length = c.places
theorem good_new {n s t : Nat} (h1 : 1 ≤ n) (h6 : n ≤ 6) (hs : s < n) (ht : t ≤ 1000) : Good ⟨n, s, t, [], 2 ^ n - 1, []⟩ where
  p1 := h1
  p6 := h6
  st := hs
  la := ht
  rd := fun r hr => by simp at hr
  rm := fun r hr => by simp at hr
  rl := Nat.zero_le _
  m1 := by
    show 1 ≤ 2 ^ n - 1
    have : 2 ^ 1 ≤ 2 ^ n := Nat.pow_le_pow_right (by decide) h1
    omega
  m2 := by
    show 2 ^ n - 1 < 2 ^ n
    have : 0 < 2 ^ n := Nat.two_pow_pos n
    omega
  nl := Nat.zero_le _
  srt := ⟨fun i j _ h => absurd h (Nat.not_lt_zero _), fun j h => absurd h (Nat.not_lt_zero _)⟩
  np := fun x hx => by simp at hx
theorem good_init : Good Si94.init := good_new (n := 1) (s := 0) (t := 0) (by decide) (by decide) (by decide) (by decide)
theorem newsAt_push {c : Chase} {x : News} {i : Nat} : newsAt { c with news := c.news ++ [x] } i = if i < c.news.length then newsAt c i else if i = c.news.length then x else ⟨0, []⟩ := by
  unfold newsAt
  show (c.news ++ [x]).getD i ⟨0, []⟩ = _
  by_cases h : i < c.news.length
  · rw [if_pos h]
    have e : (c.news ++ [x])[i]? = c.news[i]? := List.getElem?_append_left h
    show ((c.news ++ [x])[i]?).getD ⟨0, []⟩ = (c.news[i]?).getD ⟨0, []⟩
    rw [e]
  · rw [if_neg h]
    by_cases h2 : i = c.news.length
    · rw [if_pos h2]
      subst h2
      exact getD_of (by simp)
    · rw [if_neg h2]
      have e : (c.news ++ [x])[i]? = none := List.getElem?_eq_none_iff.mpr (by simp; omega)
      rw [List.getD, e]
      rfl
theorem last_minute (c : Chase) : c.lastNews = if c.news.length = 0 then 0 else (newsAt c (c.news.length - 1)).minute := by
  unfold Chase.lastNews newsAt
  rw [List.getLast?_eq_getElem?]
  by_cases h : c.news.length = 0
  · rw [if_pos h, List.getElem?_eq_none_iff.mpr (by omega)]
    rfl
  · rw [if_neg h, getD_at ⟨0, []⟩ (by omega)]
    rfl
theorem good_step {c : Chase} (g : Good c) (q : Call) : Good (Si94.step c q).1 := by
  cases q with
  | begins n s t =>
    show Good (if n < 1 ∨ PLACES < n ∨ n ≤ s ∨ LONG < t then (c, ok (-1)) else ((⟨n, s, t, [], 2 ^ n - 1, []⟩ : Chase), ok 0)).1
    by_cases h : n < 1 ∨ PLACES < n ∨ n ≤ s ∨ LONG < t
    · rw [if_pos h]
      exact g
    · rw [if_neg h]
      unfold PLACES LONG at h
      exact good_new (by omega) (by omega) (by omega) (by omega)
  | road a b n =>
    show Good (if c.places ≤ a ∨ c.places ≤ b then (c, ok (-2)) else if a = b then (c, ok (-4)) else if n < 1 ∨ LONG < n then (c, ok (-1)) else if ROADS ≤ c.roads.length then (c, ok (-5)) else ({ c with roads := c.roads ++ [(a, b, n)] }, ok ((c.roads.length : Nat) + 1))).1
    by_cases h1 : c.places ≤ a ∨ c.places ≤ b
    · rw [if_pos h1]
      exact g
    rw [if_neg h1]
    by_cases h2 : a = b
    · rw [if_pos h2]
      exact g
    rw [if_neg h2]
    by_cases h3 : n < 1 ∨ LONG < n
    · rw [if_pos h3]
      exact g
    rw [if_neg h3]
    by_cases h4 : ROADS ≤ c.roads.length
    · rw [if_pos h4]
      exact g
    rw [if_neg h4]
    unfold LONG at h3
    unfold ROADS at h4
    refine ⟨g.p1, g.p6, g.st, g.la, fun r hr => ?_, fun r hr => ?_, ?_, g.m1, g.m2, g.nl, g.srt, g.np⟩
    · rcases List.mem_append.mp hr with hr | hr
      · exact g.rd r hr
      · have := List.mem_singleton.mp hr
        subst this
        exact ⟨by show a < c.places; omega, by show b < c.places; omega, h2, by show 1 ≤ n; omega⟩
    · rcases List.mem_append.mp hr with hr | hr
      · exact g.rm r hr
      · have := List.mem_singleton.mp hr
        subst this
        show n ≤ 1000
        omega
    · show (c.roads ++ [(a, b, n)]).length ≤ 12
      rw [List.length_append, List.length_singleton]
      omega
  | may s =>
    show Good (if s < 1 ∨ 2 ^ c.places ≤ s then (c, ok (-1)) else ({ c with may := s }, ok 0)).1
    by_cases h : s < 1 ∨ 2 ^ c.places ≤ s
    · rw [if_pos h]
      exact g
    rw [if_neg h]
    exact ⟨g.p1, g.p6, g.st, g.la, g.rd, g.rm, g.rl, by show 1 ≤ s; omega, by show s < 2 ^ c.places; omega, g.nl, g.srt, g.np⟩
  | news m p =>
    show Good (if p.length ≠ c.places ∨ m < c.lastNews ∨ c.landing < m then (c, ok (-1)) else if NEWS ≤ c.news.length then (c, ok (-5)) else ({ c with news := c.news ++ [⟨m, p⟩] }, ok ((c.news.length : Nat) + 1))).1
    by_cases h1 : p.length ≠ c.places ∨ m < c.lastNews ∨ c.landing < m
    · rw [if_pos h1]
      exact g
    rw [if_neg h1]
    by_cases h2 : NEWS ≤ c.news.length
    · rw [if_pos h2]
      exact g
    rw [if_neg h2]
    unfold NEWS at h2
    rw [last_minute] at h1
    have hl : (c.news ++ [(⟨m, p⟩ : News)]).length = c.news.length + 1 := by simp
    refine ⟨g.p1, g.p6, g.st, g.la, g.rd, g.rm, g.rl, g.m1, g.m2, ?_, ⟨fun i j hij hj => ?_, fun j hj => ?_⟩, fun x hx => ?_⟩
    · show (c.news ++ [(⟨m, p⟩ : News)]).length ≤ 3
      omega
    · have hj : j < (c.news ++ [(⟨m, p⟩ : News)]).length := hj
      rw [hl] at hj
      show (newsAt { c with news := c.news ++ [⟨m, p⟩] } i).minute ≤ (newsAt { c with news := c.news ++ [⟨m, p⟩] } j).minute
      rw [newsAt_push, newsAt_push]
      by_cases j1 : j < c.news.length
      · rw [if_pos j1, if_pos (by omega)]
        exact g.srt.1 i j hij j1
      · have ej : j = c.news.length := by omega
        rw [if_neg j1, if_pos ej]
        by_cases i1 : i < c.news.length
        · rw [if_pos i1]
          have := g.srt.1 i (c.news.length - 1) (by omega) (by omega)
          rw [if_neg (by omega)] at h1
          show (newsAt c i).minute ≤ m
          omega
        · rw [if_neg i1, if_pos (by omega)]
          exact Nat.le_refl _
    · have hj : j < (c.news ++ [(⟨m, p⟩ : News)]).length := hj
      rw [hl] at hj
      show (newsAt { c with news := c.news ++ [⟨m, p⟩] } j).minute ≤ c.landing
      rw [newsAt_push]
      by_cases j1 : j < c.news.length
      · rw [if_pos j1]
        exact g.srt.2 j j1
      · rw [if_neg j1, if_pos (by omega)]
        show m ≤ c.landing
        omega
    · rcases List.mem_append.mp hx with hx | hx
      · exact g.np x hx
      · have := List.mem_singleton.mp hx
        subst this
        show p.length = c.places
        omega
  | far a b =>
    show Good (if c.places ≤ a ∨ c.places ≤ b then (c, ok (-2)) else (c, toldOf (Si94.far c.ways a b))).1
    by_cases h : c.places ≤ a ∨ c.places ≤ b
    · rw [if_pos h]
      exact g
    · rw [if_neg h]
      exact g
  | worst => exact g
  | unknown => exact g
  | known => exact g
theorem mays_ne {c : Chase} (g : Good c) : c.mays ≠ [] := fun e => by
  have h : ∀ i, c.may.testBit i = (0 : Nat).testBit i := fun i => by
    rw [Nat.zero_testBit]
    by_cases hi : i < c.places
    · cases hb : c.may.testBit i with
      | false => rfl
      | true =>
        have : i ∈ c.mays := List.mem_filter.mpr ⟨List.mem_range.mpr hi, hb⟩
        rw [e] at this
        simp at this
    · exact Nat.testBit_lt_two_pow (Nat.lt_of_lt_of_le g.m2 (Nat.pow_le_pow_right (by decide) (by omega)))
  have := Nat.eq_of_testBit_eq h
  have := g.m1
  omega
/-- the places of a set, bit by bit -/
theorem mays_upto {c : Chase} {k : Nat} (h1 : c.may < 2 ^ k) (h2 : k ≤ c.places) : (List.range k).filter (fun v => c.may.testBit v) = c.mays := by
  obtain ⟨d, e⟩ := Nat.le.dest h2
  unfold Chase.mays
  rw [← e, List.range_add, List.filter_append]
  have : (List.map (fun x => k + x) (List.range d)).filter (fun v => c.may.testBit v) = [] := List.filter_eq_nil_iff.mpr fun v hv => by
    obtain ⟨x, _, rfl⟩ := List.mem_map.mp hv
    rw [Nat.testBit_lt_two_pow (Nat.lt_of_lt_of_le h1 (Nat.pow_le_pow_right (by decide) (Nat.le_add_right k x)))]
    exact Bool.false_ne_true
  rw [this, List.append_nil]
theorem mays_new (n s t : Nat) : (⟨n, s, t, [], 2 ^ n - 1, []⟩ : Chase).mays = List.range n := by
  show (List.range n).filter (fun v => (2 ^ n - 1).testBit v) = List.range n
  refine List.filter_eq_self.mpr fun v hv => ?_
  rw [Nat.testBit_two_pow_sub_one]
  exact decide_eq_true (List.mem_range.mp hv)

/-! ### groups -/
theorem eraseDups_snoc (l : List Nat) (x : Nat) : (l ++ [x]).eraseDups = if x ∈ l then l.eraseDups else l.eraseDups ++ [x] := by
  rw [List.eraseDups_append]
  by_cases h : x ∈ l
  · rw [if_pos h]
    have : [x].removeAll l = [] := by simp [List.removeAll, h]
    rw [this]
    simp
  · rw [if_neg h]
    have : [x].removeAll l = [x] := by simp [List.removeAll, h]
    rw [this]
    rfl
theorem split_mem {p s : List Nat} {u : List Nat} (h : u ∈ split p s) : u.Sublist s ∧ u ≠ [] := by
  unfold split at h
  obtain ⟨k, hk, rfl⟩ := List.mem_map.mp h
  refine ⟨List.filter_sublist, fun e => ?_⟩
  have hk' : k ∈ s.map fun v => p.getD v 0 := by
    have := List.mem_eraseDups.mp hk
    exact this
  obtain ⟨v, hv, ev⟩ := List.mem_map.mp hk'
  have : v ∈ s.filter fun v => p.getD v 0 == k := List.mem_filter.mpr ⟨hv, by simpa using ev⟩
  rw [e] at this
  simp at this
theorem split_len (p s : List Nat) : (split p s).length ≤ s.length := by
  unfold split
  rw [List.length_map]
  have : ∀ l : List Nat, l.eraseDups.length ≤ l.length := fun l => by
    generalize e : l.length = n
    induction n using Nat.strongRecOn generalizing l with
    | ind n ih =>
      cases l with
      | nil => simp at e; subst e; simp
      | cons a l =>
        rw [List.eraseDups_cons, List.length_cons]
        have h1 : (l.filter fun b => !b == a).length ≤ l.length := List.length_filter_le _ _
        rw [List.length_cons] at e
        have := ih _ (by omega) (l.filter fun b => !b == a) rfl
        omega
  have := this (s.map fun v => p.getD v 0)
  rw [List.length_map] at this
  exact this
theorem split_ne {p s : List Nat} (h : s ≠ []) : split p s ≠ [] := by
  cases s with
  | nil => exact (h rfl).elim
  | cons a s =>
    unfold split
    rw [List.map_cons, List.eraseDups_cons]
    simp

/-! ### the list's calls -/
/-- a call, laid flat -/
def encC (c : List (List Int)) : List Int := (c.headD []).headD 0 :: ((c.headD []).tail.length : Int) :: ((c.headD []).tail ++ [0])
theorem form_rows {p : Int} {a : List (Int × Int)} {m : Nat × Nat × Int × Int} {r : List (Int × Int × Nat × Nat)} {k n1 n2 l1 l2 : Nat} {llo lhi : Int} (h : PySi94.form p = some (a, m, r, (k, n1, n2, llo, lhi, l1, l2))) : r = [] ∧ k = 0 ∧ n2 = 0 := by
  unfold PySi94.form at h
  repeat' split at h
  all_goals first
    | (cases h; exact ⟨rfl, rfl, rfl⟩)
    | cases h
theorem fits_one {p : Int} {ns : List Int} {rows : List (List Int)} (h : PySi94.fits ((p :: ns) :: rows) = true) : rows = [] := by
  unfold PySi94.fits at h
  cases e : PySi94.form p with
  | none => simp [e] at h
  | some f =>
    obtain ⟨a, ⟨m1, m2, lo, hi⟩, r, ⟨k, n1, n2, llo, lhi, l1, l2⟩⟩ := f
    obtain ⟨rfl, rfl, rfl⟩ := form_rows e
    simp only [e, List.length_nil, Nat.sub_zero, List.drop_zero, Bool.and_eq_true, decide_eq_true_eq] at h
    have h3 : (List.take rows.length rows).length ≤ 0 := h.1.1.2
    rw [List.take_length] at h3
    exact List.eq_nil_of_length_eq_zero (by omega)
theorem row_inv {l x s : List Int} (h : PyFlat.row l = some (x, s)) : l = (x.length : Int) :: (x ++ s) := by
  cases l with
  | nil => cases h
  | cons n r =>
    have h : (if 0 ≤ n ∧ n.toNat ≤ r.length then some (r.take n.toNat, r.drop n.toNat) else none) = some (x, s) := h
    by_cases k : 0 ≤ n ∧ n.toNat ≤ r.length
    · rw [if_pos k] at h
      obtain ⟨e1, e2⟩ := Prod.mk.inj (Option.some.inj h)
      have len : (r.take n.toNat).length = n.toNat := by
        rw [List.length_take]
        omega
      rw [← e1, ← e2, List.take_append_drop, len]
      congr
      omega
    · rw [if_neg k] at h
      cases h
theorem rows_nil {k : Nat} {l : List Int} {s : List Int} (h : PyFlat.rows k l = some ([], s)) : k = 0 ∧ s = l := by
  cases k with
  | zero =>
    have h : some (([] : List (List Int)), l) = some ([], s) := h
    exact ⟨rfl, (Prod.mk.inj (Option.some.inj h)).2.symm⟩
  | succ k =>
    have h : (match PyFlat.row l with
      | none => none
      | some (x, s) => match PyFlat.rows k s with
        | none => none
        | some (xs, t) => some (x :: xs, t)) = some (([] : List (List Int)), s) := h
    cases e : PyFlat.row l with
    | none => rw [e] at h; cases h
    | some q =>
      obtain ⟨x, s'⟩ := q
      rw [e] at h
      have h : (match PyFlat.rows k s' with
        | none => none
        | some (xs, t) => some (x :: xs, t)) = some (([] : List (List Int)), s) := h
      cases e2 : PyFlat.rows k s' with
      | none => rw [e2] at h; cases h
      | some q => rw [e2] at h; cases h
theorem call_inv {l : List Int} {c : List (List Int)} {t : List Int} (h : PyWide.call l = some (c, t)) (hf : PySi94.fits c = true) : l = encC c ++ t ∧ ∃ p ns, c = [p :: ns] := by
  cases l with
  | nil => cases h
  | cons p r =>
    have h : (match PyFlat.row r with
      | none => none
      | some (_, []) => none
      | some (ns, k :: t) => if 0 ≤ k then (match PyFlat.rows k.toNat t with
        | none => none
        | some (xs, u) => some ((p :: ns) :: xs, u)) else none) = some (c, t) := h
    cases e : PyFlat.row r with
    | none => rw [e] at h; cases h
    | some q =>
      obtain ⟨ns, s⟩ := q
      rw [e] at h
      cases s with
      | nil => cases h
      | cons k s =>
        have h : (if 0 ≤ k then (match PyFlat.rows k.toNat s with
          | none => none
          | some (xs, u) => some ((p :: ns) :: xs, u)) else none) = some (c, t) := h
        by_cases hk : 0 ≤ k
        · rw [if_pos hk] at h
          cases e2 : PyFlat.rows k.toNat s with
          | none => rw [e2] at h; cases h
          | some q =>
            obtain ⟨xs, u⟩ := q
            rw [e2] at h
            obtain ⟨e3, e4⟩ := Prod.mk.inj (Option.some.inj h)
            subst e3
            subst e4
            have hx := fits_one hf
            subst hx
            obtain ⟨k0, e5⟩ := rows_nil e2
            have k0' : k = 0 := by omega
            subst k0'
            subst e5
            refine ⟨?_, p, ns, rfl⟩
            rw [row_inv e]
            show p :: (ns.length : Int) :: (ns ++ 0 :: u) = (p :: (ns.length : Int) :: (ns ++ [0])) ++ u
            simp
        · rw [if_neg hk] at h
          cases h
theorem calls_inv : ∀ {f : Nat} {l : List Int} {cs : List (List (List Int))}, PyWide.calls f l = some cs → (∀ c ∈ cs, PySi94.fits c = true) → l = cs.flatMap encC ∧ ∀ c ∈ cs, ∃ p ns, c = [p :: ns]
  | f, [], cs, h, _ => by
    have h : some ([] : List (List (List Int))) = some cs := by cases f <;> exact h
    cases h
    exact ⟨rfl, fun c hc => by simp at hc⟩
  | 0, _ :: _, cs, h, _ => by cases h
  | f + 1, p :: r, cs, h, hf => by
    have h : (match PyWide.call (p :: r) with
      | none => none
      | some (c, t) => match PyWide.calls f t with
        | none => none
        | some cs => some (c :: cs)) = some cs := h
    cases e : PyWide.call (p :: r) with
    | none => rw [e] at h; cases h
    | some q =>
      obtain ⟨c, t⟩ := q
      rw [e] at h
      have h : (match PyWide.calls f t with
        | none => none
        | some cs => some (c :: cs)) = some cs := h
      cases e2 : PyWide.calls f t with
      | none => rw [e2] at h; cases h
      | some ds =>
        rw [e2] at h
        have h := Option.some.inj h
        subst h
        obtain ⟨i1, i2⟩ := call_inv e (hf c List.mem_cons_self)
        obtain ⟨j1, j2⟩ := calls_inv e2 fun d hd => hf d (List.mem_cons_of_mem _ hd)
        refine ⟨by rw [i1, List.flatMap_cons, ← j1], fun d hd => ?_⟩
        rcases List.mem_cons.mp hd with rfl | hd
        · exact i2
        · exact j2 d hd
/-- a call, as the machine takes it -/
structure Call1 (c : List (List Int)) (p : Int) (ns : List Int) (q : Call) : Prop where
  eq : c = [p :: ns]
  is : Si94Neutral.callOf (p :: ns) = some q
  nn : ∀ x ∈ p :: ns, 0 ≤ x ∧ x < 4294967296
theorem asked_inv {l : List Int} (h : PySi94.answers_asked l = true) : ∃ cs, l = cs.flatMap encC ∧ cs.length ≤ 60 ∧ (∀ c ∈ cs, ∃ p ns q, Call1 c p ns q) ∧ PySi94.answers l = PyFlat.told (PyFlat.played Si94Neutral.step Si94Neutral.start cs) := by
  unfold PySi94.answers_asked at h
  cases e : PySi94.calls l with
  | none => rw [e] at h; cases h
  | some cs =>
    rw [e] at h
    simp only [Bool.and_eq_true, PyFlat.atMost, decide_eq_true_eq, Si94Neutral.asked] at h
    obtain ⟨⟨⟨⟨_, h2⟩, h3⟩, h4⟩, _⟩ := h
    have hf : ∀ c ∈ cs, PySi94.fits c = true := List.all_eq_true.mp h2
    obtain ⟨j1, j2⟩ := calls_inv (show PyWide.calls l.length l = some cs from e) hf
    refine ⟨cs, j1, h3, fun c hc => ?_, ?_⟩
    · obtain ⟨p, ns, rfl⟩ := j2 c hc
      have ha : Si94Neutral.asked1 [p :: ns] = true := List.all_eq_true.mp h4.1 _ hc
      simp only [Si94Neutral.asked1, Bool.and_eq_true, List.headD_cons] at ha
      obtain ⟨_, ha1, ha2⟩ := ha
      obtain ⟨q, hq⟩ := Option.isSome_iff_exists.mp ha2
      refine ⟨p, ns, q, rfl, hq, fun x hx => ?_⟩
      have := List.all_eq_true.mp ha1 x hx
      simp only [Si94Neutral.natural, Bool.and_eq_true, decide_eq_true_eq] at this
      exact this
    · unfold PySi94.answers
      rw [e]
/-- the call's kind and its numbers -/
inductive Kind : Int → List Int → Call → Prop
  | begins (n s t : Nat) : Kind 0 [(n : Int), (s : Int), (t : Int)] (.begins n s t)
  | road (a b n : Nat) : Kind 1 [(a : Int), (b : Int), (n : Int)] (.road a b n)
  | may (s : Nat) : Kind 2 [(s : Int)] (.may s)
  | news (m : Nat) (r : List Nat) (h : r.length ≤ 8) : Kind 3 ((m : Int) :: r.map fun (x : Nat) => (x : Int)) (.news m r)
  | far (a b : Nat) : Kind 4 [(a : Int), (b : Int)] (.far a b)
  | worst : Kind 5 [] .worst
  | unknown : Kind 6 [] .unknown
  | known : Kind 7 [] .known
theorem nat_back {l : List Int} (h : ∀ x ∈ l, 0 ≤ x ∧ x < 4294967296) : l = (l.map Int.toNat).map fun (x : Nat) => (x : Int) := by
  rw [List.map_map]
  have : ∀ x ∈ l, ((fun (x : Nat) => (x : Int)) ∘ Int.toNat) x = id x := fun x hx => by
    have := h x hx
    show ((x.toNat : Nat) : Int) = x
    omega
  rw [List.map_congr_left this, List.map_id]
theorem Call1.kind {c : List (List Int)} {p : Int} {ns : List Int} {q : Call} (h : Call1 c p ns q) : Kind p ns q := by
  have e := nat_back h.nn
  have hq := h.is
  unfold Si94Neutral.callOf at hq
  revert hq e
  generalize (p :: ns).map Int.toNat = xs
  intro e hq
  split at hq
  all_goals first
    | (cases hq
       have e := List.cons.inj e
       obtain ⟨rfl, rfl⟩ := e
       constructor)
    | skip
  · rename_i m r
    by_cases hr : r.length ≤ 8
    · rw [if_pos hr] at hq
      cases hq
      have e := List.cons.inj e
      obtain ⟨rfl, rfl⟩ := e
      exact .news m r hr
    · rw [if_neg hr] at hq
      cases hq
  · cases hq
/-- where the list stands behind some calls -/
theorem enc_at {cs pre rest : List (List (List Int))} {c : List (List Int)} {p : Int} {ns : List Int} (e : cs = pre ++ c :: rest) (hc : c = [p :: ns]) :
    cs.flatMap encC = pre.flatMap encC ++ (p :: (ns.length : Int) :: (ns ++ (0 :: rest.flatMap encC))) := by
  subst e
  subst hc
  rw [List.flatMap_append, List.flatMap_cons]
  show _ ++ ((p :: (ns.length : Int) :: (ns ++ [0])) ++ _) = _
  simp
/-- the state behind some calls -/
def after : List (List (List Int)) → Chase → Chase
  | [], s => s
  | c :: r, s => after r (Si94Neutral.step s c).1
theorem after_snoc (c : List (List Int)) : ∀ (l : List (List (List Int))) (s : Chase), after (l ++ [c]) s = (Si94Neutral.step (after l s) c).1
  | [], _ => rfl
  | d :: l, s => after_snoc c l (Si94Neutral.step s d).1
theorem played_snoc (c : List (List Int)) : ∀ (l : List (List (List Int))) (s : Chase), PyFlat.played Si94Neutral.step s (l ++ [c]) = PyFlat.played Si94Neutral.step s l ++ [(Si94Neutral.step (after l s) c).2]
  | [], _ => rfl
  | d :: l, s => by
    show (Si94Neutral.step s d).2 :: PyFlat.played Si94Neutral.step (Si94Neutral.step s d).1 (l ++ [c]) = _
    rw [played_snoc c l]
    rfl
def heard (l : List (List (List Int))) : List Int := PyFlat.told (PyFlat.played Si94Neutral.step Si94Neutral.start l)
theorem heard_snoc (l : List (List (List Int))) (c : List (List Int)) : heard (l ++ [c]) = heard l ++ ((Si94Neutral.step (after l Si94Neutral.start) c).2.length : Int) :: (Si94Neutral.step (after l Si94Neutral.start) c).2 := by
  unfold heard
  rw [played_snoc]
  unfold PyFlat.told
  rw [List.flatMap_append, List.flatMap_singleton]
theorem step_one {c : List (List Int)} {p : Int} {ns : List Int} {q : Call} (h : Call1 c p ns q) (s : Chase) : Si94Neutral.step s c = ((Si94.step s q).1, (Si94.step s q).2.v :: (Si94.step s q).2.l) := by
  obtain ⟨rfl, h2, _⟩ := h
  unfold Si94Neutral.step
  rw [List.headD_cons, h2]
theorem good_after {cs : List (List (List Int))} (h : ∀ c ∈ cs, ∃ p ns q, Call1 c p ns q) : ∀ (l : List (List (List Int))) (s : Chase), (∀ c ∈ l, c ∈ cs) → Good s → Good (after l s)
  | [], s, _, g => g
  | c :: l, s, hl, g => by
    obtain ⟨p, ns, q, hq⟩ := h c (hl c List.mem_cons_self)
    refine good_after h l _ (fun d hd => hl d (List.mem_cons_of_mem _ hd)) ?_
    rw [step_one hq]
    exact good_step g q
theorem step_len (s : Chase) (q : Call) : (Si94.step s q).2.l.length ≤ 2 := by
  cases q with
  | begins n t u =>
    show (if n < 1 ∨ PLACES < n ∨ n ≤ t ∨ LONG < u then (s, ok (-1)) else ((⟨n, t, u, [], 2 ^ n - 1, []⟩ : Chase), ok 0)).2.l.length ≤ 2
    split <;> exact Nat.zero_le _
  | road a b n =>
    show (if s.places ≤ a ∨ s.places ≤ b then (s, ok (-2)) else if a = b then (s, ok (-4)) else if n < 1 ∨ LONG < n then (s, ok (-1)) else if ROADS ≤ s.roads.length then (s, ok (-5)) else ({ s with roads := s.roads ++ [(a, b, n)] }, ok ((s.roads.length : Nat) + 1))).2.l.length ≤ 2
    repeat' split
    all_goals exact Nat.zero_le _
  | may m =>
    show (if m < 1 ∨ 2 ^ s.places ≤ m then (s, ok (-1)) else ({ s with may := m }, ok 0)).2.l.length ≤ 2
    split <;> exact Nat.zero_le _
  | news m p =>
    show (if p.length ≠ s.places ∨ m < s.lastNews ∨ s.landing < m then (s, ok (-1)) else if NEWS ≤ s.news.length then (s, ok (-5)) else ({ s with news := s.news ++ [⟨m, p⟩] }, ok ((s.news.length : Nat) + 1))).2.l.length ≤ 2
    repeat' split
    all_goals exact Nat.zero_le _
  | far a b =>
    show (if s.places ≤ a ∨ s.places ≤ b then (s, ok (-2)) else (s, toldOf (Si94.far s.ways a b))).2.l.length ≤ 2
    split
    · exact Nat.zero_le _
    · show (toldOf (Si94.far s.ways a b)).l.length ≤ 2
      cases Si94.far s.ways a b <;> exact Nat.zero_le _
  | worst =>
    show (match s.worst with
      | none => ok (-6)
      | some n => (⟨((n : Nat) : Int), Si94.ints (match s.firstFrom s.ways n s.news with
        | none => []
        | some x => [x.1, x.2])⟩ : Ans)).l.length ≤ 2
    cases s.worst with
    | none => exact Nat.zero_le _
    | some n =>
      show (Si94.ints (match s.firstFrom s.ways n s.news with
        | none => []
        | some x => [x.1, x.2])).length ≤ 2
      cases s.firstFrom s.ways n s.news with
      | none => exact Nat.zero_le _
      | some x => exact Nat.le_refl 2
  | unknown =>
    show (toldOf s.silent.worst).l.length ≤ 2
    cases s.silent.worst <;> exact Nat.zero_le _
  | known =>
    show (toldOf s.open_.worst).l.length ≤ 2
    cases s.open_.worst <;> exact Nat.zero_le _
theorem told_len {cs : List (List (List Int))} (h : ∀ c ∈ cs, ∃ p ns q, Call1 c p ns q) : ∀ (l : List (List (List Int))) (s : Chase), (∀ c ∈ l, c ∈ cs) → (PyFlat.told (PyFlat.played Si94Neutral.step s l)).length ≤ 4 * l.length
  | [], _, _ => Nat.zero_le _
  | c :: l, s, hl => by
    obtain ⟨p, ns, q, hq⟩ := h c (hl c List.mem_cons_self)
    have ih := told_len h l (Si94Neutral.step s c).1 fun d hd => hl d (List.mem_cons_of_mem _ hd)
    have e : PyFlat.told (PyFlat.played Si94Neutral.step s (c :: l)) = (((Si94Neutral.step s c).2.length : Int) :: (Si94Neutral.step s c).2) ++ PyFlat.told (PyFlat.played Si94Neutral.step (Si94Neutral.step s c).1 l) := rfl
    have := step_len s q
    rw [e, List.length_append, List.length_cons, List.length_cons]
    rw [step_one hq] at ih ⊢
    rw [List.length_cons]
    omega
theorem heard_len {cs l : List (List (List Int))} (h : ∀ c ∈ cs, ∃ p ns q, Call1 c p ns q) (hl : ∀ c ∈ l, c ∈ cs) : (heard l).length ≤ 4 * l.length := told_len h l _ hl
end RB
end
section
namespace RB
open PySem PySem.Spec PyProof.Rows L2
/-! ### words that the layer lacks -/
/-- o.m(e, ..) within a try: what it raises is wished for at the slots as they stand -/
def tMethS (C : Addr) (m : Str) (sp : Sp) (E : L2.St → XK) (ta : TE) (t : TA) : TE := fun σ H Q => ta σ H fun x H1 => ∃ a dx fs, x = .ref a ∧ H1 a = some (.ins C dx fs) ∧ fs.lookup m = none ∧ t σ H1 fun vs H2 => sp (x :: vs) H2 Q (E σ)
theorem pe_methS {X : Cx} {CX : CXT} {k : Nat} {f C : Addr} {fd : FuncData} {ps : List Str} {sp : Sp} {E : L2.St → XK} {m : Str} {pos apos : Pos} {e o : Expr} {es : List Expr} {ta : TE} {t : TA} {pl : Sem Bool} (he : PE X o ta) (c : Cls X.K C) (hm : Meth X.K C m f)
    (F : FnOk X.prog X.w X.K X.mg X.base CX k f fd ps sp) (hr : Room k X.A) (hb : Binds X.K fd ps []) (hx : ∀ σ, PassesAt CX X σ (E σ)) (ha : PA X (e :: es) t)
    (hst : starEach (e :: es) X.env = (false, eval e X.env) :: starEach es X.env := by rfl) (hpl : (backTo pos (starEach es X.env)).any (·.1) = false := by rfl)
    (ht : eval (.Call (.Attribute o m apos) (e :: es) [] pos) X.env = (do
      let ov ← eval o X.env
      standAt apos.atName
      let (f, first) ← holding [ov] (getMethod ov m pl)
      callWith pos f first (backTo pos (starEach (e :: es) X.env)) (backToKw pos (keywordEach [] X.env))) := by rfl) :
    PE X (.Call (.Attribute o m apos) (e :: es) [] pos) (tMethS C m sp E ta t) := by
  refine ⟨fun pins s σ H Q I h => ?_⟩
  refine PySem.W.methodCall_KW (pl := pl) (thn (he.run pins s σ H _ I h) fun u s1 ⟨x, H1, I1, rx, a, dx, fs, ex, ea, l, q⟩ => ?_) ht
  subst ex
  obtain rfl : u = Value.ref a := rx
  refine getmeth_ok I1 ea c hm l ?_
  refine PySem.W.callWith_K (first := [.ref a]) (h₀ := X.base) I.ok.mod.kin hm.kp (thn (ha.run pos pins s1 σ H1 _ I1 q) fun us s2 ⟨vs, H2, I2, r, q2⟩ => ⟨I2.kIn, ?_⟩) hst hpl
  exact run_fnS (us := .ref a :: us) (vs := .ref a :: vs) F hr hb (hx σ) I2 (.cons rfl r) q2
theorem if_true_of {c : Bool} {A B : Prop} (hc : c = true) (h : A) : if c = true then A else B := by
  rw [if_pos hc]
  exact h
theorem if_false_of {c : Bool} {A B : Prop} (hc : c = false) (h : B) : if c = true then A else B := by
  rw [hc, if_neg Bool.false_ne_true]
  exact h
/-- a list or a tuple is walked -/
theorem pi_or {X : Cx} {tg it : Expr} {w1 w2 : TI} (h1 : PI X tg it w1) (h2 : PI X tg it w2) : PI X tg it (fun σ H R => w1 σ H R ∨ w2 σ H R) :=
  ⟨fun pins s σ H R I h => h.elim (h1.run pins s σ H R I) (h2.run pins s σ H R I)⟩

/-! ### min with default=None -/
theorem foldl_min_mem : ∀ (xs : List Int) (x : Int), xs.foldl (fun a y => if PySem.W.DatumOrd.lt y a = true then y else a) x ∈ x :: xs ∧ ∀ k ∈ x :: xs, xs.foldl (fun a y => if PySem.W.DatumOrd.lt y a = true then y else a) x ≤ k
  | [], x => ⟨List.mem_cons_self, fun k hk => by rw [List.mem_singleton.mp hk]; exact Int.le_refl _⟩
  | y :: ys, x => by
    rw [List.foldl_cons]
    have e : (if PySem.W.DatumOrd.lt y x = true then y else x) = if y < x then y else x := by
      show (if decide (y < x) = true then y else x) = _
      by_cases c : y < x
      · rw [if_pos c, if_pos (decide_eq_true c)]
      · rw [if_neg c, if_neg (by simpa using c)]
    rw [e]
    by_cases c : y < x
    · rw [if_pos c]
      obtain ⟨h1, h2⟩ := foldl_min_mem ys y
      refine ⟨List.mem_cons_of_mem _ h1, fun k hk => ?_⟩
      rcases List.mem_cons.mp hk with rfl | hk
      · have := h2 y List.mem_cons_self
        omega
      · exact h2 k hk
    · rw [if_neg c]
      obtain ⟨h1, h2⟩ := foldl_min_mem ys x
      refine ⟨?_, fun k hk => ?_⟩
      · rcases List.mem_cons.mp h1 with h1 | h1
        · rw [h1]
          exact List.mem_cons_self
        · exact List.mem_cons_of_mem _ (List.mem_cons_of_mem _ h1)
      · rcases List.mem_cons.mp hk with rfl | hk
        · exact h2 k List.mem_cons_self
        · rcases List.mem_cons.mp hk with rfl | hk
          · have := h2 x List.mem_cons_self
            omega
          · exact h2 k (List.mem_cons_of_mem _ hk)
/-- min(xs, default=None) of a list of whole numbers -/
def rMinI (K : PySem.W.Frag) : List V → List V → Hp → VK → Prop := fun vs zs H Q => ∃ (a : Addr) (ns : List Int), vs = [V.ref a] ∧ zs = [V.non] ∧ SqL K H a (ns.map V.int) ∧ (ns = [] → Q .non H) ∧ (∀ m, m ∈ ns → (∀ k ∈ ns, m ≤ k) → Q (.int m) H)
theorem cr_minI {X : Cx} (hc : X.calm = true) (hu : X.A.units + 64 < cLine) : CallRK X (.builtin "min") [Str.ofString "default"] (rMinI X.K) := by
  intro pins s σ H xs zs us ws Q I rx rz h
  obtain ⟨a, ns, rfl, rfl, hs, h0, h1⟩ := h
  obtain ⟨u, rfl, ru⟩ := Vals.one rx
  obtain ⟨z, rfl, rz'⟩ := Vals.one rz
  obtain rfl : u = Value.ref a := ru
  obtain rfl : z = Value.none := rz'
  obtain ⟨its, hv, hp, hl⟩ := I.list hs
  have hi := intsAre_of hv
  show wpAny _ _ (call (.builtin "min") [.ref a] [(Str.ofString "default", Value.none)]) _ _ _
  refine PySem.W.min_list_datum_default (α := Int) (xs := ns) (I.ok.hd hc) hp.isList (PySem.W.HoldAll.of_ints (by simpa using hi)) (by show X.A.units + 1 + 0 < cLine; omega) (fun e h' tk k => ?_) fun y ys i v h' tk e hv' hh k => ?_
  · exact ⟨.non, H, I.kept (t' := tk) k, rfl, h0 e⟩
  · obtain ⟨t, rfl⟩ := PySem.W.int_of_holds hh
    obtain ⟨m1, m2⟩ := foldl_min_mem ys y
    refine ⟨.int _, H, I.kept (t' := tk) k, ⟨t, rfl⟩, h1 _ (by rw [e]; exact m1) (by rw [e]; exact m2)⟩
end RB
end
section
namespace RB
open PySem PySem.Spec PyProof.Rows L2
/-- a triple as a tuple's items -/
def V3 (x : T3) : List V := [.int (x.1 : Nat), .int (x.2.1 : Nat), .int (x.2.2 : Nat)]
def tt (x : T3) : PySem.W.Tup Int := ⟨[(x.1 : Int), (x.2.1 : Int), (x.2.2 : Int)]⟩
theorem tt_lt (a b : T3) : PySem.W.DatumOrd.lt (tt a) (tt b) = tlt a b := by
  obtain ⟨a1, a2, a3⟩ := a
  obtain ⟨b1, b2, b3⟩ := b
  show PySem.W.listLt [(a1 : Int), (a2 : Int), (a3 : Int)] [(b1 : Int), (b2 : Int), (b3 : Int)] = _
  simp only [PySem.W.listLt, tlt]
  by_cases c1 : a1 = b1
  · subst c1
    rw [if_pos rfl, if_pos rfl]
    by_cases c2 : a2 = b2
    · subst c2
      rw [if_pos rfl, if_pos rfl]
      by_cases c3 : a3 = b3
      · subst c3
        rw [if_pos rfl]
        simp
      · rw [if_neg (by omega)]
        show decide ((a3 : Int) < b3) = decide (a3 < b3)
        exact decide_eq_decide.mpr (by omega)
    · rw [if_neg (by omega), if_neg c2]
      show decide ((a2 : Int) < b2) = decide (a2 < b2)
      exact decide_eq_decide.mpr (by omega)
  · rw [if_neg (by omega), if_neg c1]
    show decide ((a1 : Int) < b1) = decide (a1 < b1)
    exact decide_eq_decide.mpr (by omega)
theorem tt_min (x : T3) (xs : List T3) : PySem.W.minOf (tt x) (xs.map tt) = tt (xs.foldl (fun a y => if tlt y a = true then y else a) x) := by
  unfold PySem.W.minOf
  induction xs generalizing x with
  | nil => rfl
  | cons y ys ih =>
    rw [List.map_cons, List.foldl_cons, List.foldl_cons, ← ih]
    rw [tt_lt y x]
    cases tlt y x <;> rfl
/-- the addresses ts hold the triples L -/
abbrev Tris (H : Hp) (ts : List Addr) (L : List T3) : Prop := Paired (fun t x => H t = some (.tup (V3 x))) ts L
theorem ints3 {x : T3} {us : List Value} (r : Vals (V3 x) us) : IntsAre us (tt x).items := by
  have r' : Vals ((tt x).items.map V.int) us := r
  exact intsAre_of r'
theorem tris_hold {X : Cx} {pins : List (Addr × Obj)} {σ : L2.St} {H : Hp} {s : Shared} (I : Inv X pins σ H s) : ∀ {ts : List Addr} {L : List T3}, Tris H ts L → PySem.W.HoldAll s.heap (ts.map Value.ref) (L.map tt)
  | _, _, .nil => PySem.W.HoldAll.nil
  | _, _, .cons (a := t) (b := b) h r => by
    obtain ⟨its, hv, ht, _⟩ := I.tuple (SqT.of h)
    exact PySem.W.HoldAll.cons (PySem.W.holds_tup (vs := its.toArray) ht (PySem.W.HoldAll.of_ints (ns := (tt b).items) (by rw [List.toList_toArray]; exact ints3 hv))) (tris_hold I r)

theorem vals_refs' : ∀ {ts : List Addr} {us : List Value}, Vals (ts.map V.ref) us → us = ts.map Value.ref
  | [], _, r => by cases r; rfl
  | t :: ts, _, .cons r rs => by
    rw [vals_refs' rs]
    have : _ = Value.ref t := r
    rw [this]
    rfl
theorem paired_at {α β : Type} {F : α → β → Prop} : ∀ {l : List α} {m : List β}, Paired F l m → ∀ {i : Nat} {a : α}, l[i]? = some a → ∃ b, m[i]? = some b ∧ F a b
  | _, _, .nil, i, a, h => by simp at h
  | _, _, .cons r rs, 0, a, h => by
    simp at h
    subst h
    exact ⟨_, rfl, r⟩
  | _, _, .cons r rs, i + 1, a, h => by
    obtain ⟨b, h1, h2⟩ := paired_at rs (i := i) (a := a) (by simpa using h)
    exact ⟨b, by simpa using h1, h2⟩
theorem paired_at' {α β : Type} {F : α → β → Prop} : ∀ {l : List α} {m : List β}, Paired F l m → ∀ {i : Nat} {b : β}, m[i]? = some b → ∃ a, l[i]? = some a ∧ F a b
  | _, _, .nil, i, a, h => by simp at h
  | _, _, .cons r rs, 0, a, h => by
    simp at h
    subst h
    exact ⟨_, rfl, r⟩
  | _, _, .cons r rs, i + 1, a, h => by
    obtain ⟨b, h1, h2⟩ := paired_at' rs (i := i) (b := a) (by simpa using h)
    exact ⟨b, by simpa using h1, h2⟩
theorem intsAre_inj : ∀ {us : List Value} {ns ms : List Int}, IntsAre us ns → IntsAre us ms → ns = ms
  | _, _, _, .nil, .nil => rfl
  | _, _, _, .cons n t r, .cons _ _ q => by rw [intsAre_inj r q]
/-- min(xs, default=None) of a list of triples -/
def rMinT (K : PySem.W.Frag) : List V → List V → Hp → VK → Prop := fun vs zs H Q => ∃ (a : Addr) (ts : List Addr) (L : List T3), vs = [V.ref a] ∧ zs = [V.non] ∧ SqL K H a (ts.map V.ref) ∧ Tris H ts L ∧ (L = [] → Q .non H) ∧
  (∀ x t, bestT L = some x → H t = some (.tup (V3 x)) → Q (.ref t) H)
theorem cr_minT {X : Cx} (hc : X.calm = true) (hu : X.A.units + 64 < cLine) : CallRK X (.builtin "min") [Str.ofString "default"] (rMinT X.K) := by
  intro pins s σ H xs zs us ws Q I rx rz h
  obtain ⟨a, ts, L, rfl, rfl, hs, ht, h0, h1⟩ := h
  obtain ⟨u, rfl, ru⟩ := Vals.one rx
  obtain ⟨z, rfl, rz'⟩ := Vals.one rz
  obtain rfl : u = Value.ref a := ru
  obtain rfl : z = Value.none := rz'
  obtain ⟨its, hv, hp, hl⟩ := I.list hs
  have ei := vals_refs' hv
  subst ei
  show wpAny _ _ (call (.builtin "min") [.ref a] [(Str.ofString "default", Value.none)]) _ _ _
  refine PySem.W.min_list_datum_default (α := PySem.W.Tup Int) (xs := L.map tt) (I.ok.hd hc) hp.isList (by simpa using tris_hold I ht) (by show X.A.units + 1 + (0 + 1) < cLine; omega) (fun e h' tk k => ?_) fun y ys i v h' tk e hv' hh k => ?_
  · exact ⟨.non, H, I.kept (t' := tk) k, rfl, h0 (List.map_eq_nil_iff.mp e)⟩
  · have J := I.kept (t' := tk) k
    cases L with
    | nil => cases e
    | cons x L =>
      rw [List.map_cons] at e
      obtain ⟨e1, e2⟩ := List.cons.inj e
      subst e1
      subst e2
      rw [tt_min] at hh
      have hv2 : (ts.map Value.ref)[i]? = some v := by simpa using hv'
      rw [List.getElem?_map] at hv2
      cases et : ts[i]? with
      | none => rw [et] at hv2; cases hv2
      | some t =>
        rw [et] at hv2
        have ev : Value.ref t = v := Option.some.inj hv2
        subst ev
        obtain ⟨b, hb, hH⟩ := paired_at ht et
        obtain ⟨l, ws, e3, h3, h4⟩ := PySem.W.tup_of_holds hh
        cases e3
        obtain ⟨its2, v2, t2, _⟩ := J.tuple (SqT.of hH)
        obtain ⟨o1, g1, c1, n1, d1⟩ := h3
        obtain ⟨o2, g2, c2, n2, d2⟩ := t2
        rw [g1] at g2
        cases g2
        rw [d1] at d2
        obtain ⟨d3, _⟩ := Data.seq.inj d2
        have i1 := h4.toInts
        rw [d3] at i1
        have i2 : IntsAre its2 (tt b).items := ints3 v2
        have i3 := intsAre_inj i2 (by simpa using i1)
        have hx : bestT (x :: L) = some (L.foldl (fun a y => if tlt y a = true then y else a) x) := rfl
        generalize L.foldl (fun a y => if tlt y a = true then y else a) x = r at hx i3
        have eb : b = r := by
          obtain ⟨b1, b2, b3⟩ := b
          obtain ⟨r1, r2, r3⟩ := r
          simp only [tt, List.cons.injEq] at i3
          obtain ⟨j1, j2, j3, _⟩ := i3
          rw [show b1 = r1 by omega, show b2 = r2 by omega, show b3 = r3 by omega]
        subst eb
        exact ⟨.ref t, H, J, rfl, h1 b t hx hH⟩

/-! ### a dict whose keys are tuples (a number, a number, a tuple of numbers) -/
abbrev KX := List (NestedKey × Addr × Value)
/-- the dict at d: its entries xs; the keys' tuples stand elsewhere -/
def memO (P : Program) (w : World) (d : Addr) (xs : KX) : HO := .ext fun h => ∃ o es ep, h.get? d = some o ∧ o.ExactDict ∧ o.data = .dict es ep ∧ es.toList = xs.map (entryOfKey (nestedKind P w)) ∧ (d == sysModules) = false
def key3 (b g : Nat) (s : List Nat) : NestedKey := .tup [.num (b : Nat), .num (g : Nat), .tup (s.map fun (n : Nat) => .num (n : Int))]
abbrev vI (n : Nat) : V := .int ((n : Nat) : Int)
/-- at a stands such a key -/
def KeyAt (H : Hp) (a : Addr) (k : NestedKey) : Prop := ∃ b g s t, k = key3 b g s ∧ H a = some (.tup [vI b, vI g, .ref t]) ∧ H t = some (.tup (s.map vI))
/-- the dict at d and the keys' tuples -/
structure MemAt (P : Program) (w : World) (H : Hp) (d : Addr) (xs : KX) : Prop where
  at_ : H d = some (memO P w d xs)
  keys : ∀ x ∈ xs, KeyAt H x.2.1 x.1
  nd : (xs.map (·.1)).Nodup
theorem nested_nums {h : Heap} : ∀ {s : List Nat} {us : List Value}, Vals (s.map vI) us → NestedAll h (s.map fun (n : Nat) => NestedKey.num (n : Int)) us
  | [], _, r => by cases r; exact .nil
  | n :: s, _, .cons r rs => by
    obtain ⟨t, rfl⟩ := r
    exact .cons (.int _ t) (nested_nums rs)
theorem depth_nums : ∀ s : List Nat, NestedKey.depthAll (s.map fun (n : Nat) => NestedKey.num (n : Int)) = 0
  | [] => rfl
  | n :: s => by
    rw [List.map_cons, NestedKey.depthAll, depth_nums s]
    rfl
theorem key_is {P : Program} {w : World} {H : Hp} {h : Heap} {a : Addr} {k : NestedKey} (ok : HOk P w H h) (e : KeyAt H a k) : (nestedKind P w).is h k a := by
  obtain ⟨b, g, s, t, rfl, ha, ht⟩ := e
  obtain ⟨_, us, r, o, ho, hc, n, hd⟩ := ok a _ ha
  obtain ⟨_, us2, r2, o2, ho2, hc2, n2, hd2⟩ := ok t _ ht
  cases r with
  | cons ra r =>
    cases r with
    | cons rb r =>
      cases r with
      | cons rt r =>
        cases r
        obtain ⟨t1, rfl⟩ := ra
        obtain ⟨t2, rfl⟩ := rb
        have et : _ = Value.ref t := rt
        subst et
        refine ⟨.tup ho hc hd (.cons (.int _ _) (.cons (.int _ _) (.cons (.tup ho2 hc2 hd2 (by simpa using nested_nums r2)) .nil))), ?_⟩
        show NestedKey.depthAll _ + 1 ≤ 8
        have : NestedKey.depthAll [NestedKey.num (b : Int), NestedKey.num (g : Int), NestedKey.tup (s.map fun (n : Nat) => NestedKey.num (n : Int))] = 1 := by
          simp only [NestedKey.depthAll, NestedKey.depth, depth_nums]
          rfl
        rw [this]
        decide
theorem mem_dict {P : Program} {w : World} {H : Hp} {h : Heap} {d : Addr} {xs : KX} (ok : HOk P w H h) (m : MemAt P w H d xs) : h.DictOfH (nestedKind P w) d xs ∧ (d == sysModules) = false := by
  obtain ⟨⟨o, es, ep, h1, h2, h3, h4, h5⟩, _, _⟩ := ok d _ m.at_
  exact ⟨⟨o, es, ep, h1, h2, h3, h4, fun x hx => key_is ok (m.keys x hx), m.nd⟩, h5⟩
theorem memO_ok {P : Program} {w : World} {H : Hp} {h : Heap} {d : Addr} {xs : KX} (m : h.DictOfH (nestedKind P w) d xs) (hd : (d == sysModules) = false) : ObjOk P w H h d (memO P w d xs) := by
  obtain ⟨o, es, ep, h1, h2, h3, h4, _, _⟩ := m
  exact ⟨⟨o, es, ep, h1, h2, h3, h4, hd⟩, ⟨o, h1⟩, fun a b ⟨o, es, ep, k1, k2, k3, k4, k5⟩ k => ⟨o, es, ep, k _ k1, k2, k3, k4, k5⟩⟩
theorem nroom {A : Around} (hu : A.units + 64 < cLine) {P : Program} {w : World} : (nestedKind P w).room A.in1 := by
  show A.units + 1 + 8 < cLine
  omega
/-- k not in d -/
def rMemNotIn (P : Program) (w : World) : R2 := fun x y H Q => ∃ a d k xs, x = .ref a ∧ y = .ref d ∧ KeyAt H a k ∧ MemAt P w H d xs ∧ Q (.bl (!(atKey xs k).isSome)) H
theorem op_memNotIn {X : Cx} (hu : X.A.units + 64 < cLine) : OpR X (compareOp .NotIn) (rMemNotIn X.prog X.w) := by
  intro pins s σ H x y v u Q I rx ry h
  obtain ⟨a, d, k, xs, rfl, rfl, hk, hm, q⟩ := h
  obtain rfl : v = Value.ref a := rx
  obtain rfl : u = Value.ref d := ry
  obtain ⟨m1, m2⟩ := mem_dict I.hok hm
  refine notIn_keyed (nroom hu) (key_is I.hok hk) m2 ⟨xs, m1, rfl⟩ ?_
  rw [valueAt_pairsH]
  exact ⟨.bl _, H, I.tok _, by cases atKey xs k <;> rfl, q⟩
/-- d[k], there -/
def tMemGet (P : Program) (w : World) (td ty : TE) : TE := fun σ H Q => td σ H fun x H1 => ty σ H1 fun y H2 => ∃ a d k xs b u, x = .ref d ∧ y = .ref a ∧ KeyAt H2 a k ∧ MemAt P w H2 d xs ∧ atKey xs k = some (b, u) ∧ ∃ v, RelV v u ∧ Q v H2
theorem pe_memGet {X : Cx} {o i : Expr} {td ty : TE} {pos : Pos} (hu : X.A.units + 64 < cLine) (ho : PE X o td) (hi : PE X i ty) (hs : NoSl i) : PE X (.Subscript o i pos) (tMemGet X.prog X.w td ty) := by
  refine ⟨fun pins s σ H Q I h => ?_⟩
  refine subD_of PySem.F.slot_dict_getitem.lookup hs (thn (ho.run pins s σ H _ I h) fun u s1 ⟨x, H1, I1, rx, q1⟩ => thn (hi.run pins s1 σ H1 _ I1 q1) fun iv s2 ⟨y, H2, I2, ry, a, d, k, xs, b, uu, ex, ey, hk, hm, hg, v, rv, q2⟩ => ?_)
  subst ex
  subst ey
  obtain rfl : u = Value.ref d := rx
  obtain rfl : iv = Value.ref a := ry
  obtain ⟨m1, m2⟩ := mem_dict I2.hok hm
  exact ⟨m1.typeIs, wpAny_getItem_heap (nroom hu) (key_is I2.hok hk) m1 hg ⟨v, H2, I2.tok _, rv, q2⟩⟩
/-- d[k] = v -/
def rMemSet (P : Program) (w : World) : TSet := fun o i v H Q => ∃ a d k xs, o = .ref d ∧ i = .ref a ∧ KeyAt H a k ∧ MemAt P w H d xs ∧ xs.length ≤ sizeLine ∧ ∀ u, RelV v u → ((storedH xs k a u).map (·.1)).Nodup → Q (upd H d (memO P w d (storedH xs k a u)))
theorem set_mem {X : Cx} (hu : X.A.units + 64 < cLine) : PSet X (rMemSet X.prog X.w) := by
  intro pins s σ H o i v ov iv u Q I ro ri rv h
  obtain ⟨a, d, k, xs, rfl, rfl, hk, hm, hz, q⟩ := h
  obtain rfl : ov = Value.ref d := ro
  obtain rfl : iv = Value.ref a := ri
  obtain ⟨m1, m2⟩ := mem_dict I.hok hm
  refine wpAny_setItem_heap (hsz := hz) (nroom hu) (key_is I.hok hk) m1 fun h' dd' hs => ?_
  obtain ⟨qo, es, ep, hq, h2, h3, h4, h5, h6⟩ := id dd'
  exact ⟨_, d_write I (by rw [hm.at_]; exact True.intro) hs ⟨qo, hq⟩ (memO_ok dd' m2), q u rv h6⟩
/-- {} -/
def tMemNew (P : Program) (w : World) : TE := fun _ H Q => ∀ p, H p = none → Q (.ref p) (upd H p (memO P w p []))
theorem pe_memNew {X : Cx} {pos : Pos} : PE X (.Dict [] [] pos) (tMemNew X.prog X.w) := ⟨fun pins s σ H Q I h =>
  wpAny_Dict_empty ⟨.ref s.heap.objs.size, _, I.laid (a := s.heap.objs.size) (o := memO X.prog X.w s.heap.objs.size []) (t' := s.toks) (fun _ _ q => Heap.get?_push_of_some _ q) (Nat.le_refl _)
    (memO_ok (Heap.DictOfH.new s.heap) (by rw [beq_eq_false_iff_ne]; exact Nat.ne_of_gt I.big)), rfl, h _ (I.hok.fresh (Nat.le_refl _))⟩⟩
theorem memO_tup {P : Program} {w : World} {d : Addr} {xs : KX} {ys : List V} : memO P w d xs ≠ .tup ys := fun z => by
  have z' : HO.ext _ = HO.tup ys := z
  cases z'
theorem memO_lst {P : Program} {w : World} {d : Addr} {xs : KX} {ys : List V} : memO P w d xs ≠ .lst ys := fun z => by
  have z' : HO.ext _ = HO.lst ys := z
  cases z'
theorem memO_ins {P : Program} {w : World} {d : Addr} {xs : KX} {C dx : Addr} {fs : List (Str × V)} : memO P w d xs ≠ .ins C dx fs := fun z => by
  have z' : HO.ext _ = HO.ins C dx fs := z
  cases z'
end RB
end
section
namespace RB
open PySem PySem.Spec PyProof.Rows L2
/-! ### the text: each def by its place -/
def top (i : Nat) : Stmt := PySem.Challenge.pw_roadbehind_s01_answers.main.body.getD i (.Pass ⟨0, 0, 0, 0⟩)
abbrev s1 : Stmt := top 1
abbrev s2 : Stmt := top 2
abbrev s3 : Stmt := top 3
abbrev s4 : Stmt := top 4
abbrev s5 : Stmt := top 5
abbrev s6 : Stmt := top 6
abbrev s11 : Stmt := inClass (top 8) 0
abbrev s12 : Stmt := inClass (top 8) 1
abbrev s13 : Stmt := inClass (top 8) 2
abbrev s14 : Stmt := inClass (top 8) 3
abbrev s9 : Stmt := top 9
abbrev s10 : Stmt := top 10
abbrev s21 : Stmt := inClass (top 12) 0
abbrev s22 : Stmt := inClass (top 12) 1
abbrev s23 : Stmt := inClass (top 12) 2
abbrev s24 : Stmt := inClass (top 12) 3
abbrev s25 : Stmt := inClass (top 12) 4
abbrev s26 : Stmt := inClass (top 12) 5
abbrev s27 : Stmt := inClass (top 12) 6
abbrev s28 : Stmt := inClass (top 12) 7
abbrev s29 : Stmt := inClass (top 12) 8
abbrev s31 : Stmt := top 13
abbrev s32 : Stmt := top 14
abbrev s33 : Stmt := top 15
abbrev s41 : Stmt := inClass (top 26) 0
abbrev s42 : Stmt := top 27
abbrev s43 : Stmt := top 28
abbrev s51 : Stmt := inClass (top 29) 0
abbrev s52 : Stmt := inClass (top 29) 1
abbrev s53 : Stmt := inClass (top 29) 2
abbrev s54 : Stmt := inClass (top 29) 3
abbrev s55 : Stmt := inClass (top 29) 4
abbrev s56 : Stmt := inClass (top 29) 5
abbrev s57 : Stmt := inClass (top 29) 6
abbrev s58 : Stmt := inClass (top 29) 7
abbrev s59 : Stmt := inClass (top 29) 8
abbrev s60 : Stmt := inClass (top 29) 9
abbrev s61 : Stmt := top 30
abbrev N1 : List Str := ["places", "one", "other"]
theorem sc1 : FnScope ["places", "one", "other"] ["places"] (defScope s1) := ⟨rfl, rfl, rfl, by decide +kernel, rfl, by decide +kernel, by decide +kernel⟩
abbrev N2 : List Str := ["one", "other"]
theorem sc2 : FnScope ["one", "other"] ["one", "other"] (defScope s2) := ⟨rfl, rfl, rfl, by decide +kernel, rfl, by decide +kernel, by decide +kernel⟩
abbrev N3 : List Str := ["one", "other"]
theorem sc3 : FnScope ["one", "other"] ["one", "other"] (defScope s3) := ⟨rfl, rfl, rfl, by decide +kernel, rfl, by decide +kernel, by decide +kernel⟩
abbrev N4 : List Str := ["places", "roads", "table", "one", "other", "minutes"]
theorem sc4 : FnScope ["places", "roads", "table", "one", "other", "minutes"] ["places", "roads"] (defScope s4) := ⟨rfl, rfl, rfl, by decide +kernel, rfl, by decide +kernel, by decide +kernel⟩
abbrev N5 : List Str := ["table", "between", "places", "found", "one", "row", "other"]
theorem sc5 : FnScope ["table", "between", "places", "found", "one", "row", "other"] ["table", "between"] (defScope s5) := ⟨rfl, rfl, rfl, by decide +kernel, rfl, by decide +kernel, by decide +kernel⟩
abbrev N6 : List Str := ["places", "roads", "table", "between"]
theorem sc6 : FnScope ["places", "roads", "table", "between"] ["places", "roads"] (defScope s6) := ⟨rfl, rfl, rfl, by decide +kernel, rfl, by decide +kernel, by decide +kernel⟩
abbrev N11 : List Str := ["self", "places", "car", "minute"]
theorem sc11 : FnScope ["self", "places", "car", "minute"] ["self", "places", "car", "minute"] (defScope s11) := ⟨rfl, rfl, rfl, by decide +kernel, rfl, by decide +kernel, by decide +kernel⟩
abbrev N12 : List Str := ["self", "place"]
theorem sc12 : FnScope ["self", "place"] ["self", "place"] (defScope s12) := ⟨rfl, rfl, rfl, by decide +kernel, rfl, by decide +kernel, by decide +kernel⟩
abbrev N13 : List Str := ["self"]
theorem sc13 : FnScope ["self"] ["self"] (defScope s13) := ⟨rfl, rfl, rfl, by decide +kernel, rfl, by decide +kernel, by decide +kernel⟩
abbrev N14 : List Str := ["self"]
theorem sc14 : FnScope ["self"] ["self"] (defScope s14) := ⟨rfl, rfl, rfl, by decide +kernel, rfl, by decide +kernel, by decide +kernel⟩
abbrev N9 : List Str := ["number", "found", "place"]
theorem sc9 : FnScope ["number", "found", "place"] ["number"] (defScope s9) := ⟨rfl, rfl, rfl, by decide +kernel, rfl, by decide +kernel, by decide +kernel⟩
abbrev N10 : List Str := ["some", "parts", "found", "place", "part"]
theorem sc10 : FnScope ["some", "parts", "found", "place", "part"] ["some", "parts"] (defScope s10) := ⟨rfl, rfl, rfl, by decide +kernel, rfl, by decide +kernel, by decide +kernel⟩
abbrev N21 : List Str := ["self", "chase"]
theorem sc21 : FnScope ["self", "chase"] ["self", "chase"] (defScope s21) := ⟨rfl, rfl, rfl, by decide +kernel, rfl, by decide +kernel, by decide +kernel⟩
abbrev N22 : List Str := ["self", "begin", "since", "until", "row", "place"]
theorem sc22 : FnScope ["self", "begin", "since", "until", "row", "place"] ["self", "begin", "since", "until"] (defScope s22) := ⟨rfl, rfl, rfl, by decide +kernel, rfl, by decide +kernel, by decide +kernel⟩
abbrev N23 : List Str := ["self", "place", "some", "minutes", "goal"]
theorem sc23 : FnScope ["self", "place", "some", "minutes", "goal"] ["self", "place", "some"] (defScope s23) := ⟨rfl, rfl, rfl, by decide +kernel, rfl, by decide +kernel, by decide +kernel⟩
abbrev N24 : List Str := ["self", "begin", "since", "some", "found", "place", "late"]
theorem sc24 : FnScope ["self", "begin", "since", "some", "found", "place", "late"] ["self", "begin", "since", "some"] (defScope s24) := ⟨rfl, rfl, rfl, by decide +kernel, rfl, by decide +kernel, by decide +kernel⟩
abbrev N25 : List Str := ["self", "place", "which", "some", "parts", "found", "part"]
theorem sc25 : FnScope ["self", "place", "which", "some", "parts", "found", "part"] ["self", "place", "which", "some"] (defScope s25) := ⟨rfl, rfl, rfl, by decide +kernel, rfl, by decide +kernel, by decide +kernel⟩
abbrev N26 : List Str := ["self", "begin", "since", "gone", "some", "found", "which", "place", "late"]
theorem sc26 : FnScope ["self", "begin", "since", "gone", "some", "found", "which", "place", "late"] ["self", "begin", "since", "gone", "some"] (defScope s26) := ⟨rfl, rfl, rfl, by decide +kernel, rfl, by decide +kernel, by decide +kernel⟩
abbrev N27 : List Str := ["self", "gone"]
theorem sc27 : FnScope ["self", "gone"] ["self", "gone"] (defScope s27) := ⟨rfl, rfl, rfl, by decide +kernel, rfl, by decide +kernel, by decide +kernel⟩
abbrev N28 : List Str := ["self", "begin", "gone", "some", "minute"]
theorem sc28 : FnScope ["self", "begin", "gone", "some", "minute"] ["self", "begin", "gone", "some"] (defScope s28) := ⟨rfl, rfl, rfl, by decide +kernel, rfl, by decide +kernel, by decide +kernel⟩
abbrev N29 : List Str := ["self", "begin", "gone", "some", "key", "choice"]
theorem sc29 : FnScope ["self", "begin", "gone", "some", "key", "choice"] ["self", "begin", "gone", "some"] (defScope s29) := ⟨rfl, rfl, rfl, by decide +kernel, rfl, by decide +kernel, by decide +kernel⟩
abbrev N31 : List Str := ["chase", "search"]
theorem sc31 : FnScope ["chase", "search"] ["chase"] (defScope s31) := ⟨rfl, rfl, rfl, by decide +kernel, rfl, by decide +kernel, by decide +kernel⟩
abbrev N32 : List Str := ["chase", "search", "choice"]
theorem sc32 : FnScope ["chase", "search", "choice"] ["chase"] (defScope s32) := ⟨rfl, rfl, rfl, by decide +kernel, rfl, by decide +kernel, by decide +kernel⟩
abbrev N33 : List Str := ["chase", "search", "found", "goal", "choice"]
theorem sc33 : FnScope ["chase", "search", "found", "goal", "choice"] ["chase"] (defScope s33) := ⟨rfl, rfl, rfl, by decide +kernel, rfl, by decide +kernel, by decide +kernel⟩
abbrev N41 : List Str := ["self", "told"]
theorem sc41 : FnScope ["self", "told"] ["self", "told"] (defScope s41) := ⟨rfl, rfl, rfl, by decide +kernel, rfl, by decide +kernel, by decide +kernel⟩
abbrev N42 : List Str := ["truth", "number"]
theorem sc42 : FnScope ["truth", "number"] ["truth", "number"] (defScope s42) := ⟨rfl, rfl, rfl, by decide +kernel, rfl, by decide +kernel, by decide +kernel⟩
abbrev N43 : List Str := ["found"]
theorem sc43 : FnScope ["found"] ["found"] (defScope s43) := ⟨rfl, rfl, rfl, by decide +kernel, rfl, by decide +kernel, by decide +kernel⟩
abbrev N51 : List Str := ["self"]
theorem sc51 : FnScope ["self"] ["self"] (defScope s51) := ⟨rfl, rfl, rfl, by decide +kernel, rfl, by decide +kernel, by decide +kernel⟩
abbrev N52 : List Str := ["self", "place", "other"]
theorem sc52 : FnScope ["self", "place", "other"] ["self", "place", "other"] (defScope s52) := ⟨rfl, rfl, rfl, by decide +kernel, rfl, by decide +kernel, by decide +kernel⟩
abbrev N53 : List Str := ["self", "places", "car", "minute"]
theorem sc53 : FnScope ["self", "places", "car", "minute"] ["self", "places", "car", "minute"] (defScope s53) := ⟨rfl, rfl, rfl, by decide +kernel, rfl, by decide +kernel, by decide +kernel⟩
abbrev N54 : List Str := ["self", "place", "other", "minutes"]
theorem sc54 : FnScope ["self", "place", "other", "minutes"] ["self", "place", "other", "minutes"] (defScope s54) := ⟨rfl, rfl, rfl, by decide +kernel, rfl, by decide +kernel, by decide +kernel⟩
abbrev N55 : List Str := ["self", "number"]
theorem sc55 : FnScope ["self", "number"] ["self", "number"] (defScope s55) := ⟨rfl, rfl, rfl, by decide +kernel, rfl, by decide +kernel, by decide +kernel⟩
abbrev N56 : List Str := ["self", "minute", "parts"]
theorem sc56 : FnScope ["self", "minute", "parts"] ["self", "minute", "parts"] (defScope s56) := ⟨rfl, rfl, rfl, by decide +kernel, rfl, by decide +kernel, by decide +kernel⟩
abbrev N57 : List Str := ["self", "place", "other"]
theorem sc57 : FnScope ["self", "place", "other"] ["self", "place", "other"] (defScope s57) := ⟨rfl, rfl, rfl, by decide +kernel, rfl, by decide +kernel, by decide +kernel⟩
abbrev N58 : List Str := ["self", "late", "which", "place", "minutes", "one"]
theorem sc58 : FnScope ["self", "late", "which", "place", "minutes", "one"] ["self"] (defScope s58) := ⟨rfl, rfl, rfl, by decide +kernel, rfl, by decide +kernel, by decide +kernel⟩
abbrev N59 : List Str := ["self", "call", "plain"]
theorem sc59 : FnScope ["self", "call", "plain"] ["self", "call", "plain"] (defScope s59) := ⟨rfl, rfl, rfl, by decide +kernel, rfl, by decide +kernel, by decide +kernel⟩
abbrev N60 : List Str := ["self", "call", "plain", "found", "e"]
theorem sc60 : FnScope ["self", "call", "plain", "found", "e"] ["self", "call", "plain"] (defScope s60) := ⟨rfl, rfl, rfl, by decide +kernel, rfl, by decide +kernel, by decide +kernel⟩
abbrev N61 : List Str := ["calls", "desk", "found", "at", "begin", "behind", "told"]
theorem sc61 : FnScope ["calls", "desk", "found", "at", "begin", "behind", "told"] ["calls"] (defScope s61) := ⟨rfl, rfl, rfl, by decide +kernel, rfl, by decide +kernel, by decide +kernel⟩
/-- where the defs (by number) and the classes stand -/
structure Ads where
  f : Nat → Addr
  d : Nat → FuncData
  cCh : Addr
  cSe : Addr
  cRe : Addr
  cDe : Addr
/-- what the top has written -/
structure Txt (K : PySem.W.Frag) (mg : Str → Option Value) (a : Ads) : Prop where
  F1 : Fun K "standing" "standing" s1 (a.f 1) (a.d 1)
  F2 : Fun K "lesser" "lesser" s2 (a.f 2) (a.d 2)
  F3 : Fun K "together" "together" s3 (a.f 3) (a.d 3)
  F4 : Fun K "by_roads" "by_roads" s4 (a.f 4) (a.d 4)
  F5 : Fun K "by_way_of" "by_way_of" s5 (a.f 5) (a.d 5)
  F6 : Fun K "drives_of" "drives_of" s6 (a.f 6) (a.d 6)
  F11 : Fun K "__init__" "Chase.__init__" s11 (a.f 11) (a.d 11)
  F12 : Fun K "has" "Chase.has" s12 (a.f 12) (a.d 12)
  F13 : Fun K "table" "Chase.table" s13 (a.f 13) (a.d 13)
  F14 : Fun K "least_minute" "Chase.least_minute" s14 (a.f 14) (a.d 14)
  F9 : Fun K "members" "members" s9 (a.f 9) (a.d 9)
  F10 : Fun K "parted" "parted" s10 (a.f 10) (a.d 10)
  F21 : Fun K "__init__" "Search.__init__" s21 (a.f 21) (a.d 21)
  F22 : Fun K "in_time" "Search.in_time" s22 (a.f 22) (a.d 22)
  F23 : Fun K "late_from" "Search.late_from" s23 (a.f 23) (a.d 23)
  F24 : Fun K "last_choices" "Search.last_choices" s24 (a.f 24) (a.d 24)
  F25 : Fun K "late_behind" "Search.late_behind" s25 (a.f 25) (a.d 25)
  F26 : Fun K "news_choices" "Search.news_choices" s26 (a.f 26) (a.d 26)
  F27 : Fun K "since" "Search.since" s27 (a.f 27) (a.d 27)
  F28 : Fun K "choices" "Search.choices" s28 (a.f 28) (a.d 28)
  F29 : Fun K "least" "Search.least" s29 (a.f 29) (a.d 29)
  F31 : Fun K "first_choice" "first_choice" s31 (a.f 31) (a.d 31)
  F32 : Fun K "least_without_news" "least_without_news" s32 (a.f 32) (a.d 32)
  F33 : Fun K "least_when_known" "least_when_known" s33 (a.f 33) (a.d 33)
  F41 : Fun K "__init__" "Refused.__init__" s41 (a.f 41) (a.d 41)
  F42 : Fun K "want" "want" s42 (a.f 42) (a.d 42)
  F43 : Fun K "wanted" "wanted" s43 (a.f 43) (a.d 43)
  F51 : Fun K "__init__" "Desk.__init__" s51 (a.f 51) (a.d 51)
  F52 : Fun K "want_places" "Desk.want_places" s52 (a.f 52) (a.d 52)
  F53 : Fun K "call_begins" "Desk.call_begins" s53 (a.f 53) (a.d 53)
  F54 : Fun K "call_road" "Desk.call_road" s54 (a.f 54) (a.d 54)
  F55 : Fun K "call_may" "Desk.call_may" s55 (a.f 55) (a.d 55)
  F56 : Fun K "call_news" "Desk.call_news" s56 (a.f 56) (a.d 56)
  F57 : Fun K "call_far" "Desk.call_far" s57 (a.f 57) (a.d 57)
  F58 : Fun K "call_worst" "Desk.call_worst" s58 (a.f 58) (a.d 58)
  F59 : Fun K "called" "Desk.called" s59 (a.f 59) (a.d 59)
  F60 : Fun K "answered" "Desk.answered" s60 (a.f 60) (a.d 60)
  F61 : Fun K "answers" "answers" s61 (a.f 61) (a.d 61)
  g1 : mg "standing" = some (.ref (a.f 1))
  g2 : mg "lesser" = some (.ref (a.f 2))
  g3 : mg "together" = some (.ref (a.f 3))
  g4 : mg "by_roads" = some (.ref (a.f 4))
  g5 : mg "by_way_of" = some (.ref (a.f 5))
  g6 : mg "drives_of" = some (.ref (a.f 6))
  M12 : Meth K a.cCh "has" (a.f 12)
  M13 : Meth K a.cCh "table" (a.f 13)
  M14 : Meth K a.cCh "least_minute" (a.f 14)
  g9 : mg "members" = some (.ref (a.f 9))
  g10 : mg "parted" = some (.ref (a.f 10))
  M22 : Meth K a.cSe "in_time" (a.f 22)
  M23 : Meth K a.cSe "late_from" (a.f 23)
  M24 : Meth K a.cSe "last_choices" (a.f 24)
  M25 : Meth K a.cSe "late_behind" (a.f 25)
  M26 : Meth K a.cSe "news_choices" (a.f 26)
  M27 : Meth K a.cSe "since" (a.f 27)
  M28 : Meth K a.cSe "choices" (a.f 28)
  M29 : Meth K a.cSe "least" (a.f 29)
  g31 : mg "first_choice" = some (.ref (a.f 31))
  g32 : mg "least_without_news" = some (.ref (a.f 32))
  g33 : mg "least_when_known" = some (.ref (a.f 33))
  g42 : mg "want" = some (.ref (a.f 42))
  g43 : mg "wanted" = some (.ref (a.f 43))
  M52 : Meth K a.cDe "want_places" (a.f 52)
  M53 : Meth K a.cDe "call_begins" (a.f 53)
  M54 : Meth K a.cDe "call_road" (a.f 54)
  M55 : Meth K a.cDe "call_may" (a.f 55)
  M56 : Meth K a.cDe "call_news" (a.f 56)
  M57 : Meth K a.cDe "call_far" (a.f 57)
  M58 : Meth K a.cDe "call_worst" (a.f 58)
  M59 : Meth K a.cDe "called" (a.f 59)
  M60 : Meth K a.cDe "answered" (a.f 60)
  g61 : mg "answers" = some (.ref (a.f 61))
  lCh : Cls K a.cCh
  kCh : Mk K a.cCh (a.f 11)
  gCh : mg "Chase" = some (.ref a.cCh)
  nCh_places : NoAttr K a.cCh "places"
  nCh_car : NoAttr K a.cCh "car"
  nCh_minute : NoAttr K a.cCh "minute"
  nCh_roads : NoAttr K a.cCh "roads"
  nCh_may : NoAttr K a.cCh "may"
  nCh_news : NoAttr K a.cCh "news"
  lSe : Cls K a.cSe
  kSe : Mk K a.cSe (a.f 21)
  gSe : mg "Search" = some (.ref a.cSe)
  nSe_chase : NoAttr K a.cSe "chase"
  nSe_drives : NoAttr K a.cSe "drives"
  nSe_found : NoAttr K a.cSe "found"
  lDe : Cls K a.cDe
  kDe : Mk K a.cDe (a.f 51)
  gDe : mg "Desk" = some (.ref a.cDe)
  nDe_own : NoAttr K a.cDe "own"
  b_range : mg "range" = none
  b_len : mg "len" = none
  b_int : mg "int" = none
  b_list : mg "list" = none
  b_max : mg "max" = none
  b_min : mg "min" = none
  b_tuple : mg "tuple" = none
  b_ValueError : mg "ValueError" = none
  c_NOT_TOLD : ∃ t, mg "NOT_TOLD" = some (.int (-1) t)
  c_NO_PLACE : ∃ t, mg "NO_PLACE" = some (.int (-2) t)
  c_BOTH_SAME : ∃ t, mg "BOTH_SAME" = some (.int (-4) t)
  c_FULL : ∃ t, mg "FULL" = some (.int (-5) t)
  c_CANNOT_BE : ∃ t, mg "CANNOT_BE" = some (.int (-6) t)
  c_MOST_PLACES : ∃ t, mg "MOST_PLACES" = some (.int (6) t)
  c_MOST_MINUTES : ∃ t, mg "MOST_MINUTES" = some (.int (1000) t)
  c_MOST_ROADS : ∃ t, mg "MOST_ROADS" = some (.int (12) t)
  c_MOST_NEWS : ∃ t, mg "MOST_NEWS" = some (.int (3) t)
  oRe : OexC K a.cRe
  xRe : XfC K a.cRe
  iRe : PySem.W.findIn K (.ref a.cRe) "__init__" = some (some (.ref (a.f 41)))
  tRe : PySem.W.typeIn K (.ref (a.f 41)) = some (.type "function")
  nRe : PySem.W.findIn K (.ref a.cRe) "told" = some none
  vRe : PySem.W.findCls K (.type "ValueError") (.type "type") "__init__" = some (.val (.builtin "ValueError.__init__"))
  eRe : PySem.W.exmOne K (.ref a.cRe) (.ref a.cRe) = some true
  gRe : mg "Refused" = some (.ref a.cRe)
section
variable {K : PySem.W.Frag} {mg : Str → Option Value} {a : Ads}
theorem b1 (T : Txt K mg a) : Binds K (a.d 1) ["places"] [] := T.F1.binds fun _ _ _ _ _ _ us hl => match us, hl with | [_], _ => rfl
theorem b2 (T : Txt K mg a) : Binds K (a.d 2) ["one", "other"] [] := T.F2.binds fun _ _ _ _ _ _ us hl => match us, hl with | [_, _], _ => rfl
theorem b3 (T : Txt K mg a) : Binds K (a.d 3) ["one", "other"] [] := T.F3.binds fun _ _ _ _ _ _ us hl => match us, hl with | [_, _], _ => rfl
theorem b4 (T : Txt K mg a) : Binds K (a.d 4) ["places", "roads"] [] := T.F4.binds fun _ _ _ _ _ _ us hl => match us, hl with | [_, _], _ => rfl
theorem b5 (T : Txt K mg a) : Binds K (a.d 5) ["table", "between"] [] := T.F5.binds fun _ _ _ _ _ _ us hl => match us, hl with | [_, _], _ => rfl
theorem b6 (T : Txt K mg a) : Binds K (a.d 6) ["places", "roads"] [] := T.F6.binds fun _ _ _ _ _ _ us hl => match us, hl with | [_, _], _ => rfl
theorem b11 (T : Txt K mg a) : Binds K (a.d 11) ["self", "places", "car", "minute"] [] := T.F11.binds fun _ _ _ _ _ _ us hl => match us, hl with | [_, _, _, _], _ => rfl
theorem b12 (T : Txt K mg a) : Binds K (a.d 12) ["self", "place"] [] := T.F12.binds fun _ _ _ _ _ _ us hl => match us, hl with | [_, _], _ => rfl
theorem b13 (T : Txt K mg a) : Binds K (a.d 13) ["self"] [] := T.F13.binds fun _ _ _ _ _ _ us hl => match us, hl with | [_], _ => rfl
theorem b14 (T : Txt K mg a) : Binds K (a.d 14) ["self"] [] := T.F14.binds fun _ _ _ _ _ _ us hl => match us, hl with | [_], _ => rfl
theorem b9 (T : Txt K mg a) : Binds K (a.d 9) ["number"] [] := T.F9.binds fun _ _ _ _ _ _ us hl => match us, hl with | [_], _ => rfl
theorem b10 (T : Txt K mg a) : Binds K (a.d 10) ["some", "parts"] [] := T.F10.binds fun _ _ _ _ _ _ us hl => match us, hl with | [_, _], _ => rfl
theorem b21 (T : Txt K mg a) : Binds K (a.d 21) ["self", "chase"] [] := T.F21.binds fun _ _ _ _ _ _ us hl => match us, hl with | [_, _], _ => rfl
theorem b22 (T : Txt K mg a) : Binds K (a.d 22) ["self", "begin", "since", "until"] [] := T.F22.binds fun _ _ _ _ _ _ us hl => match us, hl with | [_, _, _, _], _ => rfl
theorem b23 (T : Txt K mg a) : Binds K (a.d 23) ["self", "place", "some"] [] := T.F23.binds fun _ _ _ _ _ _ us hl => match us, hl with | [_, _, _], _ => rfl
theorem b24 (T : Txt K mg a) : Binds K (a.d 24) ["self", "begin", "since", "some"] [] := T.F24.binds fun _ _ _ _ _ _ us hl => match us, hl with | [_, _, _, _], _ => rfl
theorem b25 (T : Txt K mg a) : Binds K (a.d 25) ["self", "place", "which", "some"] [] := T.F25.binds fun _ _ _ _ _ _ us hl => match us, hl with | [_, _, _, _], _ => rfl
theorem b26 (T : Txt K mg a) : Binds K (a.d 26) ["self", "begin", "since", "gone", "some"] [] := T.F26.binds fun _ _ _ _ _ _ us hl => match us, hl with | [_, _, _, _, _], _ => rfl
theorem b27 (T : Txt K mg a) : Binds K (a.d 27) ["self", "gone"] [] := T.F27.binds fun _ _ _ _ _ _ us hl => match us, hl with | [_, _], _ => rfl
theorem b28 (T : Txt K mg a) : Binds K (a.d 28) ["self", "begin", "gone", "some"] [] := T.F28.binds fun _ _ _ _ _ _ us hl => match us, hl with | [_, _, _, _], _ => rfl
theorem b29 (T : Txt K mg a) : Binds K (a.d 29) ["self", "begin", "gone", "some"] [] := T.F29.binds fun _ _ _ _ _ _ us hl => match us, hl with | [_, _, _, _], _ => rfl
theorem b31 (T : Txt K mg a) : Binds K (a.d 31) ["chase"] [] := T.F31.binds fun _ _ _ _ _ _ us hl => match us, hl with | [_], _ => rfl
theorem b32 (T : Txt K mg a) : Binds K (a.d 32) ["chase"] [] := T.F32.binds fun _ _ _ _ _ _ us hl => match us, hl with | [_], _ => rfl
theorem b33 (T : Txt K mg a) : Binds K (a.d 33) ["chase"] [] := T.F33.binds fun _ _ _ _ _ _ us hl => match us, hl with | [_], _ => rfl
theorem b41 (T : Txt K mg a) : Binds K (a.d 41) ["self", "told"] [] := T.F41.binds fun _ _ _ _ _ _ us hl => match us, hl with | [_, _], _ => rfl
theorem b42 (T : Txt K mg a) : Binds K (a.d 42) ["truth", "number"] [] := T.F42.binds fun _ _ _ _ _ _ us hl => match us, hl with | [_, _], _ => rfl
theorem b43 (T : Txt K mg a) : Binds K (a.d 43) ["found"] [] := T.F43.binds fun _ _ _ _ _ _ us hl => match us, hl with | [_], _ => rfl
theorem b51 (T : Txt K mg a) : Binds K (a.d 51) ["self"] [] := T.F51.binds fun _ _ _ _ _ _ us hl => match us, hl with | [_], _ => rfl
theorem b52 (T : Txt K mg a) : Binds K (a.d 52) ["self", "place", "other"] [] := T.F52.binds fun _ _ _ _ _ _ us hl => match us, hl with | [_, _, _], _ => rfl
theorem b53 (T : Txt K mg a) : Binds K (a.d 53) ["self", "places", "car", "minute"] [] := T.F53.binds fun _ _ _ _ _ _ us hl => match us, hl with | [_, _, _, _], _ => rfl
theorem b54 (T : Txt K mg a) : Binds K (a.d 54) ["self", "place", "other", "minutes"] [] := T.F54.binds fun _ _ _ _ _ _ us hl => match us, hl with | [_, _, _, _], _ => rfl
theorem b55 (T : Txt K mg a) : Binds K (a.d 55) ["self", "number"] [] := T.F55.binds fun _ _ _ _ _ _ us hl => match us, hl with | [_, _], _ => rfl
theorem b56 (T : Txt K mg a) : Binds K (a.d 56) ["self", "minute", "parts"] [] := T.F56.binds fun _ _ _ _ _ _ us hl => match us, hl with | [_, _, _], _ => rfl
theorem b57 (T : Txt K mg a) : Binds K (a.d 57) ["self", "place", "other"] [] := T.F57.binds fun _ _ _ _ _ _ us hl => match us, hl with | [_, _, _], _ => rfl
theorem b58 (T : Txt K mg a) : Binds K (a.d 58) ["self"] [] := T.F58.binds fun _ _ _ _ _ _ us hl => match us, hl with | [_], _ => rfl
theorem b59 (T : Txt K mg a) : Binds K (a.d 59) ["self", "call", "plain"] [] := T.F59.binds fun _ _ _ _ _ _ us hl => match us, hl with | [_, _, _], _ => rfl
theorem b60 (T : Txt K mg a) : Binds K (a.d 60) ["self", "call", "plain"] [] := T.F60.binds fun _ _ _ _ _ _ us hl => match us, hl with | [_, _, _], _ => rfl
theorem b61 (T : Txt K mg a) : Binds K (a.d 61) ["calls"] [] := T.F61.binds fun _ _ _ _ _ _ us hl => match us, hl with | [_], _ => rfl
end
end RB
end
section
namespace RB
open PySem PySem.Spec PyProof.Rows L2
def vO : Option Nat → V
  | none => .non
  | some n => vI n
theorem vO_none {o : Option Nat} : vO o = .non ↔ o = none := by
  cases o with
  | none => exact ⟨fun _ => rfl, fun _ => rfl⟩
  | some n => exact ⟨fun h => (by cases h), fun h => (by cases h)⟩
theorem small7 {n : Nat} (h : n ≤ 100000) : n < sizeLine := Nat.lt_of_le_of_lt h (by decide)
theorem small7' {n : Nat} (h : n ≤ 100000) : n ≤ sizeLine := Nat.le_of_lt (small7 h)
/-! ### heaps -/
theorem same_new {H : Hp} {p : Addr} {o : HO} (h : H p = none) : Same H (upd H p o) := fun b u e => by rw [upd_ne (ne_of_none e h)]; exact e
theorem same_upd {H H1 : Hp} {p : Addr} {o : HO} (s : Same H H1) (h : H p = none) : Same H (upd H1 p o) := fun b u e => by rw [upd_ne (ne_of_none e h)]; exact s b u e
/-- all but d stands -/
def But (d : Addr) (H H' : Hp) : Prop := ∀ b o, b ≠ d → H b = some o → H' b = some o
theorem Same.but {H H' : Hp} (d : Addr) (s : Same H H') : But d H H' := fun b o _ e => s b o e
theorem But.refl (d : Addr) (H : Hp) : But d H H := fun _ _ _ e => e
theorem But.trans {d : Addr} {H H1 H2 : Hp} (a : But d H H1) (b : But d H1 H2) : But d H H2 := fun c o n e => b c o n (a c o n e)
theorem paired_imp {α β : Type} {F G : α → β → Prop} : ∀ {l : List α} {m : List β}, Paired F l m → (∀ a b, F a b → G a b) → Paired G l m
  | _, _, .nil, _ => .nil
  | _, _, .cons r t, f => .cons (f _ _ r) (paired_imp t f)
theorem paired_len {α β : Type} {F : α → β → Prop} : ∀ {l : List α} {m : List β}, Paired F l m → l.length = m.length
  | _, _, .nil => rfl
  | _, _, .cons _ t => by rw [List.length_cons, List.length_cons, paired_len t]
theorem paired_app {α β : Type} {F : α → β → Prop} : ∀ {l l' : List α} {m m' : List β}, Paired F l m → Paired F l' m' → Paired F (l ++ l') (m ++ m')
  | _, _, _, _, .nil, h => h
  | _, _, _, _, .cons r t, h => .cons r (paired_app t h)
theorem paired_imp_mem {α β : Type} {F G : α → β → Prop} : ∀ {l : List α} {m : List β}, Paired F l m → (∀ a b, a ∈ l → F a b → G a b) → Paired G l m
  | _, _, .nil, _ => .nil
  | _, _, .cons r t, f => .cons (f _ _ List.mem_cons_self r) (paired_imp_mem t fun a b h => f a b (List.mem_cons_of_mem _ h))
/-! ### tables -/
abbrev RowsAt (H : Hp) (rows : List Addr) (t : Tb) : Prop := Paired (fun r (row : List (Option Nat)) => H r = some (.lst (row.map vO))) rows t
def TableAt (H : Hp) (p : Addr) (t : Tb) : Prop := ∃ rows : List Addr, H p = some (.lst (rows.map V.ref)) ∧ RowsAt H rows t
theorem TableAt.same {H H' : Hp} {p : Addr} {t : Tb} (s : Same H H') (h : TableAt H p t) : TableAt H' p t := by
  obtain ⟨rows, h1, h2⟩ := h
  exact ⟨rows, s _ _ h1, paired_imp h2 fun _ _ e => s _ _ e⟩
theorem ne_memO {P : Program} {w : World} {H : Hp} {d b : Addr} {xs : KX} {o : HO} (h : H d = some (memO P w d xs)) (e : H b = some o) (n : memO P w d xs ≠ o) : b ≠ d := fun z => by
  rw [z, h] at e
  exact n (Option.some.inj e)
/-- a row of a table -/
theorem TableAt.row {H : Hp} {p : Addr} {t : Tb} {n : Nat} (h : TableAt H p t) (hs : Sq n t) {i : Nat} (hi : i < n) : ∃ (rows : List Addr) (r : Addr), H p = some (.lst (rows.map V.ref)) ∧ (rows.map V.ref)[i]? = some (V.ref r) ∧ H r = some (.lst ((t.getD i []).map vO)) := by
  obtain ⟨rows, h1, h2⟩ := h
  obtain ⟨r, e, hr⟩ := paired_at' h2 (getD_mem hs hi).2.1
  exact ⟨rows, r, h1, by rw [List.getElem?_map, e]; rfl, hr⟩
theorem row_at {n : Nat} {t : Tb} (hs : Sq n t) {i j : Nat} (hi : i < n) (hj : j < n) : ((t.getD i []).map vO)[j]? = some (vO (Si94.far t i j)) := by
  have hl := (getD_mem hs hi).2.2
  rw [List.getElem?_map, getD_at none (by omega)]
  rfl
/-- scope of a comprehension -/
def lcScope : Expr → Scope
  | .ListComp _ _ sc _ => sc
  | _ => { kind := .function, names := [], isGenerator := false, isCoroutine := false }
def retE : Stmt → Expr
  | .Return (some e) _ => e
  | _ => .Constant .none 0 ⟨0, 0, 0, 0⟩
end RB
end
section
namespace RB
open PySem PySem.Spec PyProof.Rows L2
section
variable {P : Program} {w : World} {K : PySem.W.Frag} {mg : Str → Option Value} {base : Heap} {a : Ads}
/-! ### lesser, together -/
def spLesser : Sp := fun vs H Q _ => ∃ x y, vs = [vO x, vO y] ∧ Q (vO (lessO x y)) H
theorem ok2 (T : Txt K mg a) : FnOk P w K mg base CX0 1 (a.f 2) (a.d 2) ["one", "other"] spLesser := by
  refine T.F2.ok sc2 (fun vs H Q E h => ?_) (fun cdv A outer s H vs Q E hr h => ?_)
  · obtain ⟨x, y, rfl, _⟩ := h
    rfl
  · refine ⟨_, pss_cons (ps_if (PW.pt (pw_or (pt_cmp (pc_isN (pv 0))) (pw_or1 (PW.pt (pw_and (pt_cmp (pc_notN (pv 1))) (pw_and1 (pt_cmpR op_lt (pv 1) (pv 0) (nomark _)))))))) (pss_one (ps_ret (pv 1))) pss_nil)
      (pss_one (ps_ret (pv 0))), ?_⟩
    obtain ⟨x, y, rfl, k⟩ := h
    cases x with
    | none => exact ⟨_, rfl, _, rfl, iteT (iteT ⟨_, rfl, k⟩)⟩
    | some x =>
      cases y with
      | none => exact ⟨_, rfl, _, rfl, iteF ⟨_, rfl, _, rfl, iteF (iteF ⟨_, rfl, k⟩)⟩⟩
      | some y =>
        refine ⟨_, rfl, _, rfl, iteF ⟨_, rfl, _, rfl, iteT ⟨_, rfl, _, rfl, _, _, rfl, rfl, _, rfl, ?_⟩⟩⟩
        by_cases c : y < x
        · refine if_true_of (decide_eq_true (by omega)) ⟨_, rfl, ?_⟩
          have e : lessO (some x) (some y) = some y := if_pos c
          rw [e] at k
          exact k
        · refine if_false_of (decide_eq_false (by omega)) ⟨_, rfl, ?_⟩
          have e : lessO (some x) (some y) = some x := if_neg c
          rw [e] at k
          exact k
def spTogether : Sp := fun vs H Q _ => ∃ x y, vs = [vO x, vO y] ∧ Q (vO (addO x y)) H
theorem ok3 (T : Txt K mg a) : FnOk P w K mg base CX0 1 (a.f 3) (a.d 3) ["one", "other"] spTogether := by
  refine T.F3.ok sc3 (fun vs H Q E h => ?_) (fun cdv A outer s H vs Q E hr h => ?_)
  · obtain ⟨x, y, rfl, _⟩ := h
    rfl
  · refine ⟨_, pss_cons (ps_if (PW.pt (pw_or (pt_cmp (pc_isN (pv 0))) (pw_or1 (pt_cmp (pc_isN (pv 1)))))) (pss_one (ps_ret pe_non)) pss_nil)
      (pss_one (ps_ret (pe_op op_add (pv 0) (pv 1)))), ?_⟩
    obtain ⟨x, y, rfl, k⟩ := h
    cases x with
    | none => exact ⟨_, rfl, _, rfl, iteT (iteT k)⟩
    | some x =>
      cases y with
      | none => exact ⟨_, rfl, _, rfl, iteF ⟨_, rfl, _, rfl, iteT k⟩⟩
      | some y => exact ⟨_, rfl, _, rfl, iteF ⟨_, rfl, _, rfl, iteF ⟨_, rfl, _, rfl, _, _, rfl, rfl, k⟩⟩⟩
end
end RB
end
section
namespace RB
open PySem PySem.Spec PyProof.Rows L2
section
variable {P : Program} {w : World} {K : PySem.W.Frag} {mg : Str → Option Value} {base : Heap} {a : Ads}
/-! ### standing -/
/-- a new table: its rows are new, each by itself -/
def TableNew (H H' : Hp) (p : Addr) (t : Tb) : Prop := H p = none ∧ ∃ rows : List Addr, H' p = some (.lst (rows.map V.ref)) ∧ RowsAt H' rows t ∧ (∀ r ∈ rows, H r = none ∧ r ≠ p) ∧ rows.Nodup
theorem TableNew.at_ {H H' : Hp} {p : Addr} {t : Tb} (h : TableNew H H' p t) : TableAt H' p t := by
  obtain ⟨_, rows, h1, h2, _⟩ := h
  exact ⟨rows, h1, h2⟩
def spStanding : Sp := fun vs H Q _ => ∃ n : Nat, vs = [vI n] ∧ n ≤ 6 ∧ ∀ H' p, Same H H' → TableNew H H' p (stand n) → Q (.ref p) H'
def standRow (n a : Nat) : List (Option Nat) := (List.range n).map fun b => if a = b then some 0 else none
theorem range_snoc {α : Type} (f : Nat → α) (i : Nat) : (List.range (i + 1)).map f = (List.range i).map f ++ [f i] := by
  rw [List.range_succ, List.map_append]
  rfl
theorem ok1 (T : Txt K mg a) : FnOk P w K mg base CX0 1 (a.f 1) (a.d 1) ["places"] spStanding := by
  refine T.F1.ok sc1 (fun vs H Q E h => ?_) (fun cdv A outer s H vs Q E hr h => ?_)
  · obtain ⟨n, rfl, _⟩ := h
    rfl
  · refine ⟨_, pss_one (ps_ret (pe_lc (own := [("one", 1)]) (g := gName 1) (tt := tYes) rfl sc1.nd (pi_range1 (by rfl) T.b_range (pa_cons (pv 0) pa_nil)) (blkOk_by (N := N1) (sc := defScope s1) (by decide +kernel))
      (fun _ _ _ _ _ => pg_name (i := 1) sc1.nd rfl (Or.inr rfl)) (fun _ _ _ _ _ => pts_nil)
      (fun _ _ _ _ _ => pe_lc (own := [("other", 2)]) (g := gName 2) (tt := tYes) rfl sc1.nd (pi_range1 (by rfl) T.b_range (pa_cons (pv 0) pa_nil))
        (blkOk_by (N := N1) (sc := relS (lcScope (retE ((defBody s1).getD 0 (.Pass ⟨0, 0, 0, 0⟩)))) (defScope s1)) (by decide +kernel))
        (fun _ _ _ _ _ => pg_name (i := 2) sc1.nd rfl (Or.inl rfl)) (fun _ _ _ _ _ => pts_nil)
        (fun _ _ _ _ _ => pe_ix (r := rIxL K) ix_list (pe_lst (pa_cons pe_non (pa_cons pe_int pa_nil))) (pe_callTy call_int1 (by rfl) T.b_int (by decide +kernel) (pa_cons (pe_cmpR op_eq (pv 1) (pv 2) (nomark _)) pa_nil)) (fun _ _ => rfl))))), ?_⟩
    obtain ⟨n, rfl, hn, k⟩ := h
    refine ⟨_, rfl, _, rfl, by omega, by omega, fun D hD => lc_range (lo := 0) (n := n) (fun i H' => Same H H' ∧ ∃ rows : List Addr, H' D = some (.lst (rows.map V.ref)) ∧ RowsAt H' rows ((List.range i).map (standRow n)) ∧ (∀ r ∈ rows, H r = none ∧ r ≠ D) ∧ rows.Nodup)
      ⟨same_new hD, [], upd_same, .nil, fun r hr => by simp at hr, List.nodup_nil⟩ (fun i H1 hi ⟨s1, rows, h1, h2, h3, h4⟩ => ?_) (fun H1 ⟨s1, rows, h1, h2, h3, h4⟩ => k _ D s1 ⟨hD, rows, h1, h2, h3, h4⟩)⟩
    refine ⟨rfl, _, rfl, _, rfl, by omega, by omega, fun D2 hD2 => lc_range (lo := 0) (n := n) (fun j H' => Same H1 H' ∧ H' D2 = some (.lst (((List.range j).map fun b => if i = b then some 0 else none).map vO)))
      ⟨same_new hD2, upd_same⟩ (fun j H2 hj ⟨s2, e2⟩ => ?_) (fun H2 ⟨s2, e2⟩ => ?_)⟩
    · refine ⟨rfl, by decide, fun p hp => ⟨_, rfl, _, rfl, rfl, .inr ⟨_, rfl, ?_⟩⟩⟩
      have nD : D2 ≠ p := ne_of_none e2 hp
      refine ⟨p, _, _, vO (if i = j then some 0 else none), rfl, rfl, SqL.of upd_same, ?_, _, (by rw [upd_ne nD]; exact e2), ?_, same_upd (same_upd s2 (s2.free hp)) hD2, ?_⟩
      · by_cases c : i = j
        · subst c
          rw [if_pos rfl]
          simp
          rfl
        · rw [if_neg c]
          have : decide (V.int (0 + (i : Int)) = V.int (0 + (j : Int))) = false := decide_eq_false fun e => c (by
            have := V.int.inj e
            omega)
          show atI [V.non, V.int 0] (if decide (V.int (0 + (i : Int)) = V.int (0 + (j : Int))) = true then 1 else 0) = some .non
          rw [this]
          rfl
      · rw [List.length_map, List.length_map, List.length_range]
        exact small7 (by omega)
      · rw [upd_same, range_snoc, List.map_append]
        rfl
    · refine ⟨_, s2 _ _ h1, by rw [List.length_map, paired_len h2, List.length_map, List.length_range]; exact small7 (by omega), same_upd (s1.trans s2) hD, rows ++ [D2], by rw [upd_same, List.map_append]; rfl, ?_, fun r hr => ?_, ?_⟩
      · rw [range_snoc]
        refine paired_app (paired_imp_mem h2 fun r row hr e => ?_) (.cons ?_ .nil)
        · rw [upd_ne (h3 r hr).2]
          exact s2 _ _ e
        · rw [upd_ne (Ne.symm (ne_of_none h1 hD2))]
          exact e2
      · rcases List.mem_append.mp hr with hr | hr
        · exact h3 r hr
        · rw [List.mem_singleton.mp hr]
          exact ⟨s1.free hD2, Ne.symm (ne_of_none h1 hD2)⟩
      · refine List.nodup_append.mpr ⟨h4, by simp, fun x hx y hy => ?_⟩
        rw [List.mem_singleton.mp hy]
        obtain ⟨i', hi'⟩ := List.getElem?_of_mem hx
        obtain ⟨row, _, e⟩ := paired_at h2 hi'
        exact ne_of_none e hD2
end
end RB
end
section
namespace RB
open PySem PySem.Spec PyProof.Rows L2
theorem ixN_nat {n j : Nat} (h : j < n) : ixN n (j : Int) = some j := by
  unfold ixN
  rw [if_pos (by omega), if_pos (by omega)]
  rfl
theorem rows_set {H : Hp} {v : Option Nat} {b : Nat} : ∀ {rows : List Addr} {t : Tb} {i : Nat} {ra : Addr} {row : List (Option Nat)}, RowsAt H rows t → rows.Nodup → rows[i]? = some ra → t[i]? = some row →
    RowsAt (upd H ra (.lst ((row.map vO).set b (vO v)))) rows (t.set i (row.set b v))
  | _, _, i, ra, row, .nil, _, h, _ => by simp at h
  | _, _, 0, ra, row, .cons (a := r0) (b := t0) (l₁ := rs) (l₂ := ts) h1 h2, nd, e1, e2 => by
    have e1 : r0 = ra := by simpa using e1
    have e2 : t0 = row := by simpa using e2
    subst e1
    subst e2
    obtain ⟨n1, n2⟩ := List.nodup_cons.mp nd
    refine .cons (by rw [upd_same, List.map_set]) (paired_imp_mem h2 fun r t hr e => ?_)
    rw [upd_ne (fun z => n1 (by rw [← z]; exact hr))]
    exact e
  | _, _, i + 1, ra, row, .cons (a := r0) (b := t0) (l₁ := rs) (l₂ := ts) h1 h2, nd, e1, e2 => by
    obtain ⟨n1, n2⟩ := List.nodup_cons.mp nd
    have e1 : rs[i]? = some ra := by simpa using e1
    have e2 : ts[i]? = some row := by simpa using e2
    have hm := List.mem_of_getElem? e1
    refine .cons ?_ (rows_set h2 n2 e1 e2)
    rw [upd_ne (fun z => n1 (by rw [z]; exact hm))]
    exact h1
section
variable {P : Program} {w : World} {K : PySem.W.Frag} {mg : Str → Option Value} {base : Heap} {a : Ads}
/-! ### by_roads -/
/-- the tuples of the roads -/
def RoadsAt (H : Hp) (r : Addr) (rs : List (Nat × Nat × Nat)) : Prop := ∃ ts : List Addr, H r = some (.lst (ts.map V.ref)) ∧ Tris H ts rs
def spByRoads : Sp := fun vs H Q _ => ∃ (n : Nat) (r : Addr) (rs : List (Nat × Nat × Nat)), vs = [vI n, .ref r] ∧ n ≤ 6 ∧ RoadsAt H r rs ∧ Rds n rs ∧ ∀ H' p, Same H H' → TableAt H' p (byRoads n rs) → Q (.ref p) H'
theorem sq_fold {n : Nat} : ∀ {rs : List (Nat × Nat × Nat)} {t : Tb}, Rds n rs → Sq n t → Sq n (rs.foldl road1 t)
  | [], _, _, h => h
  | r :: rs, t, hr, h => sq_fold (rs := rs) (t := road1 t r) (fun x hx => hr x (List.mem_cons_of_mem _ hx)) (sq_road1 h (hr r List.mem_cons_self).1 (hr r List.mem_cons_self).2.1)
theorem take_snoc {α : Type} {l : List α} {i : Nat} {x : α} (h : l[i]? = some x) : l.take (i + 1) = l.take i ++ [x] := by
  rw [List.take_add_one, h]
  rfl
/-- one store: table[x][y] = lesser(table[x][y], m) -/
theorem ok4 (T : Txt K mg a) : FnOk P w K mg base CX0 2 (a.f 4) (a.d 4) ["places", "roads"] spByRoads := by
  have G1 : FnOk P w K mg base CX0 1 (a.f 1) (a.d 1) ["places"] spStanding := ok1 T
  have G2 : FnOk P w K mg base CX0 1 (a.f 2) (a.d 2) ["one", "other"] spLesser := ok2 T
  refine T.F4.ok sc4 (fun vs H Q E h => ?_) (fun cdv A outer s H vs Q E hr h => ?_)
  · obtain ⟨n, r, rs, rfl, _⟩ := h
    rfl
  · refine ⟨_, pss_cons (ps_set (i := 2) sc4.nd rfl (Or.inl rfl) (pe_call G1 hr (by rfl) T.g1 T.F1.kp (b1 T) .nil pass0 (pa_cons (pv 0) pa_nil)))
      (pss_cons (ps_for PassesOwn.never rfl (pi_list (pv 1)) (pg_tup rfl (pgs_cons (pg_name (i := 3) sc4.nd rfl (Or.inl rfl)) (pgs_cons (pg_name (i := 4) sc4.nd rfl (Or.inl rfl)) (pgs_cons (pg_name (i := 5) sc4.nd rfl (Or.inl rfl)) pgs_nil))))
        (pss_cons (ps_asg (pe_call G2 hr (by rfl) T.g2 T.F2.kp (b2 T) .nil pass0 (pa_cons (pe_ix ix_list (pe_ix ix_list (pv 2) (pv 3) (fun _ _ => rfl)) (pv 4) (fun _ _ => rfl)) (pa_cons (pv 5) pa_nil)))
            (pg_sub (pe_ix ix_list (pv 2) (pv 3) (fun _ _ => rfl)) (pv 4) set_list))
        (pss_one (ps_asg (pe_call G2 hr (by rfl) T.g2 T.F2.kp (b2 T) .nil pass0 (pa_cons (pe_ix ix_list (pe_ix ix_list (pv 2) (pv 4) (fun _ _ => rfl)) (pv 3) (fun _ _ => rfl)) (pa_cons (pv 5) pa_nil)))
            (pg_sub (pe_ix ix_list (pv 2) (pv 4) (fun _ _ => rfl)) (pv 3) set_list)))))
      (pss_one (ps_ret (pv 2)))), ?_⟩
    obtain ⟨n, r, rs, rfl, hn, ⟨ts, h1, h2⟩, hrd, k⟩ := h
    refine ⟨_, rfl, n, rfl, hn, fun H1 p s1 ⟨hp, rows, t1, t2, t3, t4⟩ => ?_⟩
    refine ⟨_, rfl, r, rfl, ⟨_, SqL.of (s1 _ _ h1)⟩, for_list (K := K) (a := r) (xs := ts.map V.ref)
      (fun i σ H' => ∃ v3 v4 v5, σ = [some (vI n), some (.ref r), some (.ref p), v3, v4, v5] ∧ Same H H' ∧ H' p = some (.lst (rows.map V.ref)) ∧ RowsAt H' rows ((rs.take i).foldl road1 (stand n)))
      ⟨none, none, none, rfl, s1, t1, t2⟩ (fun i σ H' _ ⟨_, _, _, _, s5, _⟩ => SqL.of (s5 _ _ h1)) ?_ ?_⟩
    · rintro i x σ H' hi ⟨v3, v4, v5, rfl, s5, e5, r5⟩
      rw [List.getElem?_map] at hi
      cases et : ts[i]? with
      | none => rw [et] at hi; cases hi
      | some t =>
        rw [et] at hi
        obtain rfl : V.ref t = x := Option.some.inj hi
        obtain ⟨⟨x1, x2, m⟩, ex, hx⟩ := paired_at h2 et
        obtain ⟨g1, g2, g3, g4⟩ := hrd _ (List.mem_of_getElem? ex)
        dsimp only at g1 g2 g3 g4
        have hs : Sq n ((rs.take i).foldl road1 (stand n)) := sq_fold (fun r hr => hrd r (List.mem_of_mem_take hr)) (sq_stand n)
        rw [take_snoc ex, List.foldl_append]
        generalize (rs.take i).foldl road1 (stand n) = tb at hs r5
        obtain ⟨ra, ea, ha⟩ := paired_at' r5 (getD_mem hs g1).2.1
        have mra := List.mem_of_getElem? ea
        have lr := (getD_mem hs g1).2.2
        refine ⟨t, _, rfl, SqT.of (s5 _ _ hx), rfl, _, _, rfl, _, _, rfl, _, _, rfl, rfl, ?_⟩
        -- table[one][other] = lesser(table[one][other], minutes)
        refine ⟨_, rfl, _, rfl, p, _, _, .ref ra, rfl, rfl, SqL.of e5, atI_nat (by rw [List.getElem?_map, ea]; rfl), _, rfl, ra, _, _, vO (Si94.far tb x1 x2), rfl, rfl, SqL.of ha, atI_nat (row_at hs g1 g2), _, rfl, _, some m, rfl, ?_⟩
        refine ⟨_, rfl, _, rfl, p, _, _, .ref ra, rfl, rfl, SqL.of e5, atI_nat (by rw [List.getElem?_map, ea]; rfl), _, rfl, ra, _, _, x2, rfl, rfl, ha, ixN_nat (by rw [List.length_map, lr]; exact g2), ?_⟩
        have r6 := rows_set (b := x2) (v := lessO (Si94.far tb x1 x2) (some m)) r5 t4 ea (getD_mem hs g1).2.1
        have q1 : set2 tb x1 x2 (lessO (Si94.far tb x1 x2) (some m)) = tb.set x1 ((tb.getD x1 []).set x2 (lessO (Si94.far tb x1 x2) (some m))) := rfl
        have hs2 := sq_set2 hs g1 x2 (lessO (Si94.far tb x1 x2) (some m))
        rw [← q1] at r6
        have e6 : (upd H' ra (.lst (((tb.getD x1 []).map vO).set x2 (vO (lessO (Si94.far tb x1 x2) (some m)))))) p = some (.lst (rows.map V.ref)) := by rw [upd_ne (Ne.symm (t3 _ mra).2)]; exact e5
        have s6 : Same H (upd H' ra (.lst (((tb.getD x1 []).map vO).set x2 (vO (lessO (Si94.far tb x1 x2) (some m)))))) := same_upd s5 (t3 _ mra).1
        have fin : [(x1, x2, m)].foldl road1 tb = set2 (set2 tb x1 x2 (lessO (Si94.far tb x1 x2) (some m))) x2 x1 (lessO (Si94.far (set2 tb x1 x2 (lessO (Si94.far tb x1 x2) (some m))) x2 x1) (some m)) := rfl
        rw [fin]
        obtain ⟨tb2, ez⟩ : ∃ tb2, set2 tb x1 x2 (lessO (Si94.far tb x1 x2) (some m)) = tb2 := ⟨_, rfl⟩
        rw [ez] at r6 hs2 ⊢
        obtain ⟨H2, eH⟩ : ∃ H2, upd H' ra (.lst (((tb.getD x1 []).map vO).set x2 (vO (lessO (Si94.far tb x1 x2) (some m))))) = H2 := ⟨_, rfl⟩
        rw [eH] at r6 e6 s6 ⊢
        obtain ⟨rb, eb, hb⟩ := paired_at' r6 (getD_mem hs2 g2).2.1
        have mrb := List.mem_of_getElem? eb
        have lr2 := (getD_mem hs2 g2).2.2
        refine ⟨_, rfl, _, rfl, p, _, _, .ref rb, rfl, rfl, SqL.of e6, atI_nat (by rw [List.getElem?_map, eb]; rfl), _, rfl, rb, _, _, vO (Si94.far tb2 x2 x1), rfl, rfl, SqL.of hb, atI_nat (row_at hs2 g2 g1), _, rfl, _, some m, rfl, ?_⟩
        refine ⟨_, rfl, _, rfl, p, _, _, .ref rb, rfl, rfl, SqL.of e6, atI_nat (by rw [List.getElem?_map, eb]; rfl), _, rfl, rb, _, _, x1, rfl, rfl, hb, ixN_nat (by rw [List.length_map, lr2]; exact g1), ?_⟩
        exact ⟨_, _, _, rfl, same_upd s6 (t3 _ mrb).1, by rw [upd_ne (Ne.symm (t3 _ mrb).2)]; exact e6, rows_set (b := x1) (v := lessO (Si94.far tb2 x2 x1) (some m)) r6 t4 eb (getD_mem hs2 g2).2.1⟩
    · rintro σ H' ⟨v3, v4, v5, rfl, s5, e5, r5⟩
      rw [List.length_map, paired_len h2, List.take_length] at r5
      exact ⟨_, rfl, k _ _ s5 ⟨rows, e5, r5⟩⟩
end
end RB
end
section
namespace RB
open PySem PySem.Spec PyProof.Rows L2
theorem rgV_nat (n : Nat) : rgV 0 (n : Int) = (List.range n).map vI := by
  unfold rgV
  have e : ((n : Int) - 0).toNat = n := by omega
  rw [e]
  refine List.map_congr_left fun i _ => ?_
  show V.int (0 + (i : Int)) = V.int (i : Int)
  rw [Int.zero_add]
theorem range_at {n i : Nat} {x : V} (h : ((List.range n).map vI)[i]? = some x) : i < n ∧ x = vI i := by
  rw [List.getElem?_map] at h
  by_cases c : i < n
  · rw [List.getElem?_range c] at h
    exact ⟨c, (Option.some.inj h).symm⟩
  · rw [List.getElem?_eq_none_iff.mpr (by rw [List.length_range]; omega)] at h
    cases h
section
variable {P : Program} {w : World} {K : PySem.W.Frag} {mg : Str → Option Value} {base : Heap} {a : Ads}
/-! ### by_way_of -/
def wayRow (n : Nat) (t : Tb) (k x : Nat) : List (Option Nat) := (List.range n).map fun y => lessO (Si94.far t x y) (addO (Si94.far t x k) (Si94.far t k y))
def spByWay : Sp := fun vs H Q _ => ∃ (n k : Nat) (p : Addr) (t : Tb), vs = [.ref p, vI k] ∧ n ≤ 6 ∧ k < n ∧ TableAt H p t ∧ Sq n t ∧ ∀ H' p', Same H H' → TableAt H' p' (byWay n t k) → Q (.ref p') H'
theorem ok5 (T : Txt K mg a) : FnOk P w K mg base CX0 2 (a.f 5) (a.d 5) ["table", "between"] spByWay := by
  have G2 : FnOk P w K mg base CX0 1 (a.f 2) (a.d 2) ["one", "other"] spLesser := ok2 T
  have G3 : FnOk P w K mg base CX0 1 (a.f 3) (a.d 3) ["one", "other"] spTogether := ok3 T
  refine T.F5.ok sc5 (fun vs H Q E h => ?_) (fun cdv A outer s H vs Q E hr h => ?_)
  · obtain ⟨n, k, p, t, rfl, _⟩ := h
    rfl
  · refine ⟨_, pss_cons (ps_set (i := 2) sc5.nd rfl (Or.inl rfl) (pe_listRg rfl (by rfl) T.b_list (prg_1 (by rfl) T.b_range (pe_callB call_len_seq (by rfl) T.b_len PySem.boot_len (pa_cons (pv 0) pa_nil)))))
      (pss_cons (ps_set (i := 3) sc5.nd rfl (Or.inl rfl) (pe_lst pa_nil))
      (pss_cons (ps_for PassesOwn.never rfl (pi_list (pv 2)) (pg_name (i := 4) sc5.nd rfl (Or.inl rfl))
        (pss_cons (ps_set (i := 5) sc5.nd rfl (Or.inr rfl) (pe_ix ix_list (pv 0) (pv 4) (fun _ _ => rfl)))
        (pss_one (ps_expr (pe_bm PySem.F.plainAttrs_list PySem.F.slot_list_append PySem.F.type_list_append mt_append (pv 3) (pa_cons
          (pe_lc (own := [("other", 6)]) (g := gName 6) (tt := tYes) rfl sc5.nd (pi_list (pv 2)) (blkOk_by (N := N5) (sc := defScope s5) (by decide +kernel))
            (fun _ _ _ _ _ => pg_name (i := 6) sc5.nd rfl (Or.inl rfl)) (fun _ _ _ _ _ => pts_nil)
            (fun _ _ _ _ _ => pe_call G2 hr (by rfl) T.g2 T.F2.kp (b2 T) .nil pass0 (pa_cons (pe_ix (r := rIxL K) ix_list (pv 5) (pv 6) (fun _ _ => rfl))
              (pa_cons (pe_call G3 hr (by rfl) T.g3 T.F3.kp (b3 T) .nil pass0 (pa_cons (pe_ix (r := rIxL K) ix_list (pv 5) (pv 1) (fun _ _ => rfl)) (pa_cons (pe_ix (r := rIxL K) ix_list (pe_ix (r := rIxL K) ix_list (pv 0) (pv 1) (fun _ _ => rfl)) (pv 6) (fun _ _ => rfl)) pa_nil))) pa_nil)))) pa_nil))))))
      (pss_one (ps_ret (pv 3))))), ?_⟩
    obtain ⟨n, kk, p, t, rfl, hn, hk, hT, hs, k⟩ := h
    obtain ⟨rows0, h1, h2⟩ := id hT
    have hl : rows0.length = n := (paired_len h2).trans hs.1
    refine ⟨_, rfl, p, _, rfl, .inl (SqL.of h1), _, rfl, ?_⟩
    rw [List.length_map, hl]
    refine ⟨.of_le (by omega) (by omega) (by omega) (by omega), fun pl hpl => ?_⟩
    rw [rgV_nat]
    refine ⟨by decide, fun pf hpf => ?_⟩
    have npf : pl ≠ pf := ne_of_none upd_same hpf
    have hpf' : H pf = none := Same.free (same_new hpl) hpf
    refine ⟨_, rfl, pl, rfl, ⟨(List.range n).map vI, SqL.of (by rw [upd_ne npf]; exact upd_same)⟩, for_list (K := K) (a := pl) (xs := (List.range n).map vI)
      (fun i σ H' => ∃ v4 v5, σ = [some (.ref p), some (vI kk), some (.ref pl), some (.ref pf), v4, v5, none] ∧ Same H H' ∧ H' pl = some (.lst ((List.range n).map vI)) ∧
        ∃ rows : List Addr, H' pf = some (.lst (rows.map V.ref)) ∧ RowsAt H' rows ((List.range i).map (wayRow n t kk)) ∧ ∀ r ∈ rows, r ≠ pf)
      ⟨none, none, rfl, same_upd (same_new hpl) (Same.free (same_new hpl) hpf), by rw [upd_ne npf]; exact upd_same, [], upd_same, .nil, fun r hr => by simp at hr⟩
      (fun i σ H' _ ⟨_, _, _, _, e, _⟩ => SqL.of e) ?_ ?_⟩
    · rintro i x σ H1 hi ⟨v4, v5, rfl, s1, e1, rows, r1, r2, r3⟩
      obtain ⟨hin, rfl⟩ := range_at hi
      obtain ⟨rws, ra, t1, t2, t3⟩ := (hT.same s1).row hs hin
      obtain ⟨rws', rk, t1', t2', t3'⟩ := (hT.same s1).row hs hk
      refine ⟨_, rfl, _, rfl, p, _, _, _, rfl, rfl, SqL.of t1, atI_nat t2, ?_⟩
      refine ⟨_, rfl, .inl ⟨rfl, _, SqL.of r1⟩, _, rfl, pl, rfl, ⟨_, SqL.of e1⟩, fun D hD => lc_list (K := K) (a := pl) (xs := (List.range n).map vI)
        (fun j H' => Same H1 H' ∧ H' D = some (.lst (((List.range j).map fun y => lessO (Si94.far t i y) (addO (Si94.far t i kk) (Si94.far t kk y))).map vO)))
        ⟨same_new hD, upd_same⟩ (fun j H' _ ⟨s2, _⟩ => SqL.of (s2 _ _ e1)) (fun j y H2 hj ⟨s2, e2⟩ => ?_) (fun H2 ⟨s2, e2⟩ => ?_)⟩
      · obtain ⟨hjn, rfl⟩ := range_at hj
        refine ⟨rfl, _, rfl, _, rfl, ra, _, _, vO (Si94.far t i j), rfl, rfl, SqL.of (s2 _ _ t3), atI_nat (row_at hs hin hjn), ?_⟩
        refine ⟨_, rfl, _, rfl, ra, _, _, vO (Si94.far t i kk), rfl, rfl, SqL.of (s2 _ _ t3), atI_nat (row_at hs hin hk), ?_⟩
        refine ⟨_, rfl, _, rfl, p, _, _, _, rfl, rfl, SqL.of (s2 _ _ t1'), atI_nat t2', _, rfl, rk, _, _, vO (Si94.far t kk j), rfl, rfl, SqL.of (s2 _ _ t3'), atI_nat (row_at hs hk hjn), ?_⟩
        refine ⟨_, _, rfl, _, _, rfl, _, e2, ?_, same_upd s2 hD, ?_⟩
        · rw [List.length_map, List.length_map, List.length_range]
          exact small7 (by omega)
        · rw [upd_same, range_snoc, List.map_append]
          rfl
      · rw [List.length_map, List.length_range] at e2
        have nD : pf ≠ D := ne_of_none r1 hD
        refine ⟨pf, _, _, rfl, rfl, s2 _ _ r1, ?_, _, _, rfl, ?_, ?_, rows ++ [D], by rw [upd_same, List.map_append]; rfl, ?_, fun r hr => ?_⟩
        · rw [List.length_map, paired_len r2, List.length_map, List.length_range]
          exact small7 (by omega)
        · intro b o e
          have nb : b ≠ pf := by
            rintro rfl
            rw [e] at hpf'
            cases hpf'
          rw [upd_ne nb]
          exact s2 _ _ (s1 _ _ e)
        · rw [upd_ne npf]
          exact s2 _ _ e1
        · rw [range_snoc]
          refine paired_app (paired_imp_mem r2 fun r row hr e => ?_) (.cons ?_ .nil)
          · rw [upd_ne (r3 r hr)]
            exact s2 _ _ e
          · rw [upd_ne (Ne.symm nD)]
            exact e2
        · rcases List.mem_append.mp hr with hr | hr
          · exact r3 r hr
          · rw [List.mem_singleton.mp hr]
            exact Ne.symm nD
    · rintro σ H1 ⟨v4, v5, rfl, s1, e1, rows, r1, r2, r3⟩
      rw [List.length_map, List.length_range] at r2
      exact ⟨_, rfl, k _ _ s1 ⟨rows, r1, r2⟩⟩
/-! ### drives_of -/
def spDrives : Sp := fun vs H Q _ => ∃ (n : Nat) (r : Addr) (rs : List (Nat × Nat × Nat)), vs = [vI n, .ref r] ∧ n ≤ 6 ∧ RoadsAt H r rs ∧ Rds n rs ∧ ∀ H' p, Same H H' → TableAt H' p (drives n rs) → Q (.ref p) H'
theorem sq_ways {n : Nat} : ∀ {l : List Nat} {t : Tb}, Sq n t → Sq n (l.foldl (byWay n) t)
  | [], _, h => h
  | k :: l, t, _ => sq_ways (l := l) (t := byWay n t k) (sq_way n t k)
theorem ok6 (T : Txt K mg a) : FnOk P w K mg base CX0 3 (a.f 6) (a.d 6) ["places", "roads"] spDrives := by
  have G4 : FnOk P w K mg base CX0 2 (a.f 4) (a.d 4) ["places", "roads"] spByRoads := ok4 T
  have G5 : FnOk P w K mg base CX0 2 (a.f 5) (a.d 5) ["table", "between"] spByWay := ok5 T
  refine T.F6.ok sc6 (fun vs H Q E h => ?_) (fun cdv A outer s H vs Q E hr h => ?_)
  · obtain ⟨n, r, rs, rfl, _⟩ := h
    rfl
  · refine ⟨_, pss_cons (ps_set (i := 2) sc6.nd rfl (Or.inl rfl) (pe_call G4 hr (by rfl) T.g4 T.F4.kp (b4 T) .nil pass0 (pa_cons (pv 0) (pa_cons (pv 1) pa_nil))))
      (pss_cons (ps_for PassesOwn.never rfl (pi_range1 (by rfl) T.b_range (pa_cons (pv 0) pa_nil)) (pg_name (i := 3) sc6.nd rfl (Or.inl rfl))
        (pss_one (ps_set (i := 2) sc6.nd rfl (Or.inl rfl) (pe_call G5 hr (by rfl) T.g5 T.F5.kp (b5 T) .nil pass0 (pa_cons (pv 2) (pa_cons (pv 3) pa_nil))))))
      (pss_one (ps_ret (pv 2)))), ?_⟩
    obtain ⟨n, r, rs, rfl, hn, hR, hrd, k⟩ := h
    refine ⟨_, rfl, _, rfl, n, r, rs, rfl, hn, hR, hrd, fun H1 p s1 t1 => ?_⟩
    refine ⟨_, rfl, _, rfl, by omega, by omega, for_range (lo := 0) (n := n)
      (fun i σ H' => ∃ v3 q, σ = [some (vI n), some (.ref r), some (.ref q), v3] ∧ Same H H' ∧ TableAt H' q ((List.range i).foldl (byWay n) (byRoads n rs)))
      ⟨none, p, rfl, s1, t1⟩ ?_ ?_⟩
    · rintro i σ H2 hi ⟨v3, q, rfl, s2, t2⟩
      refine ⟨_, rfl, _, rfl, n, i, q, _, ?_, hn, hi, t2, sq_ways (sq_byRoads hrd), fun H3 q' s3 t3 => ?_⟩
      · show [V.ref q, V.int (0 + (i : Int))] = [V.ref q, vI i]
        rw [Int.zero_add]
      · refine ⟨_, q', rfl, s2.trans s3, ?_⟩
        rw [List.range_succ, List.foldl_append]
        exact t3
    · rintro σ H2 ⟨v3, q, rfl, s2, t2⟩
      exact ⟨_, rfl, k _ _ s2 t2⟩
end
end RB
end
section
namespace RB
open PySem PySem.Spec PyProof.Rows L2
open Si94 (Chase News)
/-! ### a chase on the heap -/
def cF (c : Chase) (pr pm pn : Addr) : List (Str × V) := [("places", vI c.places), ("car", vI c.start), ("minute", vI c.landing), ("roads", .ref pr), ("may", .ref pm), ("news", .ref pn)]
/-- news: tuples (minute, list of parts) -/
def NewsAt (H : Hp) (pr pn : Addr) (ns : List News) : Prop := ∃ ts : List Addr, H pn = some (.lst (ts.map V.ref)) ∧
  Paired (fun t (x : News) => ∃ q, H t = some (.tup [vI x.minute, .ref q]) ∧ H q = some (.lst (x.parts.map vI)) ∧ q ≠ pr ∧ q ≠ pn) ts ns
structure ChaseAt (C : Addr) (H : Hp) (a pr pn : Addr) (c : Chase) : Prop where
  ins : ∃ dx pm, H a = some (.ins C dx (cF c pr pm pn)) ∧ H pm = some (.lst (c.mays.map vI)) ∧ pm ≠ pr ∧ pm ≠ pn
  roads : RoadsAt H pr c.roads
  news : NewsAt H pr pn c.news
  ne : pr ≠ pn
theorem RoadsAt.but {H H' : Hp} {r : Addr} {rs : List T3} (h : RoadsAt H r rs) (k : ∀ b ys, H b = some (.tup ys) → H' b = some (.tup ys)) (e : H' r = H r) : RoadsAt H' r rs := by
  obtain ⟨ts, h1, h2⟩ := h
  exact ⟨ts, e.trans h1, paired_imp h2 fun _ _ q => k _ _ q⟩
theorem RoadsAt.same {H H' : Hp} {r : Addr} {rs : List T3} (s : Same H H') (h : RoadsAt H r rs) : RoadsAt H' r rs := by
  obtain ⟨ts, h1, h2⟩ := h
  exact ⟨ts, s _ _ h1, paired_imp h2 fun _ _ q => s _ _ q⟩
theorem NewsAt.same {H H' : Hp} {pr pn : Addr} {ns : List News} (s : Same H H') (h : NewsAt H pr pn ns) : NewsAt H' pr pn ns := by
  obtain ⟨ts, h1, h2⟩ := h
  exact ⟨ts, s _ _ h1, paired_imp h2 fun _ _ ⟨q, e1, e2, e3⟩ => ⟨q, s _ _ e1, s _ _ e2, e3⟩⟩
theorem ChaseAt.same {C : Addr} {H H' : Hp} {a pr pn : Addr} {c : Chase} (s : Same H H') (h : ChaseAt C H a pr pn c) : ChaseAt C H' a pr pn c := by
  obtain ⟨⟨dx, pm, h1, h2, h3⟩, h4, h5, h6⟩ := h
  exact ⟨⟨dx, pm, s _ _ h1, s _ _ h2, h3⟩, h4.same s, h5.same s, h6⟩
/-- data of the news -/
def newsD (x : News) : PyData := .tuple [.int (x.minute : Nat), .list (x.parts.map fun (n : Nat) => .int (n : Int))]
theorem dp_ints {K : PySem.W.Frag} {H : Hp} : ∀ l : List Nat, DpAll K H (l.map vI) (l.map fun (n : Nat) => PyData.int (n : Int))
  | [] => .nil
  | n :: l => .cons (.int _) (dp_ints l)
theorem dp_news {K : PySem.W.Frag} {H : Hp} {pr pn : Addr} : ∀ {ts : List Addr} {ns : List News}, Paired (fun t (x : News) => ∃ q, H t = some (.tup [vI x.minute, .ref q]) ∧ H q = some (.lst (x.parts.map vI)) ∧ q ≠ pr ∧ q ≠ pn) ts ns → DpAll K H (ts.map V.ref) (ns.map newsD)
  | _, _, .nil => .nil
  | _, _, .cons (a := t) (b := x) h r => by
    obtain ⟨q, e1, e2, _⟩ := h
    exact .cons (.tup (SqT.of e1) (.cons (.int _) (.cons (.lst (SqL.of e2) (dp_ints x.parts)) .nil))) (dp_news r)
theorem lay_ints : ∀ l : List Nat, PyData.canLayAll0 (l.map fun (n : Nat) => PyData.int (n : Int)) = true ∧ PyData.depthAll (l.map fun (n : Nat) => PyData.int (n : Int)) = 0
  | [] => ⟨rfl, rfl⟩
  | n :: l => by
    obtain ⟨h1, h2⟩ := lay_ints l
    rw [List.map_cons]
    refine ⟨?_, ?_⟩
    · rw [PyData.canLayAll0, h1]
      rfl
    · rw [PyData.depthAll, h2]
      rfl
theorem lay_news : ∀ l : List News, PyData.canLayAll0 (l.map newsD) = true ∧ PyData.depthAll (l.map newsD) ≤ 2
  | [] => ⟨rfl, Nat.zero_le _⟩
  | x :: l => by
    obtain ⟨h1, h2⟩ := lay_news l
    obtain ⟨h3, h4⟩ := lay_ints x.parts
    rw [List.map_cons]
    refine ⟨?_, ?_⟩
    · rw [PyData.canLayAll0, h1]
      simp [newsD, PyData.canLay0, PyData.canLayAll0, h3]
    · rw [PyData.depthAll]
      have : PyData.depth (newsD x) = 2 := by simp [newsD, PyData.depth, PyData.depthAll, h4]
      omega
theorem shaped_news (l : List News) : SeqAt.shaped (.list (l.map newsD)) = true := by
  obtain ⟨h1, h2⟩ := lay_news l
  unfold SeqAt.shaped
  rw [Bool.and_eq_true]
  refine ⟨h1, decide_eq_true ?_⟩
  show PyData.depthAll (l.map newsD) + 1 ≤ 64
  omega
section
variable {P : Program} {w : World} {K : PySem.W.Frag} {mg : Str → Option Value} {base : Heap} {a : Ads}
/-! ### Chase -/
def spCInit (C : Addr) : Sp := fun vs H Q _ => ∃ (p dx : Addr) (n s t : Nat), vs = [.ref p, vI n, vI s, vI t] ∧ n ≤ 6 ∧ H p = some (.ins C dx []) ∧
  ∀ H' pr pn, ChaseAt C H' p pr pn ⟨n, s, t, [], 2 ^ n - 1, []⟩ → (∀ f, H f ≠ none → f ≠ p → ChaseAt C (del H' f) p pr pn ⟨n, s, t, [], 2 ^ n - 1, []⟩) → (∀ b o, H b = some o → b ≠ p → H' b = some o) → H pr = none → H pn = none → Q .non H'
theorem ok11 (T : Txt K mg a) : FnOk P w K mg base CX0 1 (a.f 11) (a.d 11) ["self", "places", "car", "minute"] (spCInit a.cCh) := by
  refine T.F11.ok sc11 (fun vs H Q E h => ?_) (fun cdv A outer s H vs Q E hr h => ?_)
  · obtain ⟨p, dx, n, s, t, rfl, _⟩ := h
    rfl
  · refine ⟨_, pss_cons (ps_fld (pv 0) (pv 1) rfl) (pss_cons (ps_fld (pv 0) (pv 2) rfl) (pss_cons (ps_fld (pv 0) (pv 3) rfl) (pss_cons (ps_fld (pv 0) (pe_lst pa_nil) rfl)
      (pss_cons (ps_fld (pv 0) (pe_listRg rfl (by rfl) T.b_list (prg_1 (by rfl) T.b_range (pv 1))) rfl) (pss_one (ps_fld (pv 0) (pe_lst pa_nil) rfl)))))), ?_⟩
    obtain ⟨p, dx, n, s, t, rfl, hn, hp, k⟩ := h
    refine ⟨_, rfl, _, rfl, p, _, _, _, rfl, hp, T.lCh, T.nCh_places, (by show 0 < 1000; decide), ?_⟩
    refine ⟨_, rfl, _, rfl, p, _, _, _, rfl, upd_same, T.lCh, T.nCh_car, (by show 1 < 1000; decide), ?_⟩
    refine ⟨_, rfl, _, rfl, p, _, _, _, rfl, upd_same, T.lCh, T.nCh_minute, (by show 2 < 1000; decide), ?_⟩
    rw [upd_upd, upd_upd]
    obtain ⟨H1, e1⟩ : ∃ H1, upd H p (.ins a.cCh dx (putF "minute" (vI t) (putF "car" (vI s) (putF "places" (vI n) [])))) = H1 := ⟨_, rfl⟩
    have hp1 : H1 p = some (.ins a.cCh dx (putF "minute" (vI t) (putF "car" (vI s) (putF "places" (vI n) [])))) := by rw [← e1]; exact upd_same
    have old : ∀ b o, H b = some o → b ≠ p → H1 b = some o := fun b o e nb => by rw [← e1, upd_ne nb]; exact e
    have free : ∀ b, H1 b = none → H b = none := fun b e => by
      by_cases z : b = p
      · rw [z, hp1] at e
        cases e
      · rw [← e1, upd_ne z] at e
        exact e
    rw [e1]
    refine ⟨by decide, fun pr hpr => ⟨_, rfl, p, _, _, _, rfl, by rw [upd_ne (ne_of_none hp1 hpr)]; exact hp1, T.lCh, T.nCh_roads, (by show 3 < 1000; decide), ?_⟩⟩
    obtain ⟨H2, e2⟩ : ∃ H2, upd (upd H1 pr (.lst [])) p (.ins a.cCh dx (putF "roads" (.ref pr) (putF "minute" (vI t) (putF "car" (vI s) (putF "places" (vI n) []))))) = H2 := ⟨_, rfl⟩
    have n1 : p ≠ pr := ne_of_none hp1 hpr
    have hp2 : H2 p = some (.ins a.cCh dx (putF "roads" (.ref pr) (putF "minute" (vI t) (putF "car" (vI s) (putF "places" (vI n) []))))) := by rw [← e2]; exact upd_same
    have hr2 : H2 pr = some (.lst []) := by rw [← e2, upd_ne (Ne.symm n1)]; exact upd_same
    have old2 : ∀ b o, H1 b = some o → b ≠ p → H2 b = some o := fun b o e nb => by rw [← e2, upd_ne nb, upd_ne (ne_of_none e hpr)]; exact e
    have free2 : ∀ b, H2 b = none → H1 b = none := fun b e => by
      by_cases z : b = p
      · rw [z, hp2] at e
        cases e
      · by_cases z2 : b = pr
        · rw [z2, hr2] at e
          cases e
        · rw [← e2, upd_ne z, upd_ne z2] at e
          exact e
    rw [e2]
    refine ⟨_, rfl, _, rfl, .of_le (by omega) (by omega) (by omega) (by omega), fun pm hpm => ⟨_, rfl, p, _, _, _, rfl, by rw [upd_ne (ne_of_none hp2 hpm)]; exact hp2, T.lCh, T.nCh_may, (by show 4 < 1000; decide), ?_⟩⟩
    rw [rgV_nat]
    have n2 : p ≠ pm := ne_of_none hp2 hpm
    have n3 : pr ≠ pm := ne_of_none hr2 hpm
    obtain ⟨H3, e3⟩ : ∃ H3, upd (upd H2 pm (.lst ((List.range n).map vI))) p (.ins a.cCh dx (putF "may" (.ref pm) (putF "roads" (.ref pr) (putF "minute" (vI t) (putF "car" (vI s) (putF "places" (vI n) [])))))) = H3 := ⟨_, rfl⟩
    have hp3 : H3 p = some (.ins a.cCh dx (putF "may" (.ref pm) (putF "roads" (.ref pr) (putF "minute" (vI t) (putF "car" (vI s) (putF "places" (vI n) [])))))) := by rw [← e3]; exact upd_same
    have hm3 : H3 pm = some (.lst ((List.range n).map vI)) := by rw [← e3, upd_ne (Ne.symm n2)]; exact upd_same
    have hr3 : H3 pr = some (.lst []) := by rw [← e3, upd_ne (Ne.symm n1), upd_ne n3]; exact hr2
    have old3 : ∀ b o, H2 b = some o → b ≠ p → H3 b = some o := fun b o e nb => by rw [← e3, upd_ne nb, upd_ne (ne_of_none e hpm)]; exact e
    have free3 : ∀ b, H3 b = none → H2 b = none := fun b e => by
      by_cases z : b = p
      · rw [z, hp3] at e
        cases e
      · by_cases z2 : b = pm
        · rw [z2, hm3] at e
          cases e
        · rw [← e3, upd_ne z, upd_ne z2] at e
          exact e
    rw [e3]
    refine ⟨by decide, fun pn hpn => ⟨_, rfl, p, _, _, _, rfl, by rw [upd_ne (ne_of_none hp3 hpn)]; exact hp3, T.lCh, T.nCh_news, (by show 5 < 1000; decide), ?_⟩⟩
    have n4 : p ≠ pn := ne_of_none hp3 hpn
    have n5 : pr ≠ pn := ne_of_none hr3 hpn
    have n6 : pm ≠ pn := ne_of_none hm3 hpn
    have fpr := free _ hpr
    have fpm := free _ (free2 _ hpm)
    have fpn := free _ (free2 _ (free3 _ hpn))
    obtain ⟨H4, e4⟩ : ∃ H4, upd (upd H3 pn (.lst [])) p (.ins a.cCh dx (putF "news" (.ref pn) (putF "may" (.ref pm) (putF "roads" (.ref pr) (putF "minute" (vI t) (putF "car" (vI s) (putF "places" (vI n) []))))))) = H4 := ⟨_, rfl⟩
    rw [e4]
    have q1 : H4 p = some (.ins a.cCh dx (cF ⟨n, s, t, [], 2 ^ n - 1, []⟩ pr pm pn)) := by
      rw [← e4]
      exact upd_same
    have q2 : H4 pm = some (.lst ((⟨n, s, t, [], 2 ^ n - 1, []⟩ : Chase).mays.map vI)) := by
      rw [← e4, upd_ne (Ne.symm n2), upd_ne n6, hm3, mays_new]
    have q3 : H4 pr = some (.lst []) := by
      rw [← e4, upd_ne (Ne.symm n1), upd_ne n5]
      exact hr3
    have q4 : H4 pn = some (.lst []) := by
      rw [← e4, upd_ne (Ne.symm n4)]
      exact upd_same
    have nf : ∀ {f b : Addr}, H f ≠ none → H b = none → b ≠ f := fun h1 h2 z => h1 (by rw [← z]; exact h2)
    refine k H4 pr pn ⟨⟨dx, pm, q1, q2, Ne.symm n3, n6⟩, ⟨[], q3, .nil⟩, ⟨[], q4, .nil⟩, n5⟩ (fun f hf hfp => ⟨⟨dx, pm, (del_ne (Ne.symm hfp)).trans q1, (del_ne (nf hf fpm)).trans q2, Ne.symm n3, n6⟩, ⟨[], (del_ne (nf hf fpr)).trans q3, .nil⟩, ⟨[], (del_ne (nf hf fpn)).trans q4, .nil⟩, n5⟩) (fun b o e nb => ?_) fpr fpn
    · have q := old3 b o (old2 b o (old b o e nb) nb) nb
      rw [← e4, upd_ne nb, upd_ne (ne_of_none q hpn)]
      exact q
def spHas (C : Addr) : Sp := fun vs H Q _ => ∃ (p pr pn : Addr) (c : Chase) (v : Nat), vs = [.ref p, vI v] ∧ ChaseAt C H p pr pn c ∧ Q (.bl (decide (v < c.places))) H
theorem ok12 (T : Txt K mg a) : FnOk P w K mg base CX0 1 (a.f 12) (a.d 12) ["self", "place"] (spHas a.cCh) := by
  refine T.F12.ok sc12 (fun vs H Q E h => ?_) (fun cdv A outer s H vs Q E hr h => ?_)
  · obtain ⟨p, pr, pn, c, v, rfl, _⟩ := h
    rfl
  · refine ⟨_, pss_one (ps_ret (pe_cmpR op_lt (pv 1) (pe_fld (pv 0) rfl) (nomark _))), ?_⟩
    obtain ⟨p, pr, pn, c, v, rfl, ⟨⟨dx, pm, h1, _⟩, _⟩, k⟩ := h
    refine ⟨_, rfl, _, rfl, p, _, _, _, _, rfl, h1, T.lCh, T.nCh_places, rfl, _, _, rfl, rfl, ?_⟩
    have e : decide ((v : Int) < (c.places : Int)) = decide (v < c.places) := decide_eq_decide.mpr (by omega)
    show Q (.bl (decide ((v : Int) < (c.places : Int)))) H
    rw [e]
    exact k
def spTable (C : Addr) : Sp := fun vs H Q _ => ∃ (p pr pn : Addr) (c : Chase), vs = [.ref p] ∧ ChaseAt C H p pr pn c ∧ Good c ∧ ∀ H' q, Same H H' → TableAt H' q c.ways → Q (.ref q) H'
theorem ok13 (T : Txt K mg a) : FnOk P w K mg base CX0 4 (a.f 13) (a.d 13) ["self"] (spTable a.cCh) := by
  have G6 : FnOk P w K mg base CX0 3 (a.f 6) (a.d 6) ["places", "roads"] spDrives := ok6 T
  refine T.F13.ok sc13 (fun vs H Q E h => ?_) (fun cdv A outer s H vs Q E hr h => ?_)
  · obtain ⟨p, pr, pn, c, rfl, _⟩ := h
    rfl
  · refine ⟨_, pss_one (ps_ret (pe_call G6 hr (by rfl) T.g6 T.F6.kp (b6 T) .nil pass0 (pa_cons (pe_fld (pv 0) rfl) (pa_cons (pe_fld (pv 0) rfl) pa_nil)))), ?_⟩
    obtain ⟨p, pr, pn, c, rfl, ⟨⟨dx, pm, h1, _⟩, h2, _⟩, g, k⟩ := h
    refine ⟨_, rfl, p, _, _, _, _, rfl, h1, T.lCh, T.nCh_places, rfl, _, rfl, p, _, _, _, _, rfl, h1, T.lCh, T.nCh_roads, rfl, c.places, pr, c.roads, rfl, g.p6, h2, g.rd, fun H' q s t => ?_⟩
    rw [drives_ways g.rd] at t
    exact k _ _ s t
def spLeastMin (C : Addr) : Sp := fun vs H Q _ => ∃ (p pr pn : Addr) (c : Chase), vs = [.ref p] ∧ ChaseAt C H p pr pn c ∧ ∀ H', Same H H' → Q (vI c.lastNews) H'
theorem ok14 (T : Txt K mg a) : FnOk P w K mg base CX0 1 (a.f 14) (a.d 14) ["self"] (spLeastMin a.cCh) := by
  refine T.F14.ok sc14 (fun vs H Q E h => ?_) (fun cdv A outer s H vs Q E hr h => ?_)
  · obtain ⟨p, pr, pn, c, rfl, _⟩ := h
    rfl
  · refine ⟨_, pss_cons (ps_if (pt_cmpR (op_eqD hr.units) (pe_fld (pv 0) rfl) (pe_lst pa_nil) (nomark _)) (pss_one (ps_ret pe_int)) pss_nil)
      (pss_one (ps_ret (pe_ix ix_tup (pe_ix ix_list (pe_fld (pv 0) rfl) (pe_un un_neg pe_int) (fun _ _ => rfl)) pe_int (fun _ _ => rfl)))), ?_⟩
    obtain ⟨p, pr, pn, c, rfl, ⟨⟨dx, pm, h1, _⟩, _, ⟨ts, n1, n2⟩, _⟩, k⟩ := h
    refine ⟨_, rfl, p, _, _, _, _, rfl, h1, T.lCh, T.nCh_news, rfl, by decide, fun q hq => ?_⟩
    have s1 : Same H (upd H q (.lst [])) := same_new hq
    refine ⟨.list (c.news.map newsD), .list [], .lst (SqL.of (s1 _ _ n1)) (dp_news (paired_imp n2 fun _ _ ⟨q, e1, e2, e3⟩ => ⟨q, s1 _ _ e1, s1 _ _ e2, e3⟩)), .lst (SqL.of upd_same) .nil, shaped_news _, rfl, _, rfl, ?_⟩
    cases hN : c.news with
    | nil =>
      refine if_true_of rfl ?_
      have hl := last_minute c
      rw [if_pos (by rw [hN]; rfl)] at hl
      rw [hl] at k
      exact k _ s1
    | cons x l =>
      refine if_false_of rfl ?_
      have hl := last_minute c
      rw [if_neg (by rw [hN]; simp)] at hl
      have hlen : ts.length = c.news.length := paired_len n2
      have hpos : 0 < c.news.length := by rw [hN]; simp
      obtain ⟨t, et, q2, e1, e2, _⟩ := paired_at' n2 (i := c.news.length - 1) (b := newsAt c (c.news.length - 1)) (by unfold newsAt; exact getD_at _ (by omega))
      refine ⟨_, rfl, p, _, _, _, _, rfl, s1 _ _ h1, T.lCh, T.nCh_news, rfl, _, rfl, pn, _, _, .ref t, rfl, rfl, SqL.of (s1 _ _ n1), ?_, t, _, _, _, rfl, rfl, SqT.of (s1 _ _ e1), rfl, ?_⟩
      · unfold atI ixN
        have hl2 : ((ts.map V.ref).length : Int) = (c.news.length : Int) := by rw [List.length_map, hlen]
        rw [if_neg (by decide), if_pos (by rw [hl2]; omega)]
        show (ts.map V.ref)[(-1 + ((ts.map V.ref).length : Int)).toNat]? = _
        rw [hl2, show (-1 + (c.news.length : Int)).toNat = c.news.length - 1 by omega, List.getElem?_map, et]
        rfl
      · rw [hl] at k
        exact k _ s1
end
end RB
end
section
namespace RB
open PySem PySem.Spec PyProof.Rows L2
open Si94 (Chase News)
/-- a comprehension over a locked dict's keys -/
theorem lc_keys {d : Addr} {od : Obj} {kvs : List (Key × V)} {g : TG} {tt : TT} {te : TE} {vs : List Nat} {σ : L2.St} {H1 : Hp} {D : Addr} {Qd : Hp → Prop} (Pv : Nat → Hp → Prop) (h0 : Pv 0 (upd H1 D (.lst []))) (hl : ∀ i H, i ≤ kvs.length → Pv i H → H d = some (.frz od (.dK kvs)))
    (hs : ∀ i k v H, kvs[i]? = some (k, v) → Pv i H → g (kV k) (wipe σ vs) H fun σ2 H2 => wipe σ2 vs = wipe σ vs ∧ tt σ2 H2 fun b H3 =>
      if b = true then te σ2 H3 fun y H4 => ∃ acc, H4 D = some (.lst acc) ∧ acc.length < sizeLine ∧ Pv (i + 1) (upd H4 D (.lst (acc ++ [y]))) else Pv (i + 1) H3) (hd : ∀ H, Pv kvs.length H → Qd H) :
    ∃ W : Nat → Nat → Hp → Prop, (∃ m, W 0 m (upd H1 D (.lst []))) ∧ ∀ i m H, W i m H →
      ((Itk d od kvs).stop i H ∧ Qd H) ∨ ((Itk d od kvs).go i H ∧ ∃ Nx : Hp → Prop, (∀ H', Nx H' → ∃ m', m' < m ∧ W (i + 1) m' H') ∧ ∀ x H', (Itk d od kvs).yld i H x H' → g x (wipe σ vs) H' fun σ2 H2 => wipe σ2 vs = wipe σ vs ∧ tt σ2 H2 fun b H3 =>
        if b = true then te σ2 H3 fun y H4 => ∃ acc, H4 D = some (.lst acc) ∧ acc.length < sizeLine ∧ Nx (upd H4 D (.lst (acc ++ [y]))) else Nx H3) := by
  refine ⟨fun i m H => m = kvs.length - i ∧ i ≤ kvs.length ∧ Pv i H, ⟨kvs.length, by simp, Nat.zero_le _, h0⟩, ?_⟩
  rintro i m H ⟨rfl, hi, p⟩
  have q := hl i H hi p
  by_cases hlt : i < kvs.length
  · refine .inr ⟨⟨q, hlt⟩, Pv (i + 1), fun H' p' => ⟨kvs.length - (i + 1), by omega, rfl, hlt, p'⟩, fun x H' y => ?_⟩
    obtain ⟨e, k, v, y, ex⟩ := y
    subst e
    subst ex
    exact hs i k v _ y p
  · have e : i = kvs.length := by omega
    subst e
    exact .inl ⟨⟨q, Nat.le_refl _⟩, hd H p⟩
section
variable {P : Program} {w : World} {K : PySem.W.Frag} {mg : Str → Option Value} {base : Heap} {a : Ads}
/-! ### members -/
def spMembers : Sp := fun vs H Q _ => ∃ (n m : Nat), vs = [vI m] ∧ m < 2 ^ n ∧ n ≤ 6 ∧ ∀ H' p, Same H H' → H p = none → H' p = some (.lst (((List.range n).filter fun v => m.testBit v).map vI)) → Q (.ref p) H'
def muM (σ : L2.St) (_ : Hp) : Nat := match σ[0]? with
  | some (some (V.int i)) => i.toNat
  | _ => 0
theorem ok9 (T : Txt K mg a) : FnOk P w K mg base CX0 1 (a.f 9) (a.d 9) ["number"] spMembers := by
  refine T.F9.ok sc9 (fun vs H Q E h => ?_) (fun cdv A outer s H vs Q E hr h => ?_)
  · obtain ⟨n, m, rfl, _⟩ := h
    rfl
  · refine ⟨_, pss_cons (ps_set (i := 1) sc9.nd rfl (Or.inl rfl) (pe_lst pa_nil)) (pss_cons (ps_set (i := 2) sc9.nd rfl (Or.inl rfl) pe_int)
      (pss_cons (ps_while PassesOwn.never (pt_cmpR op_gt (pv 0) pe_int (nomark _))
        (pss_cons (ps_if (pt_cmpR op_eq (pe_op op_mod (pv 0) pe_int) pe_int (nomark _)) (pss_one (ps_expr (pe_bm PySem.F.plainAttrs_list PySem.F.slot_list_append PySem.F.type_list_append mt_append (pv 1) (pa_cons (pv 2) pa_nil)))) pss_nil)
        (pss_cons (ps_set (i := 0) sc9.nd rfl (Or.inl rfl) (pe_op op_fdiv (pv 0) pe_int)) (pss_one (ps_set (i := 2) sc9.nd rfl (Or.inl rfl) (pe_op op_add (pv 2) pe_int))))))
      (pss_one (ps_ret (pv 1))))), ?_⟩
    obtain ⟨n, m, rfl, hm, hn, k⟩ := h
    refine ⟨by decide, fun p hp => ?_⟩
    refine while_by (fun σ H' => ∃ i : Nat, σ = [some (vI (m / 2 ^ i)), some (.ref p), some (vI i)] ∧ i ≤ n ∧ Same H H' ∧ H' p = some (.lst (((List.range i).filter fun v => m.testBit v).map vI))) muM
      ⟨0, by (try rw [Nat.pow_zero, Nat.div_one]); rfl, Nat.zero_le _, same_new hp, upd_same⟩ ?_ (fun σ H Q Q' hQ ⟨v, e, i, j, e1, e2, k, e3, q⟩ => ⟨v, e, i, j, e1, e2, k, e3, hQ _ _ q⟩)
    rintro σ H1 ⟨i, rfl, hi, s1, e1⟩
    refine ⟨_, rfl, _, _, rfl, rfl, _, rfl, ?_⟩
    by_cases c : 0 < m / 2 ^ i
    · refine if_true_of (decide_eq_true (by omega)) ?_
      have hin : i < n := by
        refine Nat.lt_of_not_le fun z => ?_
        have z2 : m < 2 ^ i := Nat.lt_of_lt_of_le hm (Nat.pow_le_pow_right (by decide) z)
        rw [Nat.div_eq_of_lt z2] at c
        omega
      have hb : m.testBit i = decide (m / 2 ^ i % 2 = 1) := Nat.testBit_eq_decide_div_mod_eq
      have hmu : ∀ (H' : Hp), muM [some (V.int (((m / 2 ^ i : Nat) : Int) / 2)), some (V.ref p), some (V.int ((i : Int) + 1))] H' < muM [some (vI (m / 2 ^ i)), some (.ref p), some (vI i)] H1 := fun H' => by
        show (((m / 2 ^ i : Nat) : Int) / 2).toNat < (((m / 2 ^ i : Nat) : Int)).toNat
        omega
      have hst : [some (V.int (((m / 2 ^ i : Nat) : Int) / 2)), some (V.ref p), some (V.int ((i : Int) + 1))] = [some (vI (m / 2 ^ (i + 1))), some (V.ref p), some (vI (i + 1))] := by
        have : ((m / 2 ^ i : Nat) : Int) / 2 = ((m / 2 ^ (i + 1) : Nat) : Int) := by
          rw [Nat.pow_succ, ← Nat.div_div_eq_div_mul]
          omega
        rw [this]
        rfl
      have hlen : (((List.range i).filter fun v => m.testBit v).map vI).length < sizeLine := by
        rw [List.length_map]
        have := List.length_filter_le (fun v => m.testBit v) (List.range i)
        rw [List.length_range] at this
        exact small7 (by omega)
      refine ⟨_, rfl, _, _, rfl, rfl, (by show (0 : Int) < 2; decide), rfl, _, rfl, ?_⟩
      have em : decide (V.int (((m / 2 ^ i : Nat) : Int) % 2) = V.int 1) = decide (m / 2 ^ i % 2 = 1) := decide_eq_decide.mpr ⟨fun z => by have := V.int.inj z; omega, fun z => by
        have : ((m / 2 ^ i : Nat) : Int) % 2 = 1 := by omega
        rw [this]⟩
      by_cases c2 : m / 2 ^ i % 2 = 1
      · refine if_true_of (em.trans (decide_eq_true c2)) ⟨_, rfl, .inl ⟨rfl, _, SqL.of e1⟩, _, rfl, p, _, _, rfl, rfl, e1, hlen, ?_⟩
        refine ⟨_, rfl, _, _, rfl, rfl, ⟨by decide, by decide⟩, _, rfl, _, _, rfl, rfl, ⟨i + 1, hst, hin, same_upd s1 hp, ?_⟩, hmu _⟩
        rw [upd_same, List.range_succ, List.filter_append, List.map_append]
        have : [i].filter (fun v => m.testBit v) = [i] := by
          rw [List.filter_cons_of_pos (by rw [hb]; exact decide_eq_true c2)]
          rfl
        rw [this]
        rfl
      · refine if_false_of (em.trans (decide_eq_false c2)) ?_
        refine ⟨_, rfl, _, _, rfl, rfl, ⟨by decide, by decide⟩, _, rfl, _, _, rfl, rfl, ⟨i + 1, hst, hin, s1, ?_⟩, hmu _⟩
        rw [e1, List.range_succ, List.filter_append]
        have : [i].filter (fun v => m.testBit v) = [] := by
          rw [List.filter_cons_of_neg (by rw [hb]; simpa using c2)]
          rfl
        rw [this, List.append_nil]
    · have z : m / 2 ^ i = 0 := Nat.eq_zero_of_not_pos c
      refine if_false_of (decide_eq_false (by rw [z]; decide)) ⟨_, rfl, k _ _ s1 hp ?_⟩
      have z2 : m < 2 ^ i := by
        rcases Nat.lt_or_ge m (2 ^ i) with h | h
        · exact h
        · have := Nat.div_pos h (Nat.two_pow_pos i)
          omega
      rw [e1, mays_upto (c := ⟨n, 0, 0, [], m, []⟩) z2 hi]
      rfl
end
end RB
end
section
namespace RB
open PySem PySem.Spec PyProof.Rows L2
open Si94 (Chase News)
/-! ### the dict of the groups -/
/-- groups: a part's number, its list's address -/
abbrev Gs := List (Nat × Addr)
def gKV (gs : Gs) : List (Key × V) := gs.map fun g => (Sum.inl (g.1 : Int), V.ref g.2)
theorem valV_gs (k : Nat) : ∀ gs : Gs, valV (gKV gs) (Sum.inl (k : Int)) = (gs.find? fun g => g.1 == k).map fun g => V.ref g.2
  | [] => rfl
  | g :: gs => by
    show valV ((Sum.inl (g.1 : Int), V.ref g.2) :: gKV gs) _ = _
    by_cases c : g.1 = k
    · rw [valV_pos (by rw [c]), List.find?_cons]
      have : (g.1 == k) = true := by simpa using c
      rw [this]
      rfl
    · rw [valV_neg (fun e => c (by have := Sum.inl.inj e; omega)), valV_gs k gs, List.find?_cons]
      have : (g.1 == k) = false := by simpa using c
      rw [this]
abbrev prt (ps : List Nat) (v : Nat) : Nat := ps.getD v 0
/-- behind the places pre -/
structure Grp (H H' : Hp) (d : Addr) (ps pre : List Nat) (gs : Gs) : Prop where
  at_ : H' d = some (.dK (gKV gs))
  keys : gs.map (·.1) = (pre.map (prt ps)).eraseDups
  lists : ∀ g ∈ gs, H' g.2 = some (.lst ((pre.filter fun v => prt ps v == g.1).map vI)) ∧ H g.2 = none ∧ g.2 ≠ d
  nd : (gs.map (·.2)).Nodup
  hd : H d = none
theorem mem_eraseDups' {l : List Nat} {x : Nat} : x ∈ l.eraseDups ↔ x ∈ l := List.mem_eraseDups
theorem dups_nodup : ∀ l : List Nat, l.eraseDups.Nodup := fun l => by
  generalize e : l.length = n
  induction n using Nat.strongRecOn generalizing l with
  | ind n ih =>
    cases l with
    | nil => exact List.nodup_nil
    | cons a l =>
      rw [List.eraseDups_cons]
      have h1 : (l.filter fun b => !b == a).length ≤ l.length := List.length_filter_le _ _
      rw [List.length_cons] at e
      refine List.nodup_cons.mpr ⟨fun h => ?_, ih _ (by omega) (l.filter fun b => !b == a) rfl⟩
      have := (List.mem_filter.mp (mem_eraseDups'.mp h)).2
      simp at this
theorem gs_len {H H' : Hp} {d : Addr} {ps pre : List Nat} {gs : Gs} (h : Grp H H' d ps pre gs) : gs.length ≤ pre.length := by
  have e : gs.length = (Si94.split ps pre).length := by
    have := congrArg List.length h.keys
    rw [List.length_map] at this
    rw [this]
    unfold Si94.split
    rw [List.length_map]
  rw [e]
  exact split_len ps pre
theorem filter_snoc (ps pre : List Nat) (v k : Nat) : (pre ++ [v]).filter (fun x => prt ps x == k) = (pre.filter fun x => prt ps x == k) ++ if prt ps v = k then [v] else [] := by
  rw [List.filter_append]
  congr 1
  by_cases c : prt ps v = k
  · rw [if_pos c, List.filter_cons_of_pos (by simpa using c)]
    rfl
  · rw [if_neg c, List.filter_cons_of_neg (by simpa using c)]
    rfl
/-- a place whose part is known -/
theorem grp_old {H H' : Hp} {d : Addr} {ps pre : List Nat} {gs : Gs} {v : Nat} {g : Nat × Addr} (h : Grp H H' d ps pre gs) (hg : g ∈ gs) (e : g.1 = prt ps v) :
    Grp H (upd H' g.2 (.lst ((pre.filter fun x => prt ps x == g.1).map vI ++ [vI v]))) d ps (pre ++ [v]) gs := by
  have hm : prt ps v ∈ pre.map (prt ps) := by
    rw [← mem_eraseDups', ← h.keys, ← e]
    exact List.mem_map.mpr ⟨g, hg, rfl⟩
  have ng := (h.lists g hg).2.2
  refine ⟨by rw [upd_ne (Ne.symm ng)]; exact h.at_, ?_, fun g' hg' => ?_, h.nd, h.hd⟩
  · rw [List.map_append, List.map_singleton, eraseDups_snoc, if_pos hm]
    exact h.keys
  · obtain ⟨l1, l2, l3⟩ := h.lists g' hg'
    refine ⟨?_, l2, l3⟩
    rw [filter_snoc]
    by_cases c : g'.2 = g.2
    · have eg : g' = g := by
        obtain ⟨i, hi⟩ := List.getElem?_of_mem hg
        obtain ⟨j, hj⟩ := List.getElem?_of_mem hg'
        have e1 : (gs.map (·.2))[i]? = some g.2 := by rw [List.getElem?_map, hi]; rfl
        have e2 : (gs.map (·.2))[j]? = some g.2 := by rw [List.getElem?_map, hj, ← c]; rfl
        have := nd_ix h.nd e1 e2
        subst this
        rw [hi] at hj
        exact (Option.some.inj hj).symm
      subst eg
      rw [upd_same, if_pos e.symm, List.map_append]
      rfl
    · rw [upd_ne c, l1, if_neg, List.append_nil]
      intro z
      have k1 : (gs.map (·.1)).Nodup := by rw [h.keys]; exact dups_nodup _
      obtain ⟨i, hi⟩ := List.getElem?_of_mem hg
      obtain ⟨j, hj⟩ := List.getElem?_of_mem hg'
      have e1 : (gs.map (·.1))[i]? = some g.1 := by rw [List.getElem?_map, hi]; rfl
      have e2 : (gs.map (·.1))[j]? = some g.1 := by rw [List.getElem?_map, hj, e, z]; rfl
      have := nd_ix k1 e1 e2
      subst this
      rw [hi] at hj
      exact c (by rw [Option.some.inj hj])
/-- a place of a new part -/
theorem grp_new {H H' H2 : Hp} {d l : Addr} {ps pre : List Nat} {gs : Gs} {v : Nat} (h : Grp H H' d ps pre gs) (hl : H' l = none) (hH : H l = none) (hn : prt ps v ∉ gs.map (·.1))
    (e1 : H2 d = some (.dK (gKV (gs ++ [(prt ps v, l)])))) (e2 : H2 l = some (.lst [vI v])) (e3 : ∀ b o, b ≠ d → b ≠ l → H' b = some o → H2 b = some o) : Grp H H2 d ps (pre ++ [v]) (gs ++ [(prt ps v, l)]) := by
  have hm : prt ps v ∉ pre.map (prt ps) := by
    rw [← mem_eraseDups', ← h.keys]
    exact hn
  have nl : l ≠ d := fun z => by
    rw [z, h.at_] at hl
    cases hl
  have none_of : pre.filter (fun x => prt ps x == prt ps v) = [] := List.filter_eq_nil_iff.mpr fun x hx z => hm (by
    have z : prt ps x = prt ps v := by simpa using z
    rw [← z]
    exact List.mem_map.mpr ⟨x, hx, rfl⟩)
  refine ⟨e1, ?_, fun g hg => ?_, ?_, h.hd⟩
  · rw [List.map_append, List.map_append, List.map_singleton, List.map_singleton, eraseDups_snoc, if_neg hm, h.keys]
  · rcases List.mem_append.mp hg with hg | hg
    · obtain ⟨l1, l2, l3⟩ := h.lists g hg
      refine ⟨?_, l2, l3⟩
      rw [filter_snoc, if_neg (fun z => hn (by rw [z]; exact List.mem_map.mpr ⟨g, hg, rfl⟩)), List.append_nil]
      exact e3 _ _ l3 (ne_of_none l1 hl) l1
    · rw [List.mem_singleton.mp hg]
      refine ⟨?_, hH, nl⟩
      show H2 l = _
      rw [filter_snoc, none_of, if_pos rfl, e2]
      rfl
  · rw [List.map_append]
    refine List.nodup_append.mpr ⟨h.nd, by simp, fun x hx y hy => ?_⟩
    have ey : y = l := by simpa using hy
    obtain ⟨g, hg, ex⟩ := List.mem_map.mp hx
    rw [ey, ← ex]
    exact ne_of_none (h.lists g hg).1 hl
section
variable {P : Program} {w : World} {K : PySem.W.Frag} {mg : Str → Option Value} {base : Heap} {a : Ads}
/-- the addresses ts hold tuples of the numbers of us -/
abbrev Tups (H : Hp) (ts : List Addr) (us : List (List Nat)) : Prop := Paired (fun t (u : List Nat) => H t = some (.tup (u.map vI))) ts us
def spParted : Sp := fun vs H Q _ => ∃ (s q : Addr) (ss ps : List Nat), vs = [.ref s, .ref q] ∧ H s = some (.tup (ss.map vI)) ∧ H q = some (.lst (ps.map vI)) ∧ (∀ v ∈ ss, v < ps.length) ∧ ss.length ≤ 6 ∧
  ∀ H' p ts, Same H H' → H' p = some (.lst (ts.map V.ref)) → Tups H' ts (Si94.split ps ss) → Q (.ref p) H'
def rTupOf (K : PySem.W.Frag) : List V → Hp → VK → Prop := fun xs H Q => ∃ p ys, xs = [.ref p] ∧ ((SqL K H p ys ∧ ∀ l, H l = none → Q (.ref l) (upd H l (.tup ys))) ∨ (SqT K H p ys ∧ Q (.ref p) H))
theorem cr_tupOf {X : Cx} : CallR X (.type "tuple") (rTupOf X.K) := call_tuple_of
theorem ok10 (T : Txt K mg a) : FnOk P w K mg base CX0 1 (a.f 10) (a.d 10) ["some", "parts"] spParted := by
  refine T.F10.ok sc10 (fun vs H Q E h => ?_) (fun cdv A outer s H vs Q E hr h => ?_)
  · obtain ⟨s, q, ss, ps, rfl, _⟩ := h
    rfl
  · have hu := hu_of hr
    refine ⟨_, pss_cons (ps_set (i := 2) sc10.nd rfl (Or.inr rfl) pe_dnewK)
      (pss_cons (ps_for PassesOwn.never rfl (pi_tup (pv 0)) (pg_name (i := 3) sc10.nd rfl (Or.inl rfl))
        (pss_one (ps_expr (pe_bm PySem.F.plainAttrs_list PySem.F.slot_list_append PySem.F.type_list_append mt_append
          (pe_dsetd (pv 2) (pe_ix ix_list (pv 1) (pv 3) (fun _ _ => rfl)) (pe_lst pa_nil) ⟨rfl, rfl, rfl, rfl⟩) (pa_cons (pv 3) pa_nil)))))
      (pss_one (ps_ret (pe_lock (pe_lc (own := [("part", 4)]) (g := gName 4) (tt := tYes) rfl sc10.nd (pi_keys (pv 2)) (blkOk_by (N := N10) (sc := defScope s10) (by decide +kernel))
        (fun _ _ _ _ _ => pg_name (i := 4) sc10.nd rfl (Or.inl rfl)) (fun _ _ _ _ _ => pts_nil)
        (fun _ _ _ _ _ => pe_callTy (r := rTupOf K) cr_tupOf (by rfl) T.b_tuple (by decide +kernel) (pa_cons (pe_dget hu (pv 2) (pv 4) (fun _ _ => rfl)) pa_nil))))))), ?_⟩
    obtain ⟨s, q, ss, ps, rfl, hs, hq, hv, hl, k⟩ := h
    intro d hd
    have s0 : Same H (upd H d (.dK [])) := same_new hd
    refine ⟨_, rfl, s, rfl, ⟨_, SqT.of (s0 _ _ hs)⟩, for_tup (K := K) (a := s) (xs := ss.map vI)
      (fun i σ H' => ∃ v3, σ = [some (.ref s), some (.ref q), some (.ref d), v3, none] ∧ Same H H' ∧ ∃ gs, Grp H H' d ps (ss.take i) gs)
      ⟨none, rfl, s0, [], upd_same, rfl, fun g hg => by simp at hg, List.nodup_nil, hd⟩ (fun i σ H' _ ⟨_, _, s1, _⟩ => SqT.of (s1 _ _ hs)) ?_ ?_⟩
    · rintro i x σ H1 hi ⟨v3, rfl, s1, gs, G⟩
      rw [List.getElem?_map] at hi
      cases ev : ss[i]? with
      | none => rw [ev] at hi; cases hi
      | some v =>
        rw [ev] at hi
        obtain rfl : vI v = x := Option.some.inj hi
        have hvl := hv v (List.mem_of_getElem? ev)
        rw [take_snoc ev]
        have hgl : (gKV gs).length < sizeLine := by
          unfold gKV
          rw [List.length_map]
          have := gs_len G
          rw [List.length_take] at this
          exact small7 (by omega)
        have hat : (ps.map vI)[v]? = some (vI (prt ps v)) := by rw [List.getElem?_map, getD_at 0 hvl]; rfl
        refine ⟨_, rfl, d, rfl, .inl ⟨_, .inl G.at_⟩, _, rfl, _, rfl, q, _, _, _, rfl, rfl, SqL.of (s1 _ _ hq), atI_nat hat, by decide, fun l hlf => ⟨_, Sum.inl (prt ps v : Int), ?_, rfl, hgl, fun u hu2 => ?_, fun hn => ?_⟩⟩
        · rw [upd_ne (ne_of_none G.at_ hlf)]
          exact G.at_
        · rw [valV_gs] at hu2
          cases ef : gs.find? fun g => g.1 == prt ps v with
          | none => rw [ef] at hu2; cases hu2
          | some g =>
            rw [ef] at hu2
            obtain rfl : V.ref g.2 = u := Option.some.inj hu2
            have hg := List.mem_of_find?_eq_some ef
            have e1 : g.1 = prt ps v := by simpa using List.find?_some ef
            obtain ⟨l1, l2, l3⟩ := G.lists g hg
            have nl : g.2 ≠ l := ne_of_none l1 hlf
            have G' := grp_old G hg e1
            refine ⟨.inl ⟨rfl, _, SqL.of (by rw [upd_ne nl]; exact l1)⟩, _, rfl, g.2, _, _, rfl, rfl, by rw [upd_ne nl]; exact l1, ?_, ?_⟩
            · rw [List.length_map]
              have := List.length_filter_le (fun x => prt ps x == g.1) (ss.take i)
              rw [List.length_take] at this
              exact small7 (by omega)
            · refine ⟨_, rfl, same_upd (same_upd s1 (s1.free hlf)) l2, gs, ?_⟩
              refine ⟨?_, G'.keys, fun g' hg' => ?_, G'.nd, G'.hd⟩
              · rw [upd_ne (Ne.symm l3), upd_ne (ne_of_none G.at_ hlf)]
                exact G.at_
              · obtain ⟨m1, m2, m3⟩ := G'.lists g' hg'
                refine ⟨?_, m2, m3⟩
                by_cases c : g'.2 = g.2
                · rw [c, upd_same]
                  rw [c, upd_same] at m1
                  exact m1
                · rw [upd_ne c] at m1 ⊢
                  rw [upd_ne (ne_of_none m1 hlf)]
                  exact m1
        · have hn2 : prt ps v ∉ gs.map (·.1) := fun z => by
            rw [valV_gs] at hn
            cases ef : gs.find? fun g => g.1 == prt ps v with
            | some g => rw [ef] at hn; cases hn
            | none =>
              obtain ⟨g, hg, eg⟩ := List.mem_map.mp z
              have := List.find?_eq_none.mp ef g hg
              simp [eg] at this
          have nd : d ≠ l := ne_of_none G.at_ hlf
          rw [putK_new _ hn]
          refine ⟨.inl ⟨rfl, _, SqL.of (by rw [upd_ne (Ne.symm nd)]; exact upd_same)⟩, _, rfl, l, _, _, rfl, rfl, by rw [upd_ne (Ne.symm nd)]; exact upd_same, by decide, ?_⟩
          refine ⟨_, rfl, ?_, gs ++ [(prt ps v, l)], grp_new G hlf (s1.free hlf) hn2 ?_ upd_same fun b o nb nl e => ?_⟩
          · exact same_upd (same_upd (same_upd s1 (s1.free hlf)) G.hd) (s1.free hlf)
          · rw [upd_ne nd, upd_same]
            unfold gKV
            rw [List.map_append]
            rfl
          · rw [upd_ne nl, upd_ne nb, upd_ne nl]
            exact e
    · rintro σ H1 ⟨v3, rfl, s1, gs, G⟩
      rw [List.length_map, List.take_length] at G
      refine ⟨d, _, G.at_, trivial, fun od => ⟨_, rfl, d, od, rfl, .inl ⟨_, upd_same, fun D hD => ?_⟩⟩⟩
      have nD : d ≠ D := ne_of_none upd_same hD
      have hD1 : H1 D = none := by rw [upd_ne (Ne.symm nD)] at hD; exact hD
      refine lc_keys (fun i H' => (∀ b o, b ≠ d → H1 b = some o → H' b = some o) ∧ H' d = some (.frz od (.dK (gKV gs))) ∧ ∃ ts : List Addr, H' D = some (.lst (ts.map V.ref)) ∧ (∀ t ∈ ts, t ≠ D ∧ t ≠ d) ∧ Tups H' ts ((gs.take i).map fun g => ss.filter fun v => prt ps v == g.1))
        ⟨fun b o nb e => by rw [upd_ne (ne_of_none e hD1), upd_ne nb]; exact e, by rw [upd_ne nD]; exact upd_same, [], upd_same, fun t ht => by simp at ht, .nil⟩ (fun i H' _ ⟨_, e, _⟩ => e) (fun i kk v H2 hi ⟨s2, e2, ts, t1, t2, t3⟩ => ?_) (fun H2 ⟨s2, e2, ts, t1, t2, t3⟩ => ?_)
      · have hi' : (gs.map fun g => ((Sum.inl (g.1 : Int) : Key), V.ref g.2))[i]? = some (kk, v) := hi
        rw [List.getElem?_map] at hi'
        cases eg : gs[i]? with
        | none => rw [eg] at hi'; cases hi'
        | some g =>
          rw [eg] at hi'
          obtain ⟨rfl, rfl⟩ := Prod.mk.inj (Option.some.inj hi')
          have hg := List.mem_of_getElem? eg
          obtain ⟨l1, l2, l3⟩ := G.lists g hg
          have hval : valV (gKV gs) (Sum.inl (g.1 : Int)) = some (.ref g.2) := by
            rw [valV_gs]
            have k1 : (gs.map (·.1)).Nodup := by rw [G.keys]; exact dups_nodup _
            cases ef : gs.find? fun x => x.1 == g.1 with
            | none =>
              have := List.find?_eq_none.mp ef g hg
              simp at this
            | some g' =>
              have e1 : g'.1 = g.1 := by simpa using List.find?_some ef
              obtain ⟨j, hj⟩ := List.getElem?_of_mem (List.mem_of_find?_eq_some ef)
              have := nd_ix k1 (i := i) (j := j) (x := g.1) (by rw [List.getElem?_map, eg]; rfl) (by rw [List.getElem?_map, hj, ← e1]; rfl)
              subst this
              rw [eg] at hj
              rw [← Option.some.inj hj]
              rfl
          refine ⟨rfl, _, rfl, _, rfl, d, _, rfl, .inl ⟨_, Sum.inl (g.1 : Int), .inr ⟨od, e2⟩, rfl, hval.symm⟩, g.2, _, rfl, .inl ⟨SqL.of (s2 _ _ l3 l1), fun t ht => ?_⟩⟩
          have ntD : D ≠ t := ne_of_none t1 ht
          have ntd : d ≠ t := ne_of_none e2 ht
          refine ⟨_, by rw [upd_ne ntD]; exact t1, ?_, fun b o nb e => ?_, by rw [upd_ne nD, upd_ne ntd]; exact e2, ts ++ [t], by rw [upd_same, List.map_append]; rfl, fun x hx => ?_, ?_⟩
          · rw [List.length_map, paired_len t3, List.length_map, List.length_take]
            have := gs_len G
            exact small7 (by omega)
          · rw [upd_ne (ne_of_none e hD1), upd_ne (ne_of_none (s2 b o nb e) ht)]
            exact s2 b o nb e
          · rcases List.mem_append.mp hx with hx | hx
            · exact t2 x hx
            · rw [List.mem_singleton.mp hx]
              exact ⟨Ne.symm ntD, Ne.symm ntd⟩
          · rw [take_snoc eg, List.map_append]
            refine paired_app (paired_imp_mem t3 fun x u hx e => ?_) (.cons ?_ .nil)
            · rw [upd_ne (t2 x hx).1, upd_ne (ne_of_none e ht)]
              exact e
            · rw [upd_ne (Ne.symm ntD)]
              exact upd_same
      · refine ⟨e2, k _ D ts (fun b o e => ?_) (by rw [upd_ne (Ne.symm nD)]; exact t1) ?_⟩
        · have nb : b ≠ d := ne_of_none e G.hd
          rw [upd_ne nb]
          exact s2 b o nb (s1 b o e)
        · unfold gKV at t3
          rw [List.length_map, List.take_length] at t3
          have e3 : (gs.map fun g => ss.filter fun v => prt ps v == g.1) = Si94.split ps ss := by
            unfold Si94.split
            have : (gs.map fun g => ss.filter fun v => prt ps v == g.1) = (gs.map (·.1)).map fun k => ss.filter fun v => prt ps v == k := by rw [List.map_map]; rfl
            rw [this, G.keys]
          rw [e3] at t3
          exact paired_imp_mem t3 fun x u hx e => by rw [upd_ne (t2 x hx).2]; exact e
end
end RB
end
section
namespace RB
open PySem PySem.Spec PyProof.Rows L2
open Si94 (Chase News worstOf)
/-- e.f within a comprehension -/
theorem pe_fldK {X : Cx} {K : PySem.W.Frag} {e : Expr} {f : Str} {pos : Pos} {ta : TE} (hK : X.K = K) (he : PE X e ta) (hb : attributeBase e f X.env (eval e X.env) = eval e X.env := by rfl) : PE X (.Attribute e f pos) (tFld K ta f) := by
  subst hK
  exact pe_fld he hb
/-! ### lists of minutes, none among them or not -/
theorem inV_none : ∀ l : List (Option Nat), inV .non (l.map vO) = decide (none ∈ l)
  | [] => rfl
  | none :: l => by simp [inV, eqV, vO]
  | some n :: l => by
    have ih := inV_none l
    unfold inV at ih ⊢
    rw [List.map_cons, List.any_cons, ih]
    simp [eqV, vO]
theorem flat_vO (l : List (Option Nat)) : (l.map vO).all flatV = true := by
  rw [List.all_eq_true]
  intro x hx
  obtain ⟨o, _, rfl⟩ := List.mem_map.mp hx
  cases o <;> rfl
theorem max_read {l : List (Option Nat)} (h : none ∉ l) (hne : l ≠ []) : ∃ ns : List Int, l.map vO = ns.map V.int ∧ 0 < ns.length ∧ ∀ m ∈ ns, (∀ k ∈ ns, k ≤ m) → V.int m = vO (worstOf l) := by
  obtain ⟨xs, rfl⟩ := all_some h
  refine ⟨xs.map fun (n : Nat) => (n : Int), by rw [List.map_map, List.map_map]; rfl, ?_, fun m hm hk => ?_⟩
  · rw [List.length_map]
    cases xs with
    | nil => exact (hne rfl).elim
    | cons x xs => simp
  · obtain ⟨n, hn, rfl⟩ := List.mem_map.mp hm
    rw [worst_is (m := n) (List.mem_map.mpr ⟨n, hn, rfl⟩) fun o ho => ?_]
    · rfl
    · obtain ⟨j, hj, rfl⟩ := List.mem_map.mp ho
      exact ⟨j, rfl, by have := hk _ (List.mem_map.mpr ⟨j, hj, rfl⟩); omega⟩
theorem worst_no {l : List (Option Nat)} (h : none ∈ l) : vO (worstOf l) = .non := by
  rw [worst_none h]
  rfl
/-! ### a search on the heap -/
/-- what is stored is right -/
def MemOk (c : Chase) (x : NestedKey × Addr × Value) : Prop := ∃ b g s, x.1 = key3 b g s ∧ b < 6 ∧ g ≤ 3 ∧ s.Sublist (List.range 6) ∧ RelV (vO (c.value c.ways (c.news.drop g) (sinceOf c g) b s)) x.2.2
def MemS (P : Program) (w : World) (c : Chase) (H : Hp) (d : Addr) : Prop := ∃ xs, MemAt P w H d xs ∧ ∀ x ∈ xs, MemOk c x
theorem KeyAt.same {H H' : Hp} (k : ∀ b ys, H b = some (.tup ys) → H' b = some (.tup ys)) {a : Addr} {key : NestedKey} (h : KeyAt H a key) : KeyAt H' a key := by
  obtain ⟨b, g, s, t, e, h1, h2⟩ := h
  exact ⟨b, g, s, t, e, k _ _ h1, k _ _ h2⟩
theorem MemS.same {P : Program} {w : World} {c : Chase} {H H' : Hp} {d : Addr} (s : Same H H') (h : MemS P w c H d) : MemS P w c H' d := by
  obtain ⟨xs, m, h2⟩ := h
  exact ⟨xs, ⟨s _ _ m.at_, fun x hx => (m.keys x hx).same fun b ys e => s _ _ e, m.nd⟩, h2⟩
def sF (pc pd d : Addr) : List (Str × V) := [("chase", .ref pc), ("drives", .ref pd), ("found", .ref d)]
/-- the search at s: its chase, its drives, its dict at d -/
structure SearchAt (A : Ads) (H : Hp) (s d : Addr) (c : Chase) : Prop where
  ins : ∃ dx pc pd, H s = some (.ins A.cSe dx (sF pc pd d)) ∧ (∃ pr pn, ChaseAt A.cCh H pc pr pn c) ∧ TableAt H pd c.ways
  good : Good c
theorem SearchAt.same {A : Ads} {H H' : Hp} {s d : Addr} {c : Chase} (k : Same H H') (h : SearchAt A H s d c) : SearchAt A H' s d c := by
  obtain ⟨⟨dx, pc, pd, h1, ⟨pr, pn, h2⟩, h3⟩, g⟩ := h
  exact ⟨⟨dx, pc, pd, k _ _ h1, ⟨pr, pn, h2.same k⟩, h3.same k⟩, g⟩
/-- all but the dict is as it was -/
structure Sm (P : Program) (w : World) (H H' : Hp) (d : Addr) : Prop where
  f : ∀ b o, (∀ xs, o ≠ memO P w d xs) → H b = some o → H' b = some o
  b : But d H H'
theorem Sm.lst {P : Program} {w : World} {H H' : Hp} {d b : Addr} {xs : List V} (s : Sm P w H H' d) (h : H b = some (.lst xs)) : H' b = some (.lst xs) := s.f b _ (fun _ e => memO_lst e.symm) h
theorem Sm.tup {P : Program} {w : World} {H H' : Hp} {d b : Addr} {xs : List V} (s : Sm P w H H' d) (h : H b = some (.tup xs)) : H' b = some (.tup xs) := s.f b _ (fun _ e => memO_tup e.symm) h
theorem Sm.ins {P : Program} {w : World} {H H' : Hp} {d b C dx : Addr} {fs : List (Str × V)} (s : Sm P w H H' d) (h : H b = some (.ins C dx fs)) : H' b = some (.ins C dx fs) := s.f b _ (fun _ e => memO_ins e.symm) h
theorem Same.sm {P : Program} {w : World} {H H' : Hp} {d : Addr} (s : Same H H') : Sm P w H H' d := ⟨fun b o _ e => s b o e, Same.but d s⟩
theorem Sm.refl {P : Program} {w : World} {H : Hp} {d : Addr} : Sm P w H H d := ⟨fun _ _ _ e => e, .refl d H⟩
theorem Sm.trans {P : Program} {w : World} {H H1 H2 : Hp} {d : Addr} (a : Sm P w H H1 d) (b : Sm P w H1 H2 d) : Sm P w H H2 d := ⟨fun c o n e => b.f c o n (a.f c o n e), a.b.trans b.b⟩
theorem ChaseAt.sm {P : Program} {w : World} {C : Addr} {H H' : Hp} {a pr pn d : Addr} {c : Chase} (s : Sm P w H H' d) (h : ChaseAt C H a pr pn c) : ChaseAt C H' a pr pn c := by
  obtain ⟨⟨dx, pm, h1, h2, h3⟩, ⟨ts, r1, r2⟩, ⟨us, n1, n2⟩, h6⟩ := h
  exact ⟨⟨dx, pm, s.ins h1, s.lst h2, h3⟩, ⟨ts, s.lst r1, paired_imp r2 fun _ _ e => s.tup e⟩, ⟨us, s.lst n1, paired_imp n2 fun _ _ ⟨q, e1, e2, e3⟩ => ⟨q, s.tup e1, s.lst e2, e3⟩⟩, h6⟩
theorem TableAt.sm {P : Program} {w : World} {H H' : Hp} {p d : Addr} {t : Tb} (s : Sm P w H H' d) (h : TableAt H p t) : TableAt H' p t := by
  obtain ⟨rows, h1, h2⟩ := h
  exact ⟨rows, s.lst h1, paired_imp h2 fun _ _ e => s.lst e⟩
theorem SearchAt.sm {P : Program} {w : World} {A : Ads} {H H' : Hp} {s d : Addr} {c : Chase} (k : Sm P w H H' d) (h : SearchAt A H s d c) : SearchAt A H' s d c := by
  obtain ⟨⟨dx, pc, pd, h1, ⟨pr, pn, h2⟩, h3⟩, g⟩ := h
  exact ⟨⟨dx, pc, pd, k.ins h1, ⟨pr, pn, h2.sm k⟩, h3.sm k⟩, g⟩
theorem ways_sq {c : Chase} (g : Good c) : Sq c.places c.ways := (ways_tells g.rd).1
theorem inTime_len (n : Nat) (t : Tb) (p u v : Nat) : (inTime n t p u v).length ≤ n := by
  have := List.length_filter_le (fun q => match Si94.far t p q with
    | none => false
    | some m => decide (u + m ≤ v)) (List.range n)
  rw [List.length_range] at this
  exact this
theorem inTime_lt {n : Nat} {t : Tb} {p u v q : Nat} (h : q ∈ inTime n t p u v) : q < n := List.mem_range.mp (List.mem_filter.mp h).1
section
variable {P : Program} {w : World} {K : PySem.W.Frag} {mg : Str → Option Value} {base : Heap} {a : Ads}
def spSInit (P : Program) (w : World) (a : Ads) : Sp := fun vs H Q _ => ∃ (s dx pc pr pn : Addr) (c : Chase), vs = [.ref s, .ref pc] ∧ H s = some (.ins a.cSe dx []) ∧ ChaseAt a.cCh H pc pr pn c ∧ Good c ∧
  ∀ H' d, SearchAt a H' s d c → MemS P w c H' d → (∀ b o, H b = some o → b ≠ s → H' b = some o) → H d = none → Q .non H'
theorem ok21 (T : Txt K mg a) : FnOk P w K mg base CX0 5 (a.f 21) (a.d 21) ["self", "chase"] (spSInit P w a) := by
  have G13 : FnOk P w K mg base CX0 4 (a.f 13) (a.d 13) ["self"] (spTable a.cCh) := ok13 T
  refine T.F21.ok sc21 (fun vs H Q E h => ?_) (fun cdv A outer s H vs Q E hr h => ?_)
  · obtain ⟨s, dx, pc, pr, pn, c, rfl, _⟩ := h
    rfl
  · refine ⟨_, pss_cons (ps_fld (pv 0) (pv 1) rfl) (pss_cons (ps_fld (pv 0) (pe_meth0 (pv 1) T.lCh T.M13 G13 hr (b13 T) .nil pass0) rfl) (pss_one (ps_fld (pv 0) pe_memNew rfl))), ?_⟩
    obtain ⟨s, dx, pc, pr, pn, c, rfl, hs, hc, g, k⟩ := h
    have np : pc ≠ s := fun z => by
      obtain ⟨dx', pm, e, _⟩ := hc.ins
      rw [z, hs] at e
      have e := Option.some.inj e
      injection e with _ _ e3
      cases e3
    refine ⟨_, rfl, _, rfl, s, _, _, _, rfl, hs, T.lSe, T.nSe_chase, (by show 0 < 1000; decide), ?_⟩
    obtain ⟨H1, e1⟩ : ∃ H1, upd H s (.ins a.cSe dx (putF "chase" (.ref pc) [])) = H1 := ⟨_, rfl⟩
    have hs1 : H1 s = some (.ins a.cSe dx (putF "chase" (.ref pc) [])) := by rw [← e1]; exact upd_same
    have old : ∀ b o, H b = some o → b ≠ s → H1 b = some o := fun b o e nb => by rw [← e1, upd_ne nb]; exact e
    have nos : ∀ {b : Addr} {o : HO}, H b = some o → o ≠ .ins a.cSe dx [] → b ≠ s := fun {b o} e n z => by
      rw [z, hs] at e
      exact n (Option.some.inj e).symm
    have hc1 : ChaseAt a.cCh H1 pc pr pn c := by
      obtain ⟨⟨dx', pm, h1, h2, h3⟩, ⟨ts, r1, r2⟩, ⟨us, n1, n2⟩, h6⟩ := hc
      exact ⟨⟨dx', pm, old _ _ h1 np, old _ _ h2 (nos h2 (by intro z; cases z)), h3⟩, ⟨ts, old _ _ r1 (nos r1 (by intro z; cases z)), paired_imp r2 fun _ _ e => old _ _ e (nos e (by intro z; cases z))⟩,
        ⟨us, old _ _ n1 (nos n1 (by intro z; cases z)), paired_imp n2 fun _ _ ⟨q, e1, e2, e3⟩ => ⟨q, old _ _ e1 (nos e1 (by intro z; cases z)), old _ _ e2 (nos e2 (by intro z; cases z)), e3⟩⟩, h6⟩
    rw [e1]
    obtain ⟨dxc, pmc, hci, _⟩ := hc1.ins
    refine ⟨_, rfl, pc, _, _, rfl, hci, rfl, pc, pr, pn, c, rfl, hc1, g, fun H2 pd s2 t2 => ?_⟩
    refine ⟨_, rfl, s, _, _, _, rfl, s2 _ _ hs1, T.lSe, T.nSe_drives, (by show 1 < 1000; decide), ?_⟩
    obtain ⟨H3, e3⟩ : ∃ H3, upd H2 s (.ins a.cSe dx (putF "drives" (.ref pd) (putF "chase" (.ref pc) []))) = H3 := ⟨_, rfl⟩
    have hs3 : H3 s = some (.ins a.cSe dx (putF "drives" (.ref pd) (putF "chase" (.ref pc) []))) := by rw [← e3]; exact upd_same
    have old3 : ∀ b o, H2 b = some o → b ≠ s → H3 b = some o := fun b o e nb => by rw [← e3, upd_ne nb]; exact e
    have nos3 : ∀ {b : Addr} {xs : List V}, H2 b = some (.lst xs) → b ≠ s := fun {b xs} e z => by
      rw [z, s2 _ _ hs1] at e
      cases e
    have nos4 : ∀ {b : Addr} {xs : List V}, H2 b = some (.tup xs) → b ≠ s := fun {b xs} e z => by
      rw [z, s2 _ _ hs1] at e
      cases e
    have hc3 : ChaseAt a.cCh H3 pc pr pn c := by
      obtain ⟨⟨dx', pm, h1, h2, h3⟩, ⟨ts, r1, r2⟩, ⟨us, n1, n2⟩, h6⟩ := hc1.same s2
      exact ⟨⟨dx', pm, old3 _ _ h1 np, old3 _ _ h2 (nos3 h2), h3⟩, ⟨ts, old3 _ _ r1 (nos3 r1), paired_imp r2 fun _ _ e => old3 _ _ e (nos4 e)⟩,
        ⟨us, old3 _ _ n1 (nos3 n1), paired_imp n2 fun _ _ ⟨q, e1, e2, e3⟩ => ⟨q, old3 _ _ e1 (nos4 e1), old3 _ _ e2 (nos3 e2), e3⟩⟩, h6⟩
    have t3 : TableAt H3 pd c.ways := by
      obtain ⟨rows, h1, h2⟩ := t2
      exact ⟨rows, old3 _ _ h1 (nos3 h1), paired_imp h2 fun _ _ e => old3 _ _ e (nos3 e)⟩
    rw [e3]
    intro d hd
    have nd : s ≠ d := ne_of_none hs3 hd
    refine ⟨_, rfl, s, _, _, _, rfl, by rw [upd_ne nd]; exact hs3, T.lSe, T.nSe_found, (by show 2 < 1000; decide), ?_⟩
    have old5 : ∀ b o, H3 b = some o → b ≠ s → (upd (upd H3 d (memO P w d [])) s (.ins a.cSe dx (putF "found" (.ref d) (putF "drives" (.ref pd) (putF "chase" (.ref pc) []))))) b = some o := fun b o e nb => by
      rw [upd_ne nb, upd_ne (ne_of_none e hd)]
      exact e
    have nos5 : ∀ {b : Addr} {xs : List V}, H3 b = some (.lst xs) → b ≠ s := fun {b xs} e z => by
      rw [z, hs3] at e
      cases e
    have nos6 : ∀ {b : Addr} {xs : List V}, H3 b = some (.tup xs) → b ≠ s := fun {b xs} e z => by
      rw [z, hs3] at e
      cases e
    refine k _ d ⟨⟨dx, pc, pd, upd_same, ⟨pr, pn, ?_⟩, ?_⟩, g⟩ ⟨[], ⟨by rw [upd_ne (Ne.symm nd)]; exact upd_same, fun x hx => by simp at hx, List.nodup_nil⟩, fun x hx => by simp at hx⟩ (fun b o e nb => old5 b o (old3 b o (s2 b o (old b o e nb)) nb) nb) ?_
    · obtain ⟨⟨dx', pm, h1, h2, h3⟩, ⟨ts, r1, r2⟩, ⟨us, n1, n2⟩, h6⟩ := hc3
      exact ⟨⟨dx', pm, old5 _ _ h1 np, old5 _ _ h2 (nos5 h2), h3⟩, ⟨ts, old5 _ _ r1 (nos5 r1), paired_imp r2 fun _ _ e => old5 _ _ e (nos6 e)⟩,
        ⟨us, old5 _ _ n1 (nos5 n1), paired_imp n2 fun _ _ ⟨q, e1, e2, e3⟩ => ⟨q, old5 _ _ e1 (nos6 e1), old5 _ _ e2 (nos5 e2), e3⟩⟩, h6⟩
    · obtain ⟨rows, h1, h2⟩ := t3
      exact ⟨rows, old5 _ _ h1 (nos5 h1), paired_imp h2 fun _ _ e => old5 _ _ e (nos5 e)⟩
    · cases e : H d with
      | none => rfl
      | some o =>
        have := old3 d o (s2 d o (old d o e (Ne.symm nd))) (Ne.symm nd)
        rw [hd] at this
        cases this
end
end RB
end
section
namespace RB
open PySem PySem.Spec PyProof.Rows L2
open Si94 (Chase News worstOf)
section
variable {P : Program} {w : World} {K : PySem.W.Frag} {mg : Str → Option Value} {base : Heap} {a : Ads}
def spInTime (a : Ads) : Sp := fun vs H Q _ => ∃ (s d : Addr) (c : Chase) (b t u : Nat), vs = [.ref s, vI b, vI t, vI u] ∧ SearchAt a H s d c ∧ b < c.places ∧
  ∀ H' p, Same H H' → H p = none → H' p = some (.lst ((inTime c.places c.ways b t u).map vI)) → Q (.ref p) H'
theorem ok22 (T : Txt K mg a) : FnOk P w K mg base CX0 1 (a.f 22) (a.d 22) ["self", "begin", "since", "until"] (spInTime a) := by
  refine T.F22.ok sc22 (fun vs H Q E h => ?_) (fun cdv A outer s H vs Q E hr h => ?_)
  · obtain ⟨s, d, c, b, t, u, rfl, _⟩ := h
    rfl
  · refine ⟨_, pss_cons (ps_set (i := 4) sc22.nd rfl (Or.inr rfl) (pe_ix ix_list (pe_fld (pv 0) rfl) (pv 1) (fun _ _ => rfl)))
      (pss_one (ps_ret (pe_lc (own := [("place", 5)]) (g := gName 5) rfl sc22.nd (pi_range1 (by rfl) T.b_range (pa_cons (pe_callB call_len_seq (by rfl) T.b_len PySem.boot_len (pa_cons (pv 4) pa_nil)) pa_nil)) (blkOk_by (N := N22) (sc := defScope s22) (by decide +kernel))
        (fun _ _ _ _ _ => pg_name (i := 5) sc22.nd rfl (Or.inl rfl))
        (fun _ _ _ _ _ => pts_one (PW.pt (pw_and (pt_cmp (pc_notN (pe_ix (r := rIxL K) ix_list (pv 4) (pv 5) (fun _ _ => rfl)))) (pw_and1 (pt_cmpR op_le (pe_op op_add (pv 2) (pe_ix (r := rIxL K) ix_list (pv 4) (pv 5) (fun _ _ => rfl))) (pv 3) (nomark _))))))
        (fun _ _ _ _ _ => pv 5)))), ?_⟩
    obtain ⟨s, d, c, b, t, u, rfl, S, hb, k⟩ := h
    have hS := S
    obtain ⟨⟨dx, pc, pd, h1, _, h3⟩, g⟩ := S
    have hsq := ways_sq g
    obtain ⟨rows, r, t1, t2, t3⟩ := h3.row hsq hb
    have hl := (getD_mem hsq hb).2.2
    refine ⟨_, rfl, s, _, _, _, _, rfl, h1, T.lSe, T.nSe_drives, rfl, _, rfl, pd, _, _, _, rfl, rfl, SqL.of t1, atI_nat t2, ?_⟩
    have p6 := g.p6
    refine ⟨_, rfl, r, _, rfl, .inl (SqL.of t3), _, rfl, by rw [List.length_map, hl]; omega, by rw [List.length_map, hl]; omega, fun D hD => ?_⟩
    rw [List.length_map, hl]
    have key : ∀ q : Nat, q < c.places → ((c.ways.getD b []).map vO)[q]? = some (vO (Si94.far c.ways b q)) := fun q hq => row_at hsq hb hq
    refine lc_range (lo := 0) (n := c.places) (fun i H' => Same H H' ∧ H' D = some (.lst (((List.range i).filter fun q => match Si94.far c.ways b q with
      | none => false
      | some m => decide (t + m ≤ u)).map vI))) ⟨same_new hD, upd_same⟩ (fun i H1 hi ⟨s1, e1⟩ => ?_) (fun H1 ⟨s1, e1⟩ => k _ D s1 hD e1)
    have ez : (0 : Int) + (i : Int) = (i : Int) := Int.zero_add _
    refine ⟨rfl, _, rfl, _, rfl, r, _, _, _, rfl, rfl, SqL.of (s1 _ _ t3), at_of ez (key i hi), _, rfl, ?_⟩
    have len : (((List.range i).filter fun q => match Si94.far c.ways b q with
      | none => false
      | some m => decide (t + m ≤ u)).map vI).length < sizeLine := by
      rw [List.length_map]
      have := List.length_filter_le (fun q => match Si94.far c.ways b q with
        | none => false
        | some m => decide (t + m ≤ u)) (List.range i)
      rw [List.length_range] at this
      exact small7 (by omega)
    cases ef : Si94.far c.ways b i with
    | none =>
      refine if_false_of rfl (if_false_of rfl ⟨s1, ?_⟩)
      rw [e1, List.range_succ, List.filter_append]
      simp [ef]
    | some m =>
      refine if_true_of rfl ⟨_, rfl, _, rfl, _, rfl, r, _, _, vI m, rfl, rfl, SqL.of (s1 _ _ t3), at_of ez (by rw [key i hi, ef]; rfl), _, _, rfl, rfl, _, rfl, _, _, rfl, rfl, _, rfl, ?_⟩
      by_cases cm : t + m ≤ u
      · refine if_true_of (decide_eq_true (by omega)) ⟨_, rfl, _, e1, len, same_upd s1 hD, ?_⟩
        rw [upd_same, List.range_succ, List.filter_append, List.map_append]
        have : [i].filter (fun q => match Si94.far c.ways b q with
          | none => false
          | some m => decide (t + m ≤ u)) = [i] := by
          rw [List.filter_cons_of_pos (by rw [ef]; exact decide_eq_true cm)]
          rfl
        rw [this, ez]
        rfl
      · refine if_false_of (decide_eq_false (by omega)) ⟨s1, ?_⟩
        rw [e1, List.range_succ, List.filter_append]
        have : [i].filter (fun q => match Si94.far c.ways b q with
          | none => false
          | some m => decide (t + m ≤ u)) = [] := by
          rw [List.filter_cons_of_neg (by rw [ef]; simpa using cm)]
          rfl
        rw [this, List.append_nil]
def spLateFrom (a : Ads) : Sp := fun vs H Q _ => ∃ (s d r : Addr) (c : Chase) (q : Nat) (ss : List Nat), vs = [.ref s, vI q, .ref r] ∧ SearchAt a H s d c ∧ q < c.places ∧ (H r = some (.lst (ss.map vI)) ∨ H r = some (.tup (ss.map vI))) ∧ ss ≠ [] ∧ (∀ v ∈ ss, v < c.places) ∧ ss.length ≤ 6 ∧
  ∀ H', Same H H' → Q (vO (lateFrom c.ways q ss)) H'
theorem ok23 (T : Txt K mg a) : FnOk P w K mg base CX0 1 (a.f 23) (a.d 23) ["self", "place", "some"] (spLateFrom a) := by
  refine T.F23.ok sc23 (fun vs H Q E h => ?_) (fun cdv A outer s H vs Q E hr h => ?_)
  · obtain ⟨s, d, r, c, q, ss, rfl, _⟩ := h
    rfl
  · refine ⟨_, pss_cons (ps_setLc (i := 3) (own := [("goal", 4)]) (g := gName 4) (tt := tYes) rfl sc23.nd rfl rfl (sw_true rfl rfl rfl (by decide +kernel)) (pi_or (pi_list (pv 2)) (pi_tup (pv 2))) (blkOk_by (N := N23) (sc := defScope s23) (by decide +kernel))
        (fun _ _ _ _ _ => pg_name (i := 4) sc23.nd rfl (Or.inl rfl)) (fun _ _ _ _ _ => pts_nil)
        (fun _ _ _ _ _ => pe_ix (r := rIxL K) ix_list (pe_ix (r := rIxL K) ix_list (pe_fldK (K := K) rfl (pv 0) rfl) (pv 1) (fun _ _ => rfl)) (pv 4) (fun _ _ => rfl)))
      (pss_cons (ps_if (pt_cmpR op_in_seq pe_non (pv 3) rfl) (pss_one (ps_ret pe_non)) pss_nil)
      (pss_one (ps_ret (pe_callB (cr_max rfl) (by rfl) T.b_max (by decide +kernel) (pa_cons (pv 3) pa_nil))))), ?_⟩
    obtain ⟨s, d, r, c, q, ss, rfl, S, hq, hr2, hne, hlt, hl6, k⟩ := h
    obtain ⟨⟨dx, pc, pd, h1, _, h3⟩, g⟩ := S
    have hsq := ways_sq g
    obtain ⟨rows, rr, t1, t2, t3⟩ := h3.row hsq hq
    -- one turn of the comprehension
    have turn : ∀ (D : Addr) (hD : H D = none) (i : Nat) (x : V) (H1 : Hp) (σ : L2.St), (ss.map vI)[i]? = some x → (Same H H1 ∧ H1 D = some (.lst (((ss.take i).map fun v => Si94.far c.ways q v).map vO))) →
        σ = [some (.ref s), some (vI q), some (.ref r), none, some x] →
        tOp (rIxL K) (tOp (rIxL K) (tFld K (tVar 0) "drives") (tVar 1)) (tVar 4) σ H1 fun y H4 => ∃ acc, H4 D = some (.lst acc) ∧ acc.length < sizeLine ∧ (Same H (upd H4 D (.lst (acc ++ [y]))) ∧ (upd H4 D (.lst (acc ++ [y]))) D = some (.lst (((ss.take (i + 1)).map fun v => Si94.far c.ways q v).map vO))) := by
      rintro D hD i x H1 σ hx ⟨s1, e1⟩ rfl
      rw [List.getElem?_map] at hx
      cases ev : ss[i]? with
      | none => rw [ev] at hx; cases hx
      | some v =>
        rw [ev] at hx
        obtain rfl : vI v = x := Option.some.inj hx
        have hv := hlt v (List.mem_of_getElem? ev)
        refine ⟨_, rfl, s, _, _, _, _, rfl, s1 _ _ h1, T.lSe, T.nSe_drives, rfl, _, rfl, pd, _, _, _, rfl, rfl, SqL.of (s1 _ _ t1), atI_nat t2, _, rfl, rr, _, _, _, rfl, rfl, SqL.of (s1 _ _ t3), atI_nat (row_at hsq hq hv), _, e1, ?_, same_upd s1 hD, ?_⟩
        · rw [List.length_map, List.length_map, List.length_take]
          exact small7 (by omega)
        · rw [upd_same, take_snoc ev, List.map_append, List.map_append]
          rfl
    -- behind it
    have fin : ∀ (D : Addr) (H1 : Hp), (Same H H1 ∧ H1 D = some (.lst (((ss.take (ss.map vI).length).map fun v => Si94.far c.ways q v).map vO))) →
        tSeq (tIfS (tTest (tOp (rIn K false) (tC .non) (tVar 3))) (tRet (tC .non)) tNext) (tRet (tCB (rMax K) (tCons (tVar 3) tNil))) { nx := fun _ H' => Q .non H', rt := Q } [some (.ref s), some (vI q), some (.ref r), some (.ref D), none] H1 := by
      rintro D H1 ⟨s1, e1⟩
      rw [List.length_map, List.take_length] at e1
      refine ⟨_, rfl, D, _, rfl, .inl (SqL.of e1), rfl, flat_vO _, _, rfl, ?_⟩
      by_cases hn : none ∈ ss.map fun v => Si94.far c.ways q v
      · refine if_true_of ((inV_none _).trans (decide_eq_true hn)) ?_
        have e : vO (lateFrom c.ways q ss) = .non := worst_no hn
        have := k H1 s1
        rw [e] at this
        exact this
      · refine if_false_of ((inV_none _).trans (decide_eq_false hn)) ?_
        obtain ⟨ns, en, hpos, hmax⟩ := max_read hn (fun e => hne (List.map_eq_nil_iff.mp e))
        rw [en] at e1
        refine ⟨_, rfl, D, ns, rfl, SqL.of e1, hpos, fun m hm hk => ?_⟩
        have := hmax m hm hk
        rw [this]
        exact k H1 s1
    rcases hr2 with hr2 | hr2
    · exact .inl ⟨_, rfl, r, rfl, ⟨_, SqL.of hr2⟩, fun D hD => lc_list (K := K) (a := r) (xs := ss.map vI) (fun i H' => Same H H' ∧ H' D = some (.lst (((ss.take i).map fun v => Si94.far c.ways q v).map vO)))
        ⟨same_new hD, upd_same⟩ (fun i H' _ ⟨s1, _⟩ => SqL.of (s1 _ _ hr2)) (fun i x H1 hx p => ⟨rfl, turn D hD i x H1 _ hx p rfl⟩) (fun H1 p => fin D H1 p)⟩
    · exact .inr ⟨_, rfl, r, rfl, ⟨_, SqT.of hr2⟩, fun D hD => lc_tup (K := K) (a := r) (xs := ss.map vI) (fun i H' => Same H H' ∧ H' D = some (.lst (((ss.take i).map fun v => Si94.far c.ways q v).map vO)))
        ⟨same_new hD, upd_same⟩ (fun i H' _ ⟨s1, _⟩ => SqT.of (s1 _ _ hr2)) (fun i x H1 hx p => ⟨rfl, turn D hD i x H1 _ hx p rfl⟩) (fun H1 p => fin D H1 p)⟩
end
end RB
end
section
namespace RB
open PySem PySem.Spec PyProof.Rows L2
open Si94 (Chase News worstOf)
theorem filterMap_take {α β : Type} {f : α → Option β} {l : List α} {i : Nat} {x : α} (h : l[i]? = some x) : (l.take (i + 1)).filterMap f = (l.take i).filterMap f ++ (f x).toList := by
  rw [take_snoc h, List.filterMap_append]
  congr 1
theorem filterMap_len {α β : Type} (f : α → Option β) (l : List α) : (l.filterMap f).length ≤ l.length := List.length_filterMap_le f l
section
variable {P : Program} {w : World} {K : PySem.W.Frag} {mg : Str → Option Value} {base : Heap} {a : Ads}
def spLastCh (a : Ads) : Sp := fun vs H Q _ => ∃ (s d r : Addr) (c : Chase) (b t : Nat) (ss : List Nat), vs = [.ref s, vI b, vI t, .ref r] ∧ SearchAt a H s d c ∧ b < c.places ∧ (H r = some (.lst (ss.map vI)) ∨ H r = some (.tup (ss.map vI))) ∧ ss ≠ [] ∧ (∀ v ∈ ss, v < c.places) ∧ ss.length ≤ 6 ∧
  ∀ H' p ts, Same H H' → H p = none → H' p = some (.lst (ts.map V.ref)) → Tris H' ts (lastCh c c.ways b t ss) → Q (.ref p) H'
theorem ok24 (T : Txt K mg a) : FnOk P w K mg base CX0 2 (a.f 24) (a.d 24) ["self", "begin", "since", "some"] (spLastCh a) := by
  have G22 : FnOk P w K mg base CX0 1 (a.f 22) (a.d 22) ["self", "begin", "since", "until"] (spInTime a) := ok22 T
  have G23 : FnOk P w K mg base CX0 1 (a.f 23) (a.d 23) ["self", "place", "some"] (spLateFrom a) := ok23 T
  refine T.F24.ok sc24 (fun vs H Q E h => ?_) (fun cdv A outer s H vs Q E hr h => ?_)
  · obtain ⟨s, d, r, c, b, t, ss, rfl, _⟩ := h
    rfl
  · refine ⟨_, pss_cons (ps_set (i := 4) sc24.nd rfl (Or.inl rfl) (pe_lst pa_nil))
      (pss_cons (ps_for PassesOwn.never rfl (pi_list (pe_meth (pv 0) T.lSe T.M22 G22 hr (b22 T) .nil pass0 (pa_cons (pv 1) (pa_cons (pv 2) (pa_cons (pe_fld (pe_fld (pv 0) rfl) rfl) pa_nil))))) (pg_name (i := 5) sc24.nd rfl (Or.inl rfl))
        (pss_cons (ps_set (i := 6) sc24.nd rfl (Or.inl rfl) (pe_meth (pv 0) T.lSe T.M23 G23 hr (b23 T) .nil pass0 (pa_cons (pv 5) (pa_cons (pv 3) pa_nil))))
        (pss_one (ps_if (pt_cmp (pc_notN (pv 6))) (pss_one (ps_expr (pe_bm PySem.F.plainAttrs_list PySem.F.slot_list_append PySem.F.type_list_append mt_append (pv 4) (pa_cons
          (pe_tup (pa_cons (pv 6) (pa_cons (pe_callB call_len_seq (by rfl) T.b_len PySem.boot_len (pa_cons (pe_fld (pe_fld (pv 0) rfl) rfl) pa_nil)) (pa_cons (pv 5) pa_nil)))) pa_nil)))) pss_nil))))
      (pss_one (ps_ret (pv 4)))), ?_⟩
    obtain ⟨s, d, r, c, b, t, ss, rfl, S, hb, hr2, hne, hlt, hl6, k⟩ := h
    refine ⟨by decide, fun pf hpf => ?_⟩
    have s0 : Same H (upd H pf (.lst [])) := same_new hpf
    have S0 := S.same s0
    obtain ⟨⟨dx, pc, pd, h1, ⟨pr, pn, hc⟩, h3⟩, g⟩ := id S0
    obtain ⟨⟨dxc, pm, hci, _⟩, _, ⟨us, hn1, hn2⟩, _⟩ := id hc
    refine ⟨_, rfl, s, _, _, rfl, h1, rfl, _, rfl, _, rfl, _, rfl, s, _, _, _, _, rfl, h1, T.lSe, T.nSe_chase, rfl, pc, _, _, _, _, rfl, hci, T.lCh, T.nCh_minute, rfl, s, d, c, b, t, c.landing, rfl, S0, hb, fun H1 pi s1 hpi e1 => ?_⟩
    have npi : pf ≠ pi := ne_of_none upd_same hpi
    have f1 : H1 pf = some (.lst []) := s1 _ _ upd_same
    have s01 := s0.trans s1
    have hlen := inTime_len c.places c.ways b t c.landing
    have p6 := g.p6
    refine ⟨pi, rfl, ⟨_, SqL.of e1⟩, for_list (K := K) (a := pi) (xs := (inTime c.places c.ways b t c.landing).map vI)
      (fun i σ H' => ∃ v5 v6, σ = [some (.ref s), some (vI b), some (vI t), some (.ref r), some (.ref pf), v5, v6] ∧ Same H H' ∧ H' pi = some (.lst ((inTime c.places c.ways b t c.landing).map vI)) ∧
        ∃ ts, H' pf = some (.lst (ts.map V.ref)) ∧ Tris H' ts (((inTime c.places c.ways b t c.landing).take i).filterMap fun q => (lateFrom c.ways q ss).map fun l => (l, c.news.length, q)) ∧ ∀ x ∈ ts, x ≠ pf)
      ⟨none, none, rfl, s01, e1, [], f1, .nil, fun x hx => by simp at hx⟩ (fun i σ H' _ ⟨_, _, _, _, e, _⟩ => SqL.of e) ?_ ?_⟩
    · rintro i x σ H2 hi ⟨v5, v6, rfl, s2, e2, ts, t1, t2, t3⟩
      rw [List.getElem?_map] at hi
      cases eq : (inTime c.places c.ways b t c.landing)[i]? with
      | none => rw [eq] at hi; cases hi
      | some q =>
        rw [eq] at hi
        obtain rfl : vI q = x := Option.some.inj hi
        have hq := inTime_lt (List.mem_of_getElem? eq)
        have S2 := S.same s2
        obtain ⟨⟨dx2, pc2, pd2, h12, ⟨pr2, pn2, hc2⟩, h32⟩, _⟩ := id S2
        have hr3 : H2 r = some (.lst (ss.map vI)) ∨ H2 r = some (.tup (ss.map vI)) := hr2.imp (s2 _ _) (s2 _ _)
        refine ⟨_, rfl, s, _, _, rfl, h12, rfl, _, rfl, _, rfl, s, d, r, c, q, ss, rfl, S2, hq, hr3, hne, hlt, hl6, fun H3 s3 => ?_⟩
        rw [filterMap_take eq]
        have e3 := s3 _ _ e2
        have t13 := s3 _ _ t1
        have hf : H pf = none := hpf
        cases el : lateFrom c.ways q ss with
        | none =>
          refine ⟨_, rfl, _, rfl, if_false_of rfl ⟨_, _, rfl, s2.trans s3, e3, ts, t13, ?_, t3⟩⟩
          show Tris H3 ts (_ ++ [])
          rw [List.append_nil]
          exact paired_imp t2 fun _ _ e => s3 _ _ e
        | some l =>
          have S3 := S2.same s3
          obtain ⟨⟨dx3, pc3, pd3, h13, ⟨pr3, pn3, hc3⟩, h33⟩, _⟩ := id S3
          obtain ⟨⟨dxc3, pm3, hci3, _⟩, _, ⟨us3, hn13, hn23⟩, _⟩ := id hc3
          refine ⟨_, rfl, _, rfl, if_true_of rfl ⟨_, rfl, .inl ⟨rfl, _, SqL.of t13⟩, _, rfl, _, rfl, s, _, _, _, _, rfl, h13, T.lSe, T.nSe_chase, rfl, pc3, _, _, _, _, rfl, hci3, T.lCh, T.nCh_news, rfl, pn3, _, rfl, .inl (SqL.of hn13), _, rfl, (by show 3 ≤ sizeLine; decide), fun tu htu => ?_⟩⟩
          have ntu : pf ≠ tu := ne_of_none t13 htu
          refine ⟨pf, _, _, rfl, rfl, by rw [upd_ne ntu]; exact t13, ?_, _, _, rfl, ?_, ?_, ts ++ [tu], by rw [upd_same, List.map_append]; rfl, ?_, fun x hx => ?_⟩
          · rw [List.length_map, paired_len t2]
            have := filterMap_len (fun q => (lateFrom c.ways q ss).map fun l => ((l, c.news.length, q) : T3)) ((inTime c.places c.ways b t c.landing).take i)
            rw [List.length_take] at this
            exact small7 (by omega)
          · exact same_upd (same_upd (s2.trans s3) (Same.free (s2.trans s3) htu)) hf
          · rw [upd_ne (fun z => ?_), upd_ne (ne_of_none e3 htu)]
            · exact e3
            · exact npi z.symm
          · refine paired_app (paired_imp_mem t2 fun x y hx e => ?_) (.cons ?_ .nil)
            · rw [upd_ne (t3 x hx), upd_ne (ne_of_none (s3 _ _ e) htu)]
              exact s3 _ _ e
            · rw [upd_ne (Ne.symm ntu), upd_same]
              show some (HO.tup [vI l, V.int ((us3.map V.ref).length : Nat), vI q]) = some (.tup [vI l, vI c.news.length, vI q])
              rw [List.length_map, paired_len hn23]
          · rcases List.mem_append.mp hx with hx | hx
            · exact t3 x hx
            · rw [List.mem_singleton.mp hx]
              exact Ne.symm ntu
    · rintro σ H2 ⟨v5, v6, rfl, s2, e2, ts, t1, t2, t3⟩
      rw [List.length_map, List.take_length] at t2
      exact ⟨_, rfl, k _ _ ts s2 hpf t1 t2⟩
def spSince (a : Ads) : Sp := fun vs H Q _ => ∃ (s d : Addr) (c : Chase) (g : Nat), vs = [.ref s, vI g] ∧ SearchAt a H s d c ∧ g ≤ c.news.length ∧ Q (vI (sinceOf c g)) H
theorem news_item {C : Addr} {H : Hp} {p pr pn : Addr} {c : Chase} (h : ChaseAt C H p pr pn c) {i : Nat} (hi : i < c.news.length) : ∃ (ts : List Addr) (t q : Addr), H pn = some (.lst (ts.map V.ref)) ∧ (ts.map V.ref)[i]? = some (.ref t) ∧ ts.length = c.news.length ∧
    H t = some (.tup [vI (newsAt c i).minute, .ref q]) ∧ H q = some (.lst ((newsAt c i).parts.map vI)) := by
  obtain ⟨_, _, ⟨ts, n1, n2⟩, _⟩ := h
  obtain ⟨t, et, q, e1, e2, _⟩ := paired_at' n2 (i := i) (b := newsAt c i) (by unfold newsAt; exact getD_at _ hi)
  exact ⟨ts, t, q, n1, by rw [List.getElem?_map, et]; rfl, paired_len n2, e1, e2⟩
theorem ok27 (T : Txt K mg a) : FnOk P w K mg base CX0 1 (a.f 27) (a.d 27) ["self", "gone"] (spSince a) := by
  refine T.F27.ok sc27 (fun vs H Q E h => ?_) (fun cdv A outer s H vs Q E hr h => ?_)
  · obtain ⟨s, d, c, g, rfl, _⟩ := h
    rfl
  · refine ⟨_, pss_cons (ps_if (pt_cmpR op_eq (pv 1) pe_int (nomark _)) (pss_one (ps_ret pe_int)) pss_nil)
      (pss_one (ps_ret (pe_ix ix_tup (pe_ix ix_list (pe_fld (pe_fld (pv 0) rfl) rfl) (pe_op op_sub (pv 1) pe_int) (fun _ _ => rfl)) pe_int (fun _ _ => rfl)))), ?_⟩
    obtain ⟨s, d, c, g, rfl, ⟨⟨dx, pc, pd, h1, ⟨pr, pn, hc⟩, h3⟩, gd⟩, hg, k⟩ := h
    refine ⟨_, rfl, rfl, _, rfl, ?_⟩
    by_cases c0 : g = 0
    · subst c0
      refine if_true_of rfl ?_
      exact k
    · refine if_false_of (decide_eq_false fun e => c0 (by have := V.int.inj e; omega)) ?_
      obtain ⟨ts, t, q, n1, n2, _, n3, n4⟩ := news_item hc (i := g - 1) (by omega)
      obtain ⟨⟨dxc, pm, hci, _⟩, _⟩ := hc
      refine ⟨_, rfl, s, _, _, _, _, rfl, h1, T.lSe, T.nSe_chase, rfl, pc, _, _, _, _, rfl, hci, T.lCh, T.nCh_news, rfl, _, rfl, _, _, rfl, rfl, pn, _, _, _, rfl, rfl, SqL.of n1, at_of (by omega) n2, t, _, _, _, rfl, rfl, SqT.of n3, rfl, ?_⟩
      unfold sinceOf at k
      rw [if_neg c0] at k
      exact k
end
end RB
end
section
namespace RB
open PySem PySem.Spec PyProof.Rows L2
open Si94 (Chase News worstOf)
/-! ### heaps in the recursion -/
theorem Sm.upd {P : Program} {w : World} {H H1 : Hp} {d p : Addr} {o : HO} (s : Sm P w H H1 d) (h : H p = none) : Sm P w H (upd H1 p o) d := ⟨fun b u n e => by rw [upd_ne (ne_of_none e h)]; exact s.f b u n e, fun b u n e => by rw [upd_ne (ne_of_none e h)]; exact s.b b u n e⟩
theorem Sm.new {P : Program} {w : World} {H H1 : Hp} {d p : Addr} {o : HO} (s : Sm P w H H1 d) (h : H1 p = none) : Sm P w H (L2.upd H1 p o) d := ⟨fun b u n e => by have z := s.f b u n e; rw [upd_ne (ne_of_none z h)]; exact z, fun b u n e => by have z := s.b b u n e; rw [upd_ne (ne_of_none z h)]; exact z⟩
theorem MemS.upd_lst {P : Program} {w : World} {c : Chase} {H : Hp} {d p : Addr} {xs : List V} {o : HO} (e : H p = some (.lst xs)) (m : MemS P w c H d) : MemS P w c (upd H p o) d := by
  obtain ⟨xs, ⟨h1, h2, h3⟩, h4⟩ := m
  have nt : ∀ b ys, H b = some (.tup ys) → b ≠ p := fun b ys q z => by
    rw [z, e] at q
    cases q
  refine ⟨xs, ⟨?_, fun x hx => (h2 x hx).same fun b ys q => by rw [upd_ne (nt b ys q)]; exact q, h3⟩, h4⟩
  rw [upd_ne fun z => ?_]
  · exact h1
  · rw [z, e] at h1
    exact memO_lst (Option.some.inj h1).symm
theorem sub_lt {n : Nat} {ss : List Nat} (h : ss.Sublist (List.range n)) : ∀ v ∈ ss, v < n := fun v hv => List.mem_range.mp (h.subset hv)
theorem sub_len {n : Nat} {ss : List Nat} (h : ss.Sublist (List.range n)) : ss.length ≤ n := by
  have := h.length_le
  rw [List.length_range] at this
  exact this
/-- what a call within the search is handed, and leaves -/
structure Given (P : Program) (w : World) (a : Ads) (H : Hp) (s d : Addr) (c : Chase) : Prop where
  sa : SearchAt a H s d c
  me : MemS P w c H d
theorem Given.same {P : Program} {w : World} {a : Ads} {H H' : Hp} {s d : Addr} {c : Chase} (k : Same H H') (h : Given P w a H s d c) : Given P w a H' s d c := ⟨h.sa.same k, h.me.same k⟩
theorem Given.sm {P : Program} {w : World} {a : Ads} {H H' : Hp} {s d : Addr} {c : Chase} (k : Sm P w H H' d) (m : MemS P w c H' d) (h : Given P w a H s d c) : Given P w a H' s d c := ⟨h.sa.sm k, m⟩
section
variable {P : Program} {w : World} {K : PySem.W.Frag} {mg : Str → Option Value} {base : Heap} {a : Ads}
def spLeast (P : Program) (w : World) (a : Ads) (r : Nat) : Sp := fun vs H Q _ => ∃ (s d t : Addr) (c : Chase) (b g : Nat) (ss : List Nat), vs = [.ref s, vI b, vI g, .ref t] ∧ Given P w a H s d c ∧ b < c.places ∧ g ≤ c.news.length ∧ c.news.length < g + r ∧
  H t = some (.tup (ss.map vI)) ∧ ss ≠ [] ∧ ss.Sublist (List.range c.places) ∧ ∀ H', Sm P w H H' d → MemS P w c H' d → Q (vO (c.value c.ways (c.news.drop g) (sinceOf c g) b ss)) H'
def spBehind (P : Program) (w : World) (a : Ads) (r : Nat) : Sp := fun vs H Q _ => ∃ (s d t : Addr) (c : Chase) (q i : Nat) (ss : List Nat), vs = [.ref s, vI q, vI i, .ref t] ∧ Given P w a H s d c ∧ q < c.places ∧ i < c.news.length ∧ c.news.length < i + 1 + r ∧
  H t = some (.tup (ss.map vI)) ∧ ss ≠ [] ∧ ss.Sublist (List.range c.places) ∧ ∀ H', Sm P w H H' d → MemS P w c H' d → Q (vO (lateBehind c c.ways q i ss)) H'
theorem ok25 (T : Txt K mg a) {r l : Nat} (GL : FnOk P w K mg base CX0 (l + 1) (a.f 29) (a.d 29) ["self", "begin", "gone", "some"] (spLeast P w a r)) : FnOk P w K mg base CX0 (l + 2) (a.f 25) (a.d 25) ["self", "place", "which", "some"] (spBehind P w a r) := by
  have G10 : FnOk P w K mg base CX0 1 (a.f 10) (a.d 10) ["some", "parts"] spParted := ok10 T
  refine T.F25.ok sc25 (fun vs H Q E h => ?_) (fun cdv A outer s H vs Q E hr h => ?_)
  · obtain ⟨s, d, t, c, q, i, ss, rfl, _⟩ := h
    rfl
  · have hr1 := hr.mono (j := 1) (by omega)
    refine ⟨_, pss_cons (ps_set (i := 4) sc25.nd rfl (Or.inl rfl) (pe_ix ix_tup (pe_ix ix_list (pe_fld (pe_fld (pv 0) rfl) rfl) (pv 2) (fun _ _ => rfl)) pe_int (fun _ _ => rfl)))
      (pss_cons (ps_setLc (i := 5) (own := [("part", 6)]) (g := gName 6) (tt := tYes) rfl sc25.nd rfl rfl (sw_true rfl rfl rfl (by decide +kernel))
        (pi_list (pe_call G10 hr1 (by rfl) T.g10 T.F10.kp (b10 T) .nil pass0 (pa_cons (pv 3) (pa_cons (pv 4) pa_nil)))) (blkOk_by (N := N25) (sc := defScope s25) (by decide +kernel))
        (fun _ _ _ _ _ => pg_name (i := 6) sc25.nd rfl (Or.inl rfl)) (fun _ _ _ _ _ => pts_nil)
        (fun _ _ _ _ _ => pe_meth (pv 0) T.lSe T.M29 GL hr (b29 T) .nil pass0 (pa_cons (pv 1) (pa_cons (pe_op op_add (pv 2) pe_int) (pa_cons (pv 6) pa_nil)))))
      (pss_cons (ps_if (pt_cmpR op_in_seq pe_non (pv 5) rfl) (pss_one (ps_ret pe_non)) pss_nil)
      (pss_one (ps_ret (pe_callB (cr_max rfl) (by rfl) T.b_max (by decide +kernel) (pa_cons (pv 5) pa_nil)))))), ?_⟩
    obtain ⟨s, d, t, c, q, i, ss, rfl, G, hq, hi, hri, ht, hne, hsub, k⟩ := h
    obtain ⟨⟨⟨dx, pc, pd, h1, ⟨pr, pn, hc⟩, h3⟩, g⟩, hm⟩ := id G
    obtain ⟨us, tu, qu, n1, n2, _, n3, n4⟩ := news_item hc hi
    obtain ⟨⟨dxc, pm, hci, _⟩, _⟩ := id hc
    have hlen : (newsAt c i).parts.length = c.places := g.np _ (by unfold newsAt; exact List.mem_of_getElem? (getD_at (⟨0, []⟩ : News) hi))
    have p6 := g.p6
    refine ⟨_, rfl, s, _, _, _, _, rfl, h1, T.lSe, T.nSe_chase, rfl, pc, _, _, _, _, rfl, hci, T.lCh, T.nCh_news, rfl, _, rfl, pn, _, _, _, rfl, rfl, SqL.of n1, atI_nat n2, tu, _, _, _, rfl, rfl, SqT.of n3, rfl, ?_⟩
    have hsl := sub_len hsub
    refine ⟨_, rfl, _, rfl, t, qu, ss, (newsAt c i).parts, rfl, ht, n4, fun v hv => by rw [hlen]; exact sub_lt hsub v hv, by omega, fun H1 p ts s1 e1 tp => ?_⟩
    have G1 := G.same s1
    refine ⟨p, rfl, ⟨_, SqL.of e1⟩, fun D hD => lc_list (K := K) (a := p) (xs := ts.map V.ref)
      (fun j H' => Sm P w H1 H' d ∧ MemS P w c H' d ∧ H' D = some (.lst ((((Si94.split (newsAt c i).parts ss).take j).map fun u => c.value c.ways (c.news.drop (i + 1)) (newsAt c i).minute q u).map vO)))
      ⟨Sm.refl.upd hD, (hm.same s1).same (same_new hD), upd_same⟩ (fun j H' _ ⟨s2, _⟩ => SqL.of (s2.lst e1)) (fun j x H2 hx ⟨s2, m2, e2⟩ => ?_) (fun H2 ⟨s2, m2, e2⟩ => ?_)⟩
    · rw [List.getElem?_map] at hx
      cases et : ts[j]? with
      | none => rw [et] at hx; cases hx
      | some tj =>
        rw [et] at hx
        obtain rfl : V.ref tj = x := Option.some.inj hx
        obtain ⟨u, eu, hu⟩ := paired_at tp et
        obtain ⟨u1, u2⟩ := split_mem (List.mem_of_getElem? eu)
        have G2 := G1.sm s2 m2
        obtain ⟨⟨⟨dx2, pc2, pd2, h12, _, _⟩, _⟩, _⟩ := id G2
        refine ⟨rfl, _, rfl, s, _, _, rfl, h12, rfl, _, rfl, _, rfl, _, _, rfl, rfl, _, rfl, s, d, tj, c, q, i + 1, u, rfl, G2, hq, by omega, by omega, s2.tup hu, u2, u1.trans hsub, fun H3 s3 m3 => ?_⟩
        have e3 := s3.lst e2
        have sl := split_len (newsAt c i).parts ss
        refine ⟨_, e3, ?_, (s2.trans s3).upd hD, m3.upd_lst e3, ?_⟩
        · rw [List.length_map, List.length_map, List.length_take]
          exact small7 (by omega)
        · rw [upd_same, take_snoc eu, List.map_append, List.map_append]
          rfl
    · rw [List.length_map, paired_len tp, List.take_length] at e2
      refine ⟨_, rfl, D, _, rfl, .inl (SqL.of e2), rfl, flat_vO _, _, rfl, ?_⟩
      have sm := (Same.sm (P := P) (w := w) (d := d) s1).trans s2
      by_cases hn : none ∈ (Si94.split (newsAt c i).parts ss).map fun u => c.value c.ways (c.news.drop (i + 1)) (newsAt c i).minute q u
      · refine if_true_of ((inV_none _).trans (decide_eq_true hn)) ?_
        have e : vO (lateBehind c c.ways q i ss) = .non := worst_no hn
        have := k H2 sm m2
        rw [e] at this
        exact this
      · refine if_false_of ((inV_none _).trans (decide_eq_false hn)) ?_
        obtain ⟨ns, en, hpos, hmax⟩ := max_read hn (fun e => split_ne hne (List.map_eq_nil_iff.mp e))
        rw [en] at e2
        refine ⟨_, rfl, D, ns, rfl, SqL.of e2, hpos, fun m hm hk => ?_⟩
        have := hmax m hm hk
        rw [this]
        exact k H2 sm m2
end
end RB
end
section
namespace RB
open PySem PySem.Spec PyProof.Rows L2
open Si94 (Chase News worstOf)
theorem newsRow_len (c : Chase) (t : Tb) (p u i : Nat) (s : List Nat) : (newsRow c t p u i s).length ≤ c.places :=
  Nat.le_trans (filterMap_len _ _) (inTime_len _ _ _ _ _)
theorem flat_len (c : Chase) (t : Tb) (p u : Nat) (s : List Nat) : ∀ l : List Nat, (l.flatMap fun i => newsRow c t p u i s).length ≤ l.length * c.places
  | [] => by simp
  | i :: l => by
    have := flat_len c t p u s l
    have := newsRow_len c t p u i s
    rw [List.flatMap_cons, List.length_append, List.length_cons, Nat.succ_mul]
    omega
theorem range'_snoc (g i : Nat) : List.range' g (i + 1) = List.range' g i ++ [g + i] := by
  rw [List.range'_1_concat]
section
variable {P : Program} {w : World} {K : PySem.W.Frag} {mg : Str → Option Value} {base : Heap} {a : Ads}
def spNewsCh (P : Program) (w : World) (a : Ads) (r : Nat) : Sp := fun vs H Q _ => ∃ (s d t : Addr) (c : Chase) (b u g : Nat) (ss : List Nat), vs = [.ref s, vI b, vI u, vI g, .ref t] ∧ Given P w a H s d c ∧ b < c.places ∧ g ≤ c.news.length ∧ c.news.length ≤ g + r ∧
  H t = some (.tup (ss.map vI)) ∧ ss ≠ [] ∧ ss.Sublist (List.range c.places) ∧
  ∀ H' p ts, Sm P w H H' d → MemS P w c H' d → H p = none → H' p = some (.lst (ts.map V.ref)) → Tris H' ts (newsCh c c.ways b u g ss) → Q (.ref p) H'
theorem ok26 (T : Txt K mg a) {r l : Nat} (GB : FnOk P w K mg base CX0 (l + 2) (a.f 25) (a.d 25) ["self", "place", "which", "some"] (spBehind P w a r)) : FnOk P w K mg base CX0 (l + 3) (a.f 26) (a.d 26) ["self", "begin", "since", "gone", "some"] (spNewsCh P w a r) := by
  have G22 : FnOk P w K mg base CX0 1 (a.f 22) (a.d 22) ["self", "begin", "since", "until"] (spInTime a) := ok22 T
  refine T.F26.ok sc26 (fun vs H Q E h => ?_) (fun cdv A outer s H vs Q E hr h => ?_)
  · obtain ⟨s, d, t, c, b, u, g, ss, rfl, _⟩ := h
    rfl
  · have hr1 := hr.mono (j := 1) (by omega)
    refine ⟨_, pss_cons (ps_set (i := 5) sc26.nd rfl (Or.inl rfl) (pe_lst pa_nil))
      (pss_cons (ps_for PassesOwn.never rfl (pi_range2 (by rfl) T.b_range (pa_cons (pv 3) (pa_cons (pe_callB call_len_seq (by rfl) T.b_len PySem.boot_len (pa_cons (pe_fld (pe_fld (pv 0) rfl) rfl) pa_nil)) pa_nil))) (pg_name (i := 6) sc26.nd rfl (Or.inl rfl))
        (pss_one (ps_for PassesOwn.never rfl (pi_list (pe_meth (pv 0) T.lSe T.M22 G22 hr1 (b22 T) .nil pass0 (pa_cons (pv 1) (pa_cons (pv 2) (pa_cons (pe_ix ix_tup (pe_ix ix_list (pe_fld (pe_fld (pv 0) rfl) rfl) (pv 6) (fun _ _ => rfl)) pe_int (fun _ _ => rfl)) pa_nil))))) (pg_name (i := 7) sc26.nd rfl (Or.inl rfl))
          (pss_cons (ps_set (i := 8) sc26.nd rfl (Or.inl rfl) (pe_meth (pv 0) T.lSe T.M25 GB hr (b25 T) .nil pass0 (pa_cons (pv 7) (pa_cons (pv 6) (pa_cons (pv 4) pa_nil)))))
          (pss_one (ps_if (pt_cmp (pc_notN (pv 8))) (pss_one (ps_expr (pe_bm PySem.F.plainAttrs_list PySem.F.slot_list_append PySem.F.type_list_append mt_append (pv 5) (pa_cons
            (pe_tup (pa_cons (pv 8) (pa_cons (pv 6) (pa_cons (pv 7) pa_nil)))) pa_nil)))) pss_nil))))))
      (pss_one (ps_ret (pv 5)))), ?_⟩
    obtain ⟨s, d, t, c, b, u, g, ss, rfl, G, hb, hg, hgr, ht, hne, hsub, k⟩ := h
    refine ⟨by decide, fun pf hpf => ?_⟩
    have s0 : Same H (upd H pf (.lst [])) := same_new hpf
    have G0 := G.same s0
    obtain ⟨⟨⟨dx, pc, pd, h1, ⟨pr, pn, hc⟩, h3⟩, gd⟩, hm⟩ := id G0
    obtain ⟨⟨dxc, pm, hci, _⟩, _, ⟨us, hn1, hn2⟩, _⟩ := id hc
    have p6 := gd.p6
    have n3 := gd.nl
    refine ⟨_, rfl, _, rfl, s, _, _, _, _, rfl, h1, T.lSe, T.nSe_chase, rfl, pc, _, _, _, _, rfl, hci, T.lCh, T.nCh_news, rfl, pn, _, rfl, .inl (SqL.of hn1), _, _, rfl, ?_, ?_⟩
    · rw [List.length_map, paired_len hn2]
      omega
    rw [List.length_map, paired_len hn2, show ((c.news.length : Int) - (g : Int)).toNat = c.news.length - g by omega]
    refine for_range (lo := (g : Int)) (n := c.news.length - g)
      (fun i σ H' => ∃ v6 v7 v8, σ = [some (.ref s), some (vI b), some (vI u), some (vI g), some (.ref t), some (.ref pf), v6, v7, v8] ∧ Sm P w H H' d ∧ MemS P w c H' d ∧
        ∃ ts, H' pf = some (.lst (ts.map V.ref)) ∧ Tris H' ts ((List.range' g i).flatMap fun i => newsRow c c.ways b u i ss) ∧ ∀ x ∈ ts, x ≠ pf)
      ⟨none, none, none, rfl, Same.sm s0, hm, [], upd_same, .nil, fun x hx => by simp at hx⟩ ?_ ?_
    · rintro i σ H1 hi ⟨v6, v7, v8, rfl, s1, m1, ts, t1, t2, t3⟩
      have ez : (g : Int) + (i : Int) = ((g + i : Nat) : Int) := by omega
      have hw : g + i < c.news.length := by omega
      have G1 := G.sm s1 m1
      obtain ⟨⟨⟨dx1, pc1, pd1, h11, ⟨pr1, pn1, hc1⟩, h31⟩, _⟩, _⟩ := id G1
      obtain ⟨uts, ut, uq, u1, u2, _, u3, u4⟩ := news_item hc1 hw
      obtain ⟨⟨dxc1, pm1, hci1, _⟩, _⟩ := id hc1
      refine ⟨_, rfl, s, _, _, rfl, h11, rfl, _, rfl, _, rfl, _, rfl, s, _, _, _, _, rfl, h11, T.lSe, T.nSe_chase, rfl, pc1, _, _, _, _, rfl, hci1, T.lCh, T.nCh_news, rfl, _, rfl, pn1, _, _, _, rfl, rfl, SqL.of u1, at_of ez u2, ut, _, _, _, rfl, rfl, SqT.of u3, rfl, s, d, c, b, u, (newsAt c (g + i)).minute, rfl, G1.sa, hb, fun H2 pi s2 hpi e2 => ?_⟩
      have hlen := inTime_len c.places c.ways b u (newsAt c (g + i)).minute
      have npi : pi ≠ pf := fun z => by
        rw [z, t1] at hpi
        cases hpi
      refine ⟨pi, rfl, ⟨_, SqL.of e2⟩, for_list (K := K) (a := pi) (xs := (inTime c.places c.ways b u (newsAt c (g + i)).minute).map vI)
        (fun j σ H' => ∃ v7 v8, σ = [some (.ref s), some (vI b), some (vI u), some (vI g), some (.ref t), some (.ref pf), some (V.int ((g : Int) + (i : Int))), v7, v8] ∧ Sm P w H H' d ∧ MemS P w c H' d ∧ H' pi = some (.lst ((inTime c.places c.ways b u (newsAt c (g + i)).minute).map vI)) ∧
          ∃ ts, H' pf = some (.lst (ts.map V.ref)) ∧ Tris H' ts (((List.range' g i).flatMap fun i => newsRow c c.ways b u i ss) ++ ((inTime c.places c.ways b u (newsAt c (g + i)).minute).take j).filterMap fun q => (lateBehind c c.ways q (g + i) ss).map fun l => (l, g + i, q)) ∧ ∀ x ∈ ts, x ≠ pf)
        ⟨v7, v8, rfl, s1.trans (Same.sm s2), m1.same s2, e2, ts, s2 _ _ t1, by rw [List.take_zero, List.filterMap_nil, List.append_nil]; exact paired_imp t2 fun _ _ e => s2 _ _ e, t3⟩ (fun j σ H' _ ⟨_, _, _, _, _, e, _⟩ => SqL.of e) ?_ ?_⟩
      · rintro j x σ H3 hj ⟨v7, v8, rfl, s3, m3, e3, ts, t1, t2, t3⟩
        rw [List.getElem?_map] at hj
        cases eq : (inTime c.places c.ways b u (newsAt c (g + i)).minute)[j]? with
        | none => rw [eq] at hj; cases hj
        | some q =>
          rw [eq] at hj
          obtain rfl : vI q = x := Option.some.inj hj
          have hq := inTime_lt (List.mem_of_getElem? eq)
          have G3 := G.sm s3 m3
          obtain ⟨⟨⟨dx3, pc3, pd3, h13, _, _⟩, _⟩, _⟩ := id G3
          refine ⟨_, rfl, s, _, _, rfl, h13, rfl, _, rfl, _, rfl, _, rfl, s, d, t, c, q, g + i, ss, by rw [ez]; rfl, G3, hq, hw, by omega, s3.tup ht, hne, hsub, fun H4 s4 m4 => ?_⟩
          have e4 := s4.lst e3
          have t14 := s4.lst t1
          rw [filterMap_take eq, ← List.append_assoc]
          cases el : lateBehind c c.ways q (g + i) ss with
          | none =>
            refine ⟨_, rfl, _, rfl, if_false_of rfl ⟨_, _, rfl, s3.trans s4, m4, e4, ts, t14, ?_, t3⟩⟩
            show Tris H4 ts (_ ++ [])
            rw [List.append_nil]
            exact paired_imp t2 fun _ _ e => s4.tup e
          | some l =>
            refine ⟨_, rfl, _, rfl, if_true_of rfl ⟨_, rfl, .inl ⟨rfl, _, SqL.of t14⟩, _, rfl, _, rfl, _, rfl, (by show 3 ≤ sizeLine; decide), fun tu htu => ?_⟩⟩
            have ntu : pf ≠ tu := ne_of_none t14 htu
            have t15 : (upd H4 tu (.tup [vO (some l), V.int ((g : Int) + (i : Int)), vI q])) pf = some (.lst (ts.map V.ref)) := by rw [upd_ne ntu]; exact t14
            refine ⟨pf, _, _, rfl, rfl, t15, ?_, _, _, rfl, ?_, (m4.same (same_new htu)).upd_lst t15, ?_, ts ++ [tu], by rw [upd_same, List.map_append]; rfl, ?_, fun x hx => ?_⟩
            · rw [List.length_map, paired_len t2, List.length_append]
              have q1 := flat_len c c.ways b u ss (List.range' g i)
              rw [List.length_range'] at q1
              have q2 := filterMap_len (fun q => (lateBehind c c.ways q (g + i) ss).map fun l => ((l, g + i, q) : T3)) ((inTime c.places c.ways b u (newsAt c (g + i)).minute).take j)
              rw [List.length_take] at q2
              have q3 : i * c.places ≤ 3 * 6 := Nat.mul_le_mul (by omega) p6
              exact small7 (by omega)
            · exact Sm.upd ((s3.trans s4).new htu) hpf
            · rw [upd_ne npi, upd_ne (ne_of_none e4 htu)]
              exact e4
            · refine paired_app (paired_imp_mem t2 fun x y hx e => ?_) (.cons ?_ .nil)
              · rw [upd_ne (t3 x hx), upd_ne (ne_of_none (s4.tup e) htu)]
                exact s4.tup e
              · rw [upd_ne (Ne.symm ntu), upd_same, ez]
                rfl
            · rcases List.mem_append.mp hx with hx | hx
              · exact t3 x hx
              · rw [List.mem_singleton.mp hx]
                exact Ne.symm ntu
      · rintro σ H3 ⟨v7, v8, rfl, s3, m3, e3, ts, t1, t2, t3⟩
        rw [List.length_map, List.take_length] at t2
        refine ⟨_, v7, v8, rfl, s3, m3, ts, t1, ?_, t3⟩
        rw [range'_snoc, List.flatMap_append, List.flatMap_singleton]
        exact t2
    · rintro σ H1 ⟨v6, v7, v8, rfl, s1, m1, ts, t1, t2, t3⟩
      exact ⟨_, rfl, k _ _ ts s1 m1 hpf t1 t2⟩
end
end RB
end
section
namespace RB
open PySem PySem.Spec PyProof.Rows L2
open Si94 (Chase News worstOf)
/-! ### the dict's keys are few -/
def subs : List Nat → List (List Nat)
  | [] => [[]]
  | x :: l => subs l ++ (subs l).map (x :: ·)
theorem mem_subs {s l : List Nat} (h : s.Sublist l) : s ∈ subs l := by
  induction h with
  | slnil => simp [subs]
  | cons a _ ih => exact List.mem_append_left _ ih
  | cons_cons a _ ih => exact List.mem_append_right _ (List.mem_map.mpr ⟨_, ih, rfl⟩)
def allKeys : List NestedKey := (List.range 6).flatMap fun b => (List.range 4).flatMap fun g => (subs (List.range 6)).map (key3 b g)
theorem allKeys_len : allKeys.length = 1536 := by decide +kernel
theorem mem_len {P : Program} {w : World} {c : Chase} {H : Hp} {d : Addr} {xs : KX} (m : MemAt P w H d xs) (h : ∀ x ∈ xs, MemOk c x) : xs.length ≤ 1536 := by
  have : (xs.map (·.1)).length ≤ allKeys.length := nodup_le m.nd fun k hk => by
    obtain ⟨x, hx, rfl⟩ := List.mem_map.mp hk
    obtain ⟨b, g, s, e, hb, hg, hs, _⟩ := h x hx
    rw [e]
    exact List.mem_flatMap.mpr ⟨b, List.mem_range.mpr hb, List.mem_flatMap.mpr ⟨g, List.mem_range.mpr (by omega), List.mem_map.mpr ⟨s, mem_subs hs, rfl⟩⟩⟩
  rw [List.length_map, allKeys_len] at this
  exact this
theorem key3_inj {b g b' g' : Nat} {s s' : List Nat} (h : key3 b g s = key3 b' g' s') : b = b' ∧ g = g' ∧ s = s' := by
  unfold key3 at h
  injection h with h
  obtain ⟨h1, h⟩ := List.cons.inj h
  obtain ⟨h2, h⟩ := List.cons.inj h
  obtain ⟨h3, _⟩ := List.cons.inj h
  injection h1 with h1
  injection h2 with h2
  injection h3 with h3
  refine ⟨by omega, by omega, ?_⟩
  have key : ∀ {l m : List Nat}, (l.map fun (n : Nat) => NestedKey.num (n : Int)) = (m.map fun (n : Nat) => NestedKey.num (n : Int)) → l = m := fun {l} => by
    induction l with
    | nil =>
      intro m e
      cases m with
      | nil => rfl
      | cons x m => cases e
    | cons x l ih =>
      intro m e
      cases m with
      | nil => cases e
      | cons y m =>
        obtain ⟨e1, e2⟩ := List.cons.inj e
        injection e1 with e1
        rw [ih e2, show x = y by omega]
  exact key h3
theorem atKey_mem {xs : KX} {k : NestedKey} {p : Addr × Value} (h : atKey xs k = some p) : (k, p) ∈ xs := by
  unfold atKey at h
  obtain ⟨x, hx, e⟩ := Option.map_eq_some_iff.mp h
  have h1 := List.mem_of_find?_eq_some hx
  have h2 : x.1 = k := by simpa using List.find?_some hx
  rw [← h2, ← e]
  exact h1
theorem storedH_mem {xs : KX} {k : NestedKey} {a : Addr} {u : Value} {x : NestedKey × Addr × Value} (h : x ∈ storedH xs k a u) : x ∈ xs ∨ (x.1 = k ∧ x.2.2 = u ∧ (x.2.1 = a ∨ ∃ y ∈ xs, y.1 = k ∧ y.2.1 = x.2.1)) := by
  unfold storedH at h
  by_cases c : (atKey xs k).isSome = true
  · rw [if_pos c] at h
    obtain ⟨y, hy, e⟩ := List.mem_map.mp h
    unfold putAt at e
    by_cases c2 : y.1 = k
    · rw [if_pos c2] at e
      subst e
      exact .inr ⟨c2, rfl, .inr ⟨y, hy, c2, rfl⟩⟩
    · rw [if_neg c2] at e
      subst e
      exact .inl hy
  · rw [if_neg c] at h
    rcases List.mem_append.mp h with h | h
    · exact .inl h
    · rw [List.mem_singleton.mp h]
      exact .inr ⟨rfl, rfl, .inl rfl⟩
theorem storedH_at (xs : KX) (k : NestedKey) (a : Addr) (u : Value) : ∃ b, atKey (storedH xs k a u) k = some (b, u) := by
  have h1 := valueAt_pairsH (storedH xs k a u) k
  rw [pairsH_storedH, valueAt_stored_same] at h1
  cases e : atKey (storedH xs k a u) k with
  | none => rw [e] at h1; cases h1
  | some p =>
    rw [e] at h1
    have : u = p.2 := Option.some.inj h1
    exact ⟨p.1, by rw [this]⟩
theorem firsts_ints (L : List T3) (i : Nat) : ((L.take i).map fun x => V.int ((x.1 : Nat) : Int)) = ((L.take i).map fun x => ((x.1 : Nat) : Int)).map V.int := by
  rw [List.map_map]
  rfl
/-- the least of the first numbers -/
theorem min_read (L : List T3) : ((L.map fun x => ((x.1 : Nat) : Int)) = [] → V.non = vO (Si94.least (L.map (·.1)))) ∧ ∀ m, m ∈ (L.map fun x => ((x.1 : Nat) : Int)) → (∀ k ∈ (L.map fun x => ((x.1 : Nat) : Int)), m ≤ k) → V.int m = vO (Si94.least (L.map (·.1))) := by
  refine ⟨fun e => ?_, fun m hm hk => ?_⟩
  · have : L = [] := List.map_eq_nil_iff.mp e
    subst this
    rfl
  · obtain ⟨x, hx, rfl⟩ := List.mem_map.mp hm
    rw [least_is (m := x.1) (List.mem_map.mpr ⟨x, hx, rfl⟩) fun y hy => ?_]
    · rfl
    · obtain ⟨z, hz, rfl⟩ := List.mem_map.mp hy
      have := hk _ (List.mem_map.mpr ⟨z, hz, rfl⟩)
      omega
theorem choices_len (c : Chase) (t : Tb) (b u g : Nat) (ss : List Nat) : (newsCh c t b u g ss).length ≤ c.news.length * c.places ∧ (lastCh c t b u ss).length ≤ c.places := by
  refine ⟨?_, Nat.le_trans (filterMap_len _ _) (inTime_len _ _ _ _ _)⟩
  have := flat_len c t b u ss (List.range' g (c.news.length - g))
  rw [List.length_range'] at this
  exact Nat.le_trans this (Nat.mul_le_mul_right _ (by omega))
section
variable {P : Program} {w : World} {K : PySem.W.Frag} {mg : Str → Option Value} {base : Heap} {a : Ads}
def spChoices (P : Program) (w : World) (a : Ads) (r : Nat) : Sp := fun vs H Q _ => ∃ (s d t : Addr) (c : Chase) (b g : Nat) (ss : List Nat), vs = [.ref s, vI b, vI g, .ref t] ∧ Given P w a H s d c ∧ b < c.places ∧ g ≤ c.news.length ∧ c.news.length ≤ g + r ∧
  H t = some (.tup (ss.map vI)) ∧ ss ≠ [] ∧ ss.Sublist (List.range c.places) ∧
  ∀ H' p ts, Sm P w H H' d → MemS P w c H' d → H' p = some (.lst (ts.map V.ref)) → Tris H' ts (choices c c.ways b g ss) → Q (.ref p) H'
theorem ok28 (T : Txt K mg a) {r l : Nat} (GN : FnOk P w K mg base CX0 (l + 3) (a.f 26) (a.d 26) ["self", "begin", "since", "gone", "some"] (spNewsCh P w a r)) : FnOk P w K mg base CX0 (l + 4) (a.f 28) (a.d 28) ["self", "begin", "gone", "some"] (spChoices P w a r) := by
  have G27 : FnOk P w K mg base CX0 1 (a.f 27) (a.d 27) ["self", "gone"] (spSince a) := ok27 T
  have G24 : FnOk P w K mg base CX0 2 (a.f 24) (a.d 24) ["self", "begin", "since", "some"] (spLastCh a) := ok24 T
  refine T.F28.ok sc28 (fun vs H Q E h => ?_) (fun cdv A outer s H vs Q E hr h => ?_)
  · obtain ⟨s, d, t, c, b, g, ss, rfl, _⟩ := h
    rfl
  · have hr1 := hr.mono (j := 1) (by omega)
    have hr2 := hr.mono (j := 2) (by omega)
    refine ⟨_, pss_cons (ps_set (i := 4) sc28.nd rfl (Or.inl rfl) (pe_meth (pv 0) T.lSe T.M27 G27 hr1 (b27 T) .nil pass0 (pa_cons (pv 2) pa_nil)))
      (pss_one (ps_ret (pe_op op_cat (pe_meth (pv 0) T.lSe T.M26 GN hr (b26 T) .nil pass0 (pa_cons (pv 1) (pa_cons (pv 4) (pa_cons (pv 2) (pa_cons (pv 3) pa_nil)))))
        (pe_meth (pv 0) T.lSe T.M24 G24 hr2 (b24 T) .nil pass0 (pa_cons (pv 1) (pa_cons (pv 4) (pa_cons (pv 3) pa_nil))))))), ?_⟩
    obtain ⟨s, d, t, c, b, g, ss, rfl, G, hb, hg, hgr, ht, hne, hsub, k⟩ := h
    obtain ⟨⟨⟨dx, pc, pd, h1, _, _⟩, gd⟩, hm⟩ := id G
    refine ⟨_, rfl, s, _, _, rfl, h1, rfl, _, rfl, s, d, c, g, rfl, G.sa, hg, ?_⟩
    refine ⟨_, rfl, s, _, _, rfl, h1, rfl, _, rfl, _, rfl, _, rfl, _, rfl, s, d, t, c, b, sinceOf c g, g, ss, rfl, G, hb, hg, hgr, ht, hne, hsub, fun H1 p1 ts1 s1 m1 hp1 e1 t1 => ?_⟩
    have G1 := G.sm s1 m1
    obtain ⟨⟨⟨dx1, pc1, pd1, h11, _, _⟩, _⟩, _⟩ := id G1
    have hs6 := sub_len hsub
    have p6 := gd.p6
    refine ⟨_, rfl, s, _, _, rfl, h11, rfl, _, rfl, _, rfl, _, rfl, s, d, t, c, b, sinceOf c g, ss, rfl, G1.sa, hb, .inr (s1.tup ht), hne, sub_lt hsub, by omega, fun H2 p2 ts2 s2 hp2 e2 t2 => ?_⟩
    have e12 := s2 _ _ e1
    have n12 : p1 ≠ p2 := ne_of_none e1 hp2
    obtain ⟨l1, l2⟩ := choices_len c c.ways b (sinceOf c g) g ss
    have l3 : c.news.length * c.places ≤ 3 * 6 := Nat.mul_le_mul gd.nl p6
    refine ⟨p1, p2, _, _, rfl, rfl, e12, e2, ?_, fun p hp => ?_⟩
    · rw [List.length_map, List.length_map, paired_len t1, paired_len t2]
      exact small7' (by omega)
    · have s02 := s1.trans (Same.sm (P := P) (w := w) (d := d) s2)
      refine k _ p (ts1 ++ ts2) (s02.new hp) (((m1.same s2).same (same_new hp))) (by rw [upd_same, List.map_append]) ?_
      refine paired_app (paired_imp t1 fun x y e => ?_) (paired_imp t2 fun x y e => ?_)
      · rw [upd_ne (ne_of_none (s2 _ _ e) hp)]
        exact s2 _ _ e
      · rw [upd_ne (ne_of_none e hp)]
        exact e
theorem ok29 (T : Txt K mg a) {r l : Nat} (GC : FnOk P w K mg base CX0 (l + 4) (a.f 28) (a.d 28) ["self", "begin", "gone", "some"] (spChoices P w a r)) : FnOk P w K mg base CX0 (l + 5) (a.f 29) (a.d 29) ["self", "begin", "gone", "some"] (spLeast P w a (r + 1)) := by
  refine T.F29.ok sc29 (fun vs H Q E h => ?_) (fun cdv A outer s H vs Q E hr h => ?_)
  · obtain ⟨s, d, t, c, b, g, ss, rfl, _⟩ := h
    rfl
  · have hu := hr.units
    refine ⟨_, pss_cons (ps_set (i := 4) sc29.nd rfl (Or.inl rfl) (pe_tup (pa_cons (pv 1) (pa_cons (pv 2) (pa_cons (pv 3) pa_nil)))))
      (pss_cons (ps_if (pt_cmpR (op_memNotIn hu) (pv 4) (pe_fld (pv 0) rfl) rfl)
        (pss_one (ps_asg (pe_callBK (cr_minI rfl hu) (by rfl) T.b_min (by decide +kernel)
          (pa_cons (pe_lc (own := [("choice", 5)]) (g := gName 5) (tt := tYes) rfl sc29.nd (pi_list (pe_meth (pv 0) T.lSe T.M28 GC hr (b28 T) .nil pass0 (pa_cons (pv 1) (pa_cons (pv 2) (pa_cons (pv 3) pa_nil))))) (blkOk_by (N := N29) (sc := defScope s29) (by decide +kernel))
            (fun _ _ _ _ _ => pg_name (i := 5) sc29.nd rfl (Or.inl rfl)) (fun _ _ _ _ _ => pts_nil) (fun _ _ _ _ _ => pe_ix (r := rIxT K) ix_tup (pv 5) pe_int (fun _ _ => rfl))) pa_nil)
          (pk_cons pe_non pk_nil)) (pg_sub (pe_fld (pv 0) rfl) (pv 4) (set_mem hu)))) pss_nil)
      (pss_one (ps_ret (pe_memGet hu (pe_fld (pv 0) rfl) (pv 4) (fun _ _ => rfl))))), ?_⟩
    obtain ⟨s, d, t, c, b, g, ss, rfl, G, hb, hg, hgr, ht, hne, hsub, k⟩ := h
    refine ⟨_, rfl, _, rfl, _, rfl, (by show 3 ≤ sizeLine; decide), fun p hp => ?_⟩
    obtain ⟨H1, eH⟩ : ∃ H1, upd H p (.tup [vI b, vI g, .ref t]) = H1 := ⟨_, rfl⟩
    have s1 : Same H H1 := by rw [← eH]; exact same_new hp
    have hp1 : H1 p = some (.tup [vI b, vI g, .ref t]) := by rw [← eH]; exact upd_same
    have hk : KeyAt H1 p (key3 b g ss) := ⟨b, g, ss, t, rfl, hp1, s1 _ _ ht⟩
    have G1 := G.same s1
    obtain ⟨⟨⟨dx, pc, pd, h1, _, _⟩, gd⟩, ⟨xs, hm, hok⟩⟩ := id G1
    have p6 := gd.p6
    have nl3 := gd.nl
    rw [eH]
    refine ⟨_, rfl, _, rfl, s, _, _, _, _, rfl, h1, T.lSe, T.nSe_found, rfl, p, d, key3 b g ss, xs, rfl, rfl, hk, hm, _, rfl, ?_⟩
    cases e : atKey xs (key3 b g ss) with
    | some q =>
      obtain ⟨qa, u⟩ := q
      obtain ⟨b', g', s', ek, _, _, _, rv⟩ := hok _ (atKey_mem e)
      obtain ⟨rfl, rfl, rfl⟩ := key3_inj ek
      exact if_false_of rfl ⟨_, rfl, s, _, _, _, _, rfl, h1, T.lSe, T.nSe_found, rfl, _, rfl, p, d, _, xs, qa, u, rfl, rfl, hk, hm, e, _, rv, k H1 (Same.sm s1) G1.me⟩
    | none =>
      refine if_true_of rfl ⟨_, rfl, s, _, _, rfl, h1, rfl, _, rfl, _, rfl, _, rfl, s, d, t, c, b, g, ss, rfl, G1, hb, hg, by omega, s1 _ _ ht, hne, hsub, fun H2 pl ts s2 m2 e2 t2 => ?_⟩
      obtain ⟨L, hL⟩ : ∃ L, choices c c.ways b g ss = L := ⟨_, rfl⟩
      have hval := choices_value gd.srt c.ways b g ss hg
      rw [hL] at t2 hval
      have hLlen : L.length ≤ 1000 := by
        obtain ⟨l1, l2⟩ := choices_len c c.ways b (sinceOf c g) g ss
        have l3 : c.news.length * c.places ≤ 3 * 6 := Nat.mul_le_mul nl3 p6
        rw [← hL]
        unfold choices
        rw [List.length_append]
        omega
      refine ⟨pl, rfl, ⟨_, SqL.of e2⟩, fun D hD => lc_list (K := K) (a := pl) (xs := ts.map V.ref) (fun i H' => Same H2 H' ∧ H' D = some (.lst (((L.take i).map fun x => ((x.1 : Nat) : Int)).map V.int)))
        ⟨same_new hD, upd_same⟩ (fun i H' _ ⟨s3, _⟩ => SqL.of (s3 _ _ e2)) (fun i x H3 hx ⟨s3, e3⟩ => ?_) (fun H3 ⟨s3, e3⟩ => ?_)⟩
      · rw [List.getElem?_map] at hx
        cases et : ts[i]? with
        | none => rw [et] at hx; cases hx
        | some tj =>
          rw [et] at hx
          obtain rfl : V.ref tj = x := Option.some.inj hx
          obtain ⟨y, ey, hy⟩ := paired_at t2 et
          refine ⟨rfl, _, rfl, tj, _, _, _, rfl, rfl, SqT.of (s3 _ _ hy), rfl, _, e3, ?_, same_upd s3 hD, ?_⟩
          · rw [List.length_map, List.length_map, List.length_take]
            exact small7 (by omega)
          · rw [upd_same, take_snoc ey, List.map_append, List.map_append]
            rfl
      · rw [List.length_map, paired_len t2, List.take_length] at e3
        have s13 := s2.trans (Same.sm (P := P) (w := w) (d := d) s3)
        have m3 := m2.same s3
        have sm := (Same.sm (P := P) (w := w) (d := d) s1).trans s13
        have hk3 : KeyAt H3 p (key3 b g ss) := hk.same fun _ _ z => s13.tup z
        have h13 := s13.ins h1
        obtain ⟨xs3, hm3, hok3⟩ := id m3
        -- what is stored and handed back
        have store : ∀ v : V, v = vO (c.value c.ways (c.news.drop g) (sinceOf c g) b ss) → ∀ u, RelV v u → ((storedH xs3 (key3 b g ss) p u).map (·.1)).Nodup →
            tRet (tMemGet P w (tFld K (tVar 0) "found") (tVar 4)) { nx := fun _ H' => Q .non H', rt := Q } [some (.ref s), some (vI b), some (vI g), some (.ref t), some (.ref p), none] (upd H3 d (memO P w d (storedH xs3 (key3 b g ss) p u))) := by
          rintro v ev u ru nd
          have nt : ∀ b ys, H3 b = some (.tup ys) → b ≠ d := fun b ys q => ne_memO hm3.at_ q memO_tup
          have ni : s ≠ d := ne_memO hm3.at_ h13 memO_ins
          have hk4 : KeyAt (upd H3 d (memO P w d (storedH xs3 (key3 b g ss) p u))) p (key3 b g ss) := hk3.same fun b ys q => by rw [upd_ne (nt b ys q)]; exact q
          have hm4 : MemAt P w (upd H3 d (memO P w d (storedH xs3 (key3 b g ss) p u))) d (storedH xs3 (key3 b g ss) p u) := by
            refine ⟨upd_same, fun x hx => ?_, nd⟩
            rcases storedH_mem hx with hx | ⟨e1, _, e2 | ⟨y, hy, e2, e4⟩⟩
            · exact (hm3.keys x hx).same fun b ys q => by rw [upd_ne (nt b ys q)]; exact q
            · rw [e1, e2]
              exact hk4
            · rw [e1, ← e2, ← e4]
              exact (hm3.keys y hy).same fun b ys q => by rw [upd_ne (nt b ys q)]; exact q
          obtain ⟨qa, hat⟩ := storedH_at xs3 (key3 b g ss) p u
          refine ⟨_, rfl, s, _, _, _, _, rfl, by rw [upd_ne ni]; exact h13, T.lSe, T.nSe_found, rfl, _, rfl, p, d, _, _, qa, u, rfl, rfl, hk4, hm4, hat, v, ru, ?_⟩
          rw [ev]
          refine k _ ⟨fun b' o n q => ?_, fun b' o n q => ?_⟩ ⟨_, hm4, fun x hx => ?_⟩
          · have z := sm.f b' o n q
            rw [upd_ne (ne_memO hm3.at_ z (fun e => n _ e.symm))]
            exact z
          · rw [upd_ne n]
            exact sm.b b' o n q
          · rcases storedH_mem hx with hx | ⟨e1, e2, _⟩
            · exact hok3 x hx
            · exact ⟨b, g, ss, e1, by omega, by omega, hsub.trans (List.range_sublist.mpr p6), by rw [e2, ← ev]; exact ru⟩
        have hz := mem_len hm3 hok3
        obtain ⟨r1, r2⟩ := min_read L
        rw [hval] at r1 r2
        have set : ∀ v : V, v = vO (c.value c.ways (c.news.drop g) (sinceOf c g) b ss) → gSub (tFld K (tVar 0) "found") (tVar 4) (rMemSet P w) v [some (.ref s), some (vI b), some (vI g), some (.ref t), some (.ref p), none] H3
            (tRet (tMemGet P w (tFld K (tVar 0) "found") (tVar 4)) { nx := fun _ H' => Q .non H', rt := Q }) := fun v ev =>
          ⟨_, rfl, s, _, _, _, _, rfl, h13, T.lSe, T.nSe_found, rfl, _, rfl, p, d, _, xs3, rfl, rfl, hk3, hm3, small7' (by omega), store v ev⟩
        exact ⟨D, _, rfl, rfl, SqL.of e3, fun e => set _ (r1 e), fun m hm hkk => set _ (r2 m hm hkk)⟩
/-- the recursion, by the news still to come -/
theorem ok_rec (T : Txt K mg a) : ∀ r : Nat, FnOk P w K mg base CX0 (4 * r + 1) (a.f 29) (a.d 29) ["self", "begin", "gone", "some"] (spLeast P w a r)
  | 0 => by
    refine ⟨fun vs H Q E h => ?_, fun A outer s H args us vs Q E _ _ _ _ h => ?_⟩
    · obtain ⟨_, _, _, c, _, g, _, _, _, _, h1, h2, _⟩ := h
      omega
    · obtain ⟨_, _, _, c, _, g, _, _, _, _, h1, h2, _⟩ := h
      omega
  | r + 1 => ok29 T (ok28 T (ok26 T (ok25 T (ok_rec T r))))
/-- choices, from the beginning -/
theorem ok_choices (T : Txt K mg a) : FnOk P w K mg base CX0 16 (a.f 28) (a.d 28) ["self", "begin", "gone", "some"] (spChoices P w a 3) := ok28 T (ok26 T (ok25 T (ok_rec T 3)))
end
end RB
end
section
namespace RB
open PySem PySem.Spec PyProof.Rows L2
open Si94 (Chase News worstOf)
/-- [choice[0] for choice in ..], the choices at pl -/
theorem lc_firsts {K : PySem.W.Frag} {σ : L2.St} {i : Nat} {H2 : Hp} {pl D : Addr} {ts : List Addr} {L : List T3} {Qd : Hp → Prop} (hi : i < σ.length) (e2 : H2 pl = some (.lst (ts.map V.ref))) (t2 : Tris H2 ts L) (hl : L.length ≤ 1000) (hD : H2 D = none)
    (hd : ∀ H', Same H2 H' → H' D = some (.lst ((L.map fun x => ((x.1 : Nat) : Int)).map V.int)) → Qd H') :
    ∃ W : Nat → Nat → Hp → Prop, (∃ m, W 0 m (upd H2 D (.lst []))) ∧ ∀ j m H, W j m H →
      ((Itl K pl).stop j H ∧ Qd H) ∨ ((Itl K pl).go j H ∧ ∃ Nx : Hp → Prop, (∀ H', Nx H' → ∃ m', m' < m ∧ W (j + 1) m' H') ∧ ∀ x H', (Itl K pl).yld j H x H' → gName i x (wipe σ [i]) H' fun σ2 H2 => wipe σ2 [i] = wipe σ [i] ∧ tYes σ2 H2 fun b H3 =>
        if b = true then tOp (rIxT K) (tVar i) (tC (.int 0)) σ2 H3 fun y H4 => ∃ acc, H4 D = some (.lst acc) ∧ acc.length < sizeLine ∧ Nx (upd H4 D (.lst (acc ++ [y]))) else Nx H3) := by
  refine lc_list (K := K) (a := pl) (xs := ts.map V.ref) (fun j H' => Same H2 H' ∧ H' D = some (.lst (((L.take j).map fun x => ((x.1 : Nat) : Int)).map V.int)))
    ⟨same_new hD, upd_same⟩ (fun j H' _ ⟨s3, _⟩ => SqL.of (s3 _ _ e2)) (fun j x H3 hx ⟨s3, e3⟩ => ?_) (fun H3 ⟨s3, e3⟩ => ?_)
  · rw [List.getElem?_map] at hx
    cases et : ts[j]? with
    | none => rw [et] at hx; cases hx
    | some tj =>
      rw [et] at hx
      obtain rfl : V.ref tj = x := Option.some.inj hx
      obtain ⟨y, ey, hy⟩ := paired_at t2 et
      refine ⟨?_, .ref tj, ?_, tj, _, _, _, rfl, rfl, SqT.of (s3 _ _ hy), rfl, _, e3, ?_, same_upd s3 hD, ?_⟩
      · show ((σ.set i none).set i (some (V.ref tj))).set i none = σ.set i none
        rw [List.set_set, List.set_set]
      · show ((σ.set i none).set i (some (V.ref tj)))[i]? = some (some (V.ref tj))
        rw [List.getElem?_set_self (by rw [List.length_set]; exact hi)]
      · rw [List.length_map, List.length_map, List.length_take]
        exact small7 (by omega)
      · rw [upd_same, take_snoc ey, List.map_append, List.map_append]
        rfl
  · rw [List.length_map, paired_len t2, List.take_length] at e3
    exact hd H3 s3 e3
theorem mays_sub (c : Chase) : c.mays.Sublist (List.range c.places) := List.filter_sublist
section
variable {P : Program} {w : World} {K : PySem.W.Frag} {mg : Str → Option Value} {base : Heap} {a : Ads}
def spFirst (a : Ads) : Sp := fun vs H Q _ => ∃ (pc pr pn : Addr) (c : Chase), vs = [.ref pc] ∧ ChaseAt a.cCh H pc pr pn c ∧ Good c ∧
  (bestT (choices c c.ways c.start 0 c.mays) = none → ∀ H', Same H H' → Q .non H') ∧ (∀ x, bestT (choices c c.ways c.start 0 c.mays) = some x → ∀ H' t, Same H H' → H' t = some (.tup (V3 x)) → Q (.ref t) H')
theorem ok31 (T : Txt K mg a) : FnOk P w K mg base CX0 17 (a.f 31) (a.d 31) ["chase"] (spFirst a) := by
  have G21 : FnOk P w K mg base CX0 5 (a.f 21) (a.d 21) ["self", "chase"] (spSInit P w a) := ok21 T
  have GC : FnOk P w K mg base CX0 16 (a.f 28) (a.d 28) ["self", "begin", "gone", "some"] (spChoices P w a 3) := ok_choices T
  refine T.F31.ok sc31 (fun vs H Q E h => ?_) (fun cdv A outer s H vs Q E hr h => ?_)
  · obtain ⟨pc, pr, pn, c, rfl, _⟩ := h
    rfl
  · have hr6 := hr.mono (j := 6) (by omega)
    refine ⟨_, pss_cons (ps_set (i := 1) sc31.nd rfl (Or.inl rfl) (pe_make T.kSe G21 hr6 (by rfl) T.gSe (b21 T) .nil pass0 (pa_cons (pv 0) pa_nil)))
      (pss_one (ps_ret (pe_callBK (cr_minT rfl hr.units) (by rfl) T.b_min (by decide +kernel) (pa_cons (pe_meth (pv 1) T.lSe T.M28 GC hr (b28 T) .nil pass0
        (pa_cons (pe_fld (pv 0) rfl) (pa_cons pe_int (pa_cons (pe_callTy cr_tupOf (by rfl) T.b_tuple (by decide +kernel) (pa_cons (pe_fld (pv 0) rfl) pa_nil)) pa_nil)))) pa_nil) (pk_cons pe_non pk_nil)))), ?_⟩
    obtain ⟨pc, pr, pn, c, rfl, hc, g, k0, k1⟩ := h
    refine ⟨_, rfl, fun x dx hx hdx ne => ?_⟩
    have s0 : Same H (upd (upd H dx (.own x)) x (.ins a.cSe dx [])) := same_upd (same_new hdx) hx
    refine ⟨x, dx, pc, pr, pn, c, rfl, upd_same, hc.same s0, g, fun H2 d S2 m2 keep hd => ⟨rfl, ?_⟩⟩
    have s2 : Same H H2 := Same.made hx hdx keep
    have hd0 : H d = none := s0.free hd
    have hc2 := hc.same s2
    obtain ⟨⟨dxc, pm, hci, hpm, _⟩, _⟩ := id hc2
    obtain ⟨⟨dxs, pcs, pds, hsi, _, _⟩, _⟩ := id S2
    refine ⟨_, rfl, x, _, _, rfl, hsi, rfl, _, rfl, pc, _, _, _, _, rfl, hci, T.lCh, T.nCh_car, rfl, _, rfl, pc, _, _, _, _, rfl, hci, T.lCh, T.nCh_may, rfl, pm, _, rfl, .inl ⟨SqL.of hpm, fun tt htt => ?_⟩⟩
    have s3 : Same H2 (upd H2 tt (.tup (c.mays.map vI))) := same_new htt
    refine ⟨x, d, tt, c, c.start, 0, c.mays, rfl, Given.same s3 ⟨S2, m2⟩, g.st, Nat.zero_le _, by have := g.nl; omega, upd_same, mays_ne g, mays_sub c, fun H4 p ts s4 m4 e4 t4 => ?_⟩
    have s24 : But d H2 H4 := (Same.but d s3).trans s4.b
    have sH : Same H H4 := fun b o e => s24 b o (ne_of_none e hd0) (s2 b o e)
    exact ⟨p, ts, _, rfl, rfl, SqL.of e4, t4, fun e => k0 (by rw [e]; rfl) H4 sH, fun y t ey ht => k1 y ey H4 t sH ht⟩
def spUnknown (a : Ads) : Sp := fun vs H Q _ => ∃ (pc pr pn : Addr) (c : Chase), vs = [.ref pc] ∧ ChaseAt a.cCh H pc pr pn c ∧ Good c ∧ ∀ H', Same H H' → Q (vO c.silent.worst) H'
theorem lastCh_len {c : Chase} (g : Good c) (b t : Nat) (ss : List Nat) : (lastCh c c.ways b t ss).length ≤ 1000 := by
  have := (choices_len c c.ways b t 0 ss).2
  have := g.p6
  omega
theorem ok32 (T : Txt K mg a) : FnOk P w K mg base CX0 7 (a.f 32) (a.d 32) ["chase"] (spUnknown a) := by
  have G21 : FnOk P w K mg base CX0 5 (a.f 21) (a.d 21) ["self", "chase"] (spSInit P w a) := ok21 T
  have G24 : FnOk P w K mg base CX0 2 (a.f 24) (a.d 24) ["self", "begin", "since", "some"] (spLastCh a) := ok24 T
  refine T.F32.ok sc32 (fun vs H Q E h => ?_) (fun cdv A outer s H vs Q E hr h => ?_)
  · obtain ⟨pc, pr, pn, c, rfl, _⟩ := h
    rfl
  · have hr2 := hr.mono (j := 2) (by omega)
    refine ⟨_, pss_cons (ps_set (i := 1) sc32.nd rfl (Or.inl rfl) (pe_make T.kSe G21 hr (by rfl) T.gSe (b21 T) .nil pass0 (pa_cons (pv 0) pa_nil)))
      (pss_one (ps_ret (pe_callBK (cr_minI rfl hr.units) (by rfl) T.b_min (by decide +kernel) (pa_cons (pe_lc (own := [("choice", 2)]) (g := gName 2) (tt := tYes) rfl sc32.nd
        (pi_list (pe_meth (pv 1) T.lSe T.M24 G24 hr2 (b24 T) .nil pass0 (pa_cons (pe_fld (pv 0) rfl) (pa_cons pe_int (pa_cons (pe_fld (pv 0) rfl) pa_nil))))) (blkOk_by (N := N32) (sc := defScope s32) (by decide +kernel))
        (fun _ _ _ _ _ => pg_name (i := 2) sc32.nd rfl (Or.inl rfl)) (fun _ _ _ _ _ => pts_nil) (fun _ _ _ _ _ => pe_ix (r := rIxT K) ix_tup (pv 2) pe_int (fun _ _ => rfl))) pa_nil) (pk_cons pe_non pk_nil)))), ?_⟩
    obtain ⟨pc, pr, pn, c, rfl, hc, g, k⟩ := h
    refine ⟨_, rfl, fun x dx hx hdx ne => ?_⟩
    have s0 : Same H (upd (upd H dx (.own x)) x (.ins a.cSe dx [])) := same_upd (same_new hdx) hx
    refine ⟨x, dx, pc, pr, pn, c, rfl, upd_same, hc.same s0, g, fun H2 d S2 m2 keep hd => ⟨rfl, ?_⟩⟩
    have s2 : Same H H2 := Same.made hx hdx keep
    have hc2 := hc.same s2
    obtain ⟨⟨dxc, pm, hci, hpm, _⟩, _⟩ := id hc2
    obtain ⟨⟨dxs, pcs, pds, hsi, _, _⟩, _⟩ := id S2
    have hml := sub_len (mays_sub c)
    have p6 := g.p6
    refine ⟨_, rfl, x, _, _, rfl, hsi, rfl, _, rfl, pc, _, _, _, _, rfl, hci, T.lCh, T.nCh_car, rfl, _, rfl, pc, _, _, _, _, rfl, hci, T.lCh, T.nCh_may, rfl, x, d, pm, c, c.start, 0, c.mays, rfl, S2, g.st, .inl hpm, mays_ne g, fun v hv => mays_lt hv, by omega, fun H3 p ts s3 hp e3 t3 => ?_⟩
    refine ⟨p, rfl, ⟨_, SqL.of e3⟩, fun D hD => lc_firsts (by show 2 < 3; decide) e3 t3 (lastCh_len g _ _ _) hD fun H4 s4 e4 => ?_⟩
    obtain ⟨r1, r2⟩ := min_read (lastCh c c.ways c.start 0 c.mays)
    rw [← unknown_law c] at r1 r2
    have sH := (s2.trans s3).trans s4
    exact ⟨D, _, rfl, rfl, SqL.of e4, fun e => by have z := r1 e; have := k H4 sH; rw [← z] at this; exact this, fun m hm hk => by have z := r2 m hm hk; have := k H4 sH; rw [← z] at this; exact this⟩
def spKnown (a : Ads) : Sp := fun vs H Q _ => ∃ (pc pr pn : Addr) (c : Chase), vs = [.ref pc] ∧ ChaseAt a.cCh H pc pr pn c ∧ Good c ∧ ∀ H', Same H H' → Q (vO c.open_.worst) H'
theorem ok33 (T : Txt K mg a) : FnOk P w K mg base CX0 7 (a.f 33) (a.d 33) ["chase"] (spKnown a) := by
  have G21 : FnOk P w K mg base CX0 5 (a.f 21) (a.d 21) ["self", "chase"] (spSInit P w a) := ok21 T
  have G24 : FnOk P w K mg base CX0 2 (a.f 24) (a.d 24) ["self", "begin", "since", "some"] (spLastCh a) := ok24 T
  refine T.F33.ok sc33 (fun vs H Q E h => ?_) (fun cdv A outer s H vs Q E hr h => ?_)
  · obtain ⟨pc, pr, pn, c, rfl, _⟩ := h
    rfl
  · have hr2 := hr.mono (j := 2) (by omega)
    refine ⟨_, pss_cons (ps_set (i := 1) sc33.nd rfl (Or.inl rfl) (pe_make T.kSe G21 hr (by rfl) T.gSe (b21 T) .nil pass0 (pa_cons (pv 0) pa_nil)))
      (pss_cons (ps_set (i := 2) sc33.nd rfl (Or.inl rfl) (pe_lst pa_nil))
      (pss_cons (ps_for PassesOwn.never rfl (pi_list (pe_fld (pv 0) rfl)) (pg_name (i := 3) sc33.nd rfl (Or.inl rfl))
        (pss_one (ps_expr (pe_bm PySem.F.plainAttrs_list PySem.F.slot_list_append PySem.F.type_list_append mt_append (pv 2) (pa_cons
          (pe_callBK (cr_minI rfl hr.units) (by rfl) T.b_min (by decide +kernel) (pa_cons (pe_lc (own := [("choice", 4)]) (g := gName 4) (tt := tYes) rfl sc33.nd
            (pi_list (pe_meth (pv 1) T.lSe T.M24 G24 hr2 (b24 T) .nil pass0 (pa_cons (pe_fld (pv 0) rfl) (pa_cons pe_int (pa_cons (pe_lst (pa_cons (pv 3) pa_nil)) pa_nil))))) (blkOk_by (N := N33) (sc := defScope s33) (by decide +kernel))
            (fun _ _ _ _ _ => pg_name (i := 4) sc33.nd rfl (Or.inl rfl)) (fun _ _ _ _ _ => pts_nil) (fun _ _ _ _ _ => pe_ix (r := rIxT K) ix_tup (pv 4) pe_int (fun _ _ => rfl))) pa_nil) (pk_cons pe_non pk_nil)) pa_nil)))))
      (pss_cons (ps_if (pt_cmpR op_in_seq pe_non (pv 2) rfl) (pss_one (ps_ret pe_non)) pss_nil)
      (pss_one (ps_ret (pe_callB (cr_max rfl) (by rfl) T.b_max (by decide +kernel) (pa_cons (pv 2) pa_nil))))))), ?_⟩
    obtain ⟨pc, pr, pn, c, rfl, hc, g, k⟩ := h
    refine ⟨_, rfl, fun x dx hx hdx ne => ?_⟩
    have s0 : Same H (upd (upd H dx (.own x)) x (.ins a.cSe dx [])) := same_upd (same_new hdx) hx
    refine ⟨x, dx, pc, pr, pn, c, rfl, upd_same, hc.same s0, g, fun H2 d S2 m2 keep hd => ⟨rfl, ?_⟩⟩
    have s2 : Same H H2 := Same.made hx hdx keep
    have hc2 := hc.same s2
    obtain ⟨⟨dxc, pm, hci, hpm, _⟩, _⟩ := id hc2
    have hml := sub_len (mays_sub c)
    have p6 := g.p6
    refine ⟨by decide, fun pf hpf => ?_⟩
    have s3 : Same H2 (upd H2 pf (.lst [])) := same_new hpf
    refine ⟨_, rfl, pc, _, _, _, _, rfl, s3 _ _ hci, T.lCh, T.nCh_may, rfl, pm, rfl, ⟨_, SqL.of (s3 _ _ hpm)⟩, for_list (K := K) (a := pm) (xs := c.mays.map vI)
      (fun i σ H' => ∃ v3, σ = [some (.ref pc), some (.ref x), some (.ref pf), v3, none] ∧ Same H2 H' ∧ H' pf = some (.lst (((c.mays.take i).map fun v => Si94.least ((lastCh c c.ways c.start 0 [v]).map (·.1))).map vO)))
      ⟨none, rfl, s3, upd_same⟩ (fun i σ H' _ ⟨_, _, s4, _⟩ => SqL.of (s4 _ _ hpm)) ?_ ?_⟩
    · rintro i y σ H3 hi ⟨v3, rfl, s4, e4⟩
      rw [List.getElem?_map] at hi
      cases ev : c.mays[i]? with
      | none => rw [ev] at hi; cases hi
      | some v =>
        rw [ev] at hi
        obtain rfl : vI v = y := Option.some.inj hi
        have hv := mays_lt (List.mem_of_getElem? ev)
        have S3 := S2.same s4
        obtain ⟨⟨dxs, pcs, pds, hsi, _, _⟩, _⟩ := id S3
        refine ⟨_, rfl, .inl ⟨rfl, _, SqL.of e4⟩, _, rfl, x, _, _, rfl, hsi, rfl, _, rfl, pc, _, _, _, _, rfl, s4 _ _ hci, T.lCh, T.nCh_car, rfl, _, rfl, (by show 1 ≤ sizeLine; decide), fun pg hpg => ?_⟩
        have s5 : Same H3 (upd H3 pg (.lst [vI v])) := same_new hpg
        refine ⟨x, d, pg, c, c.start, 0, [v], rfl, S3.same s5, g.st, .inl upd_same, by simp, fun u hu => by rw [List.mem_singleton.mp hu]; exact hv, (by show 1 ≤ 6; decide), fun H5 p ts s6 hp e6 t6 => ?_⟩
        refine ⟨p, rfl, ⟨_, SqL.of e6⟩, fun D hD => lc_firsts (by show 4 < 5; decide) e6 t6 (lastCh_len g _ _ _) hD fun H6 s7 e7 => ?_⟩
        obtain ⟨r1, r2⟩ := min_read (lastCh c c.ways c.start 0 [v])
        have s37 := (s5.trans s6).trans s7
        have add : ∀ u : V, u = vO (Si94.least ((lastCh c c.ways c.start 0 [v]).map (·.1))) → rAppend (.ref pf) [u] H6 fun _ H' => ∃ v3, [some (.ref pc), some (.ref x), some (.ref pf), some (vI v), none] = [some (.ref pc), some (.ref x), some (.ref pf), v3, none] ∧ Same H2 H' ∧ H' pf = some (.lst (((c.mays.take (i + 1)).map fun v => Si94.least ((lastCh c c.ways c.start 0 [v]).map (·.1))).map vO)) := by
          rintro u rfl
          refine ⟨pf, _, _, rfl, rfl, s37 _ _ e4, ?_, _, rfl, same_upd (s4.trans s37) hpf, ?_⟩
          · rw [List.length_map, List.length_map, List.length_take]
            exact small7 (by omega)
          · rw [upd_same, take_snoc ev, List.map_append, List.map_append]
            rfl
        exact ⟨D, _, rfl, rfl, SqL.of e7, fun e => add _ (r1 e), fun m hm hk => add _ (r2 m hm hk)⟩
    · rintro σ H3 ⟨v3, rfl, s4, e4⟩
      rw [List.length_map, List.take_length] at e4
      have sH := s2.trans s4
      have kl := known_law g.rd g.st
      refine ⟨_, rfl, pf, _, rfl, .inl (SqL.of e4), rfl, flat_vO _, _, rfl, ?_⟩
      by_cases hn : none ∈ c.mays.map fun v => Si94.least ((lastCh c c.ways c.start 0 [v]).map (·.1))
      · refine if_true_of ((inV_none _).trans (decide_eq_true hn)) ?_
        have e : vO c.open_.worst = .non := by rw [kl]; exact worst_no hn
        have := k H3 sH
        rw [e] at this
        exact this
      · refine if_false_of ((inV_none _).trans (decide_eq_false hn)) ?_
        obtain ⟨ns, en, hpos, hmax⟩ := max_read hn (fun e => mays_ne g (List.map_eq_nil_iff.mp e))
        rw [en] at e4
        refine ⟨_, rfl, pf, ns, rfl, SqL.of e4, hpos, fun m hm hk => ?_⟩
        have := hmax m hm hk
        rw [this, ← kl]
        exact k H3 sH
end
end RB
end
section
namespace RB
open PySem PySem.Spec PyProof.Rows L2
open Si94 (Chase News worstOf)
/-- it is refused by the number n -/
def Ref (C : Addr) (E : XK) (H : Hp) (n : Int) : Prop := ∀ d H', Same H H' → H' d = some (.xd [("told", .int n)]) → E (.ref C) (some d) H'
theorem Ref.same {C : Addr} {E : XK} {H H1 : Hp} {n : Int} (s : Same H H1) (r : Ref C E H n) : Ref C E H1 n := fun d H' s' e => r d H' (s.trans s') e
structure DeskAt (a : Ads) (H : Hp) (p pc pr pn : Addr) (c : Chase) : Prop where
  ins : ∃ dx, H p = some (.ins a.cDe dx [("own", .ref pc)])
  ch : ChaseAt a.cCh H pc pr pn c
theorem DeskAt.same {a : Ads} {H H' : Hp} {p pc pr pn : Addr} {c : Chase} (s : Same H H') (h : DeskAt a H p pc pr pn c) : DeskAt a H' p pc pr pn c := by
  obtain ⟨⟨dx, h1⟩, h2⟩ := h
  exact ⟨⟨dx, s _ _ h1⟩, h2.same s⟩
section
variable {P : Program} {w : World} {K : PySem.W.Frag} {mg : Str → Option Value} {base : Heap} {a : Ads}
/-! ### Refused, want, wanted -/
def spRInit (C : Addr) : Sp := fun vs H Q _ => ∃ (p : Addr) (v : V), vs = [.ref p, v] ∧ H p = some (exo p C none) ∧ ∀ d, H d = none → d ≠ p → Q .non (upd (upd H d (exd d [("told", v)])) p (exo p C (some d)))
theorem ok41 (T : Txt K mg a) : FnOk P w K mg base CX0 1 (a.f 41) (a.d 41) ["self", "told"] (spRInit a.cRe) := by
  refine T.F41.ok sc41 (fun vs H Q E h => ?_) (fun cdv A outer s H vs Q E hr h => ?_)
  · obtain ⟨p, v, rfl, _⟩ := h
    rfl
  · refine ⟨_, pss_cons (ps_expr (pe_veinit (by rfl) T.b_ValueError T.vRe (pa_cons (pv 0) (pa_cons pe_str pa_nil)))) (pss_one (ps_ost (pv 0) (pv 1) rfl)), ?_⟩
    obtain ⟨p, v, rfl, hp, k⟩ := h
    exact ⟨_, rfl, p, a.cRe, _, rfl, (by show 1 ≤ 1000; decide), T.oRe, hp, _, rfl, _, rfl, p, a.cRe, rfl, T.oRe, T.nRe, .inl ⟨hp, fun dx hdx ne => k dx hdx ne⟩⟩
def spWant (C : Addr) : Sp := fun vs H Q E => ∃ (b : Bool) (n : Int), vs = [.bl b, .int n] ∧ (b = true → Q .non H) ∧ (b = false → Ref C E H n)
theorem ok42 (T : Txt K mg a) : FnOk P w K mg base (L2.CX P w) 3 (a.f 42) (a.d 42) ["truth", "number"] (spWant a.cRe) := by
  have G41 : FnOk P w K mg base CX0 1 (a.f 41) (a.d 41) ["self", "told"] (spRInit a.cRe) := ok41 T
  refine T.F42.okX sc42 (fun vs H Q E h => ?_) (fun cdv A outer s H vs Q E hr h => ?_)
  · obtain ⟨b, n, rfl, _⟩ := h
    rfl
  · refine ⟨_, pss_one (ps_if (pt_not (pt_val (pv 0))) (pss_one (ps_raise rfl (takes_of rfl rfl rfl rfl) (pmk_oex T.oRe T.iRe T.tRe G41 hr (b41 T) .nil pass0 (by rfl) T.gRe (pa_cons (pv 1) pa_nil)))) pss_nil), ?_⟩
    obtain ⟨b, n, rfl, k1, k2⟩ := h
    cases b with
    | true => exact ⟨_, rfl, _, rfl, if_false_of rfl (k1 rfl)⟩
    | false =>
      refine ⟨_, rfl, _, rfl, if_true_of rfl ⟨_, rfl, (by show 1 ≤ 1000; decide), fun e he => ⟨e, _, rfl, upd_same, fun d hd ne => ⟨rfl, d, _, upd_same, by rw [upd_ne ne]; exact upd_same, by rw [upd_ne ne] at hd; exact hd, ?_⟩⟩⟩⟩
      refine k2 rfl d _ (fun b o q => ?_) upd_same
      have n1 : b ≠ e := ne_of_none q he
      have n2 : b ≠ d := by
        rw [upd_ne ne] at hd
        exact ne_of_none q hd
      rw [upd_ne n2, del_ne n1, upd_ne n1, upd_ne n2, upd_ne n1]
      exact q
def spWanted (C : Addr) : Sp := fun vs H Q E => ∃ x : V, vs = [x] ∧ (x ≠ .non → Q x H) ∧ (x = .non → Ref C E H (-6))
theorem ok43 (T : Txt K mg a) : FnOk P w K mg base (L2.CX P w) 4 (a.f 43) (a.d 43) ["found"] (spWanted a.cRe) := by
  have G42 : FnOk P w K mg base (L2.CX P w) 3 (a.f 42) (a.d 42) ["truth", "number"] (spWant a.cRe) := ok42 T
  obtain ⟨t6, c6⟩ := T.c_CANNOT_BE
  refine T.F43.okX sc43 (fun vs H Q E h => ?_) (fun cdv A outer s H vs Q E hr h => ?_)
  · obtain ⟨x, rfl, _⟩ := h
    rfl
  · refine ⟨_, pss_cons (ps_expr (pe_call G42 hr (by rfl) T.g42 T.F42.kp (b42 T) .nil (passes_call (takes_of rfl rfl rfl rfl) (fun _ _ _ _ h => h)) (pa_cons (pe_cmp (pc_notN (pv 0))) (pa_cons (pe_glob (v := .int (-6)) (by rfl) c6 ⟨_, rfl⟩) pa_nil))))
      (pss_one (ps_ret (pv 0))), ?_⟩
    obtain ⟨x, rfl, k1, k2⟩ := h
    refine ⟨_, rfl, _, _, rfl, fun e => ⟨_, rfl, k1 fun z => ?_⟩, fun e => k2 ?_⟩
    · subst z
      cases e
    · exact Classical.byContradiction fun z => by
        have : (!decide (x = V.non)) = true := by simp [z]
        rw [this] at e
        cases e
/-! ### Desk -/
theorem cF_init : (Si94.init : Chase) = ⟨1, 0, 0, [], 2 ^ 1 - 1, []⟩ := rfl
def spDInit (a : Ads) : Sp := fun vs H Q _ => ∃ (p dx : Addr), vs = [.ref p] ∧ H p = some (.ins a.cDe dx []) ∧ ∀ H' pc pr pn, DeskAt a H' p pc pr pn Si94.init → (∀ b o, H b = some o → b ≠ p → H' b = some o) → H pc = none → H pr = none → H pn = none → Q .non H'
theorem ok51 (T : Txt K mg a) : FnOk P w K mg base CX0 3 (a.f 51) (a.d 51) ["self"] (spDInit a) := by
  have G11 : FnOk P w K mg base CX0 1 (a.f 11) (a.d 11) ["self", "places", "car", "minute"] (spCInit a.cCh) := ok11 T
  refine T.F51.ok sc51 (fun vs H Q E h => ?_) (fun cdv A outer s H vs Q E hr h => ?_)
  · obtain ⟨p, dx, rfl, _⟩ := h
    rfl
  · refine ⟨_, pss_one (ps_fld (pv 0) (pe_make T.kCh G11 hr (by rfl) T.gCh (b11 T) .nil pass0 (pa_cons pe_int (pa_cons pe_int (pa_cons pe_int pa_nil)))) rfl), ?_⟩
    obtain ⟨p, dx, rfl, hp, k⟩ := h
    intro x dxx hx hdxx ne
    have s0 : Same H (upd (upd H dxx (.own x)) x (.ins a.cCh dxx [])) := same_upd (same_new hdxx) hx
    refine ⟨x, dxx, 1, 0, 0, rfl, by decide, upd_same, fun H1 pr pn hc _ keep hpr hpn => ⟨rfl, ?_⟩⟩
    have s1 : Same H H1 := Same.made hx hdxx keep
    have nx : x ≠ p := (ne_of_none hp hx).symm
    refine ⟨_, rfl, p, _, _, _, rfl, s1 _ _ hp, T.lDe, T.nDe_own, (by show 0 < 1000; decide), ?_⟩
    have npr : ∀ {b : Addr} {o : HO}, H1 b = some o → o ≠ .ins a.cDe dx [] → b ≠ p := fun {b o} e n z => by
      rw [z, s1 _ _ hp] at e
      exact n (Option.some.inj e).symm
    have old : ∀ b o, H1 b = some o → b ≠ p → upd H1 p (.ins a.cDe dx (putF "own" (.ref x) [])) b = some o := fun b o e n => by rw [upd_ne n]; exact e
    refine k _ x pr pn ⟨⟨dx, upd_same⟩, ?_⟩ (fun b o e n => old b o (s1 b o e) n) hx (s0.free hpr) (s0.free hpn)
    obtain ⟨⟨dx', pm, h1, h2, h3⟩, ⟨ts, r1, r2⟩, ⟨us, n1, n2⟩, h6⟩ := hc
    exact ⟨⟨dx', pm, old _ _ h1 nx, old _ _ h2 (npr h2 (by intro z; cases z)), h3⟩, ⟨ts, old _ _ r1 (npr r1 (by intro z; cases z)), paired_imp r2 fun _ _ e => old _ _ e (npr e (by intro z; cases z))⟩,
      ⟨us, old _ _ n1 (npr n1 (by intro z; cases z)), paired_imp n2 fun _ _ ⟨q, e1, e2, e3⟩ => ⟨q, old _ _ e1 (npr e1 (by intro z; cases z)), old _ _ e2 (npr e2 (by intro z; cases z)), e3⟩⟩, h6⟩
def spWantPlaces (a : Ads) : Sp := fun vs H Q E => ∃ (p pc pr pn : Addr) (c : Chase) (u v : Nat), vs = [.ref p, vI u, vI v] ∧ DeskAt a H p pc pr pn c ∧ ((u < c.places ∧ v < c.places) → Q .non H) ∧ (¬ (u < c.places ∧ v < c.places) → Ref a.cRe E H (-2))
theorem ok52 (T : Txt K mg a) : FnOk P w K mg base (L2.CX P w) 4 (a.f 52) (a.d 52) ["self", "place", "other"] (spWantPlaces a) := by
  have G42 : FnOk P w K mg base (L2.CX P w) 3 (a.f 42) (a.d 42) ["truth", "number"] (spWant a.cRe) := ok42 T
  have G12 : FnOk P w K mg base CX0 1 (a.f 12) (a.d 12) ["self", "place"] (spHas a.cCh) := ok12 T
  obtain ⟨t2, c2⟩ := T.c_NO_PLACE
  refine T.F52.okX sc52 (fun vs H Q E h => ?_) (fun cdv A outer s H vs Q E hr h => ?_)
  · obtain ⟨p, pc, pr, pn, c, u, v, rfl, _⟩ := h
    rfl
  · have hr1 := hr.mono (j := 1) (by omega)
    refine ⟨_, pss_one (ps_expr (pe_call G42 hr (by rfl) T.g42 T.F42.kp (b42 T) .nil (passes_call (takes_of rfl rfl rfl rfl) (fun _ _ _ _ h => h))
      (pa_cons (pe_and (pe_meth (pe_fld (pv 0) rfl) T.lCh T.M12 G12 hr1 (b12 T) .nil pass0 (pa_cons (pv 1) pa_nil)) (pe_one (pe_meth (pe_fld (pv 0) rfl) T.lCh T.M12 G12 hr1 (b12 T) .nil pass0 (pa_cons (pv 2) pa_nil))))
        (pa_cons (pe_glob (v := .int (-2)) (by rfl) c2 ⟨_, rfl⟩) pa_nil)))), ?_⟩
    obtain ⟨p, pc, pr, pn, c, u, v, rfl, D, k1, k2⟩ := h
    obtain ⟨⟨dx, hp⟩, hc⟩ := id D
    obtain ⟨⟨dxc, pm, hci, _⟩, _⟩ := id hc
    refine ⟨_, rfl, p, _, _, _, _, rfl, hp, T.lDe, T.nDe_own, rfl, pc, _, _, rfl, hci, rfl, _, rfl, pc, pr, pn, c, u, rfl, hc, _, rfl, ?_⟩
    by_cases cu : u < c.places
    · refine if_true_of (decide_eq_true cu) ⟨_, rfl, p, _, _, _, _, rfl, hp, T.lDe, T.nDe_own, rfl, pc, _, _, rfl, hci, rfl, _, rfl, pc, pr, pn, c, v, rfl, hc, _, _, rfl, fun e => k1 ⟨cu, of_decide_eq_true e⟩, fun e => k2 fun z => ?_⟩
      rw [decide_eq_true z.2] at e
      cases e
    · refine if_false_of (decide_eq_false cu) ⟨_, _, rfl, fun e => (by cases e), fun _ => k2 fun z => cu z.1⟩
end
end RB
end
section
namespace RB
open PySem PySem.Spec PyProof.Rows L2
open Si94 (Chase News worstOf Call Ans)
/-- behind a call that was not refused -/
structure Aft (a : Ads) (H H' : Hp) (p pc pr pn : Addr) (c c' : Chase) : Prop where
  ds : ∃ pc' pr' pn', DeskAt a H' p pc' pr' pn' c' ∧ (pc' = pc ∨ H pc' = none) ∧ (pr' = pr ∨ H pr' = none) ∧ (pn' = pn ∨ H pn' = none) ∧ ∀ f, H f ≠ none → DeskAt a (del H f) p pc pr pn c → DeskAt a (del H' f) p pc' pr' pn' c'
  fr : ∀ b o, b ≠ p → b ≠ pc → b ≠ pr → b ≠ pn → H b = some o → H' b = some o
/-- the call q is answered as the specification says -/
structure Done (a : Ads) (H : Hp) (p pc pr pn : Addr) (c : Chase) (q : Call) (Q : VK) (E : XK) : Prop where
  ref : (Si94.step c q).2.v < 0 → Ref a.cRe E H (Si94.step c q).2.v
  ok : 0 ≤ (Si94.step c q).2.v → ∀ H' l, Aft a H H' p pc pr pn c (Si94.step c q).1 → H l = none → H' l = some (.lst (((Si94.step c q).2.v :: (Si94.step c q).2.l).map V.int)) → Q (.ref l) H'
theorem Done.no {a : Ads} {H : Hp} {p pc pr pn : Addr} {c c' : Chase} {q : Call} {Q : VK} {E : XK} (d : Done a H p pc pr pn c q Q E) {n : Int} (e : Si94.step c q = (c', Si94.ok n)) (h : n < 0) : Ref a.cRe E H n := by
  have := d.ref
  rw [e] at this
  exact this h
theorem Done.yes {a : Ads} {H : Hp} {p pc pr pn : Addr} {c c' : Chase} {q : Call} {Q : VK} {E : XK} (d : Done a H p pc pr pn c q Q E) {v : Int} {ls : List Int} (e : Si94.step c q = (c', ⟨v, ls⟩)) (h : 0 ≤ v) :
    ∀ H' l, Aft a H H' p pc pr pn c c' → H l = none → H' l = some (.lst ((v :: ls).map V.int)) → Q (.ref l) H' := by
  have := d.ok
  rw [e] at this
  exact this h
/-- nothing was changed but new things made -/
theorem del_mono {H H' : Hp} (s : Same H H') (f : Addr) : Same (del H f) (del H' f) := fun b o e => by
  by_cases z : b = f
  · rw [z, del_same] at e
    cases e
  · rw [del_ne z] at e ⊢
    exact s b o e
theorem upd_del {H : Hp} {b f : Addr} {o : HO} (h : b ≠ f) : upd (del H f) b o = del (upd H b o) f := by
  funext x
  by_cases z : x = b
  · rw [z, upd_same, del_ne h, upd_same]
  · rw [upd_ne z]
    by_cases y : x = f
    · rw [y, del_same, del_same]
    · rw [del_ne y, del_ne y, upd_ne z]
theorem Aft.same {a : Ads} {H H' : Hp} {p pc pr pn : Addr} {c : Chase} (s : Same H H') (D : DeskAt a H p pc pr pn c) : Aft a H H' p pc pr pn c c := ⟨⟨pc, pr, pn, D.same s, .inl rfl, .inl rfl, .inl rfl, fun f _ h => h.same (del_mono s f)⟩, fun b o _ _ _ _ e => s b o e⟩
/-- what is none of it -/
theorem DeskAt.away {a : Ads} {H : Hp} {p pc pr pn f : Addr} {c : Chase} (D : DeskAt a (del H f) p pc pr pn c) : p ≠ f ∧ pc ≠ f ∧ pr ≠ f ∧ pn ≠ f := by
  obtain ⟨⟨dx, hp⟩, ⟨⟨dxc, pm, hci, _⟩, ⟨ts, r1, _⟩, ⟨us, n1, _⟩, ne⟩⟩ := D
  refine ⟨fun z => ?_, fun z => ?_, fun z => ?_, fun z => ?_⟩
  · rw [z, del_same] at hp
    cases hp
  · rw [z, del_same] at hci
    cases hci
  · rw [z, del_same] at r1
    cases r1
  · rw [z, del_same] at n1
    cases n1
/-- another chase is put on the desk -/
theorem desk_own {a : Ads} {G : Hp} {p pc x pr pn dx : Addr} {c : Chase} (hc : ChaseAt a.cCh G x pr pn c) (hp : G p = some (.ins a.cDe dx [("own", .ref pc)])) (nx : x ≠ p) : DeskAt a (upd G p (.ins a.cDe dx [("own", .ref x)])) p x pr pn c := by
  have np : ∀ {b : Addr} {o : HO}, G b = some o → o ≠ .ins a.cDe dx [("own", .ref pc)] → b ≠ p := fun {b o} e n z => by
    rw [z, hp] at e
    exact n (Option.some.inj e).symm
  have old : ∀ b o, G b = some o → b ≠ p → upd G p (.ins a.cDe dx [("own", .ref x)]) b = some o := fun b o e n => by rw [upd_ne n]; exact e
  refine ⟨⟨dx, upd_same⟩, ?_⟩
  obtain ⟨⟨dx', pm, h1, h2, h3⟩, ⟨ts, r1, r2⟩, ⟨us, n1, n2⟩, h6⟩ := hc
  exact ⟨⟨dx', pm, old _ _ h1 nx, old _ _ h2 (np h2 (by intro z; cases z)), h3⟩, ⟨ts, old _ _ r1 (np r1 (by intro z; cases z)), paired_imp r2 fun _ _ e => old _ _ e (np e (by intro z; cases z))⟩,
    ⟨us, old _ _ n1 (np n1 (by intro z; cases z)), paired_imp n2 fun _ _ ⟨q, e1, e2, e3⟩ => ⟨q, old _ _ e1 (np e1 (by intro z; cases z)), old _ _ e2 (np e2 (by intro z; cases z)), e3⟩⟩, h6⟩
/-- a new list behind it -/
theorem DeskAt.ne {a : Ads} {H : Hp} {p pc pr pn : Addr} {c : Chase} (D : DeskAt a H p pc pr pn c) : p ≠ pc ∧ p ≠ pr ∧ p ≠ pn ∧ pc ≠ pr ∧ pc ≠ pn ∧ pr ≠ pn := by
  obtain ⟨⟨dx, hp⟩, ⟨⟨dxc, pm, hci, _⟩, ⟨ts, r1, _⟩, ⟨us, n1, _⟩, ne⟩⟩ := D
  refine ⟨fun z => ?_, fun z => ?_, fun z => ?_, fun z => ?_, fun z => ?_, ne⟩
  · rw [z, hci] at hp
    have := Option.some.inj hp
    injection this with _ _ e
    cases e
  · rw [z, r1] at hp
    cases hp
  · rw [z, n1] at hp
    cases hp
  · rw [z, r1] at hci
    cases hci
  · rw [z, n1] at hci
    cases hci
section
variable {P : Program} {w : World} {K : PySem.W.Frag} {mg : Str → Option Value} {base : Heap} {a : Ads}
def spBegins (a : Ads) : Sp := fun vs H Q E => ∃ (p pc pr pn : Addr) (c : Chase) (n s t : Nat), vs = [.ref p, vI n, vI s, vI t] ∧ DeskAt a H p pc pr pn c ∧ Done a H p pc pr pn c (.begins n s t) Q E
theorem ok53 (T : Txt K mg a) : FnOk P w K mg base (L2.CX P w) 4 (a.f 53) (a.d 53) ["self", "places", "car", "minute"] (spBegins a) := by
  have G42 : FnOk P w K mg base (L2.CX P w) 3 (a.f 42) (a.d 42) ["truth", "number"] (spWant a.cRe) := ok42 T
  have G11 : FnOk P w K mg base CX0 1 (a.f 11) (a.d 11) ["self", "places", "car", "minute"] (spCInit a.cCh) := ok11 T
  obtain ⟨t1, c1⟩ := T.c_NOT_TOLD
  obtain ⟨t2, c2⟩ := T.c_MOST_PLACES
  obtain ⟨t3, c3⟩ := T.c_MOST_MINUTES
  refine T.F53.okX sc53 (fun vs H Q E h => ?_) (fun cdv A outer s H vs Q E hr h => ?_)
  · obtain ⟨p, pc, pr, pn, c, n, s, t, rfl, _⟩ := h
    rfl
  · have hr2 := hr.mono (j := 2) (by omega)
    refine ⟨_, pss_cons (ps_expr (pe_call G42 hr (by rfl) T.g42 T.F42.kp (b42 T) .nil (passes_call (takes_of rfl rfl rfl rfl) (fun _ _ _ _ h => h))
        (pa_cons (pe_and (pe_cmpR op_le pe_int (pv 1) (nomark _)) (pe_and (pe_cmpR op_le (pv 1) (pe_glob (v := .int 6) (by rfl) c2 ⟨_, rfl⟩) (nomark _)) (pe_and (pe_cmpR op_lt (pv 2) (pv 1) (nomark _)) (pe_one (pe_cmpR op_le (pv 3) (pe_glob (v := .int 1000) (by rfl) c3 ⟨_, rfl⟩) (nomark _))))))
          (pa_cons (pe_glob (v := .int (-1)) (by rfl) c1 ⟨_, rfl⟩) pa_nil))))
      (pss_cons (ps_fld (pv 0) (pe_make T.kCh G11 hr2 (by rfl) T.gCh (b11 T) .nil pass0 (pa_cons (pv 1) (pa_cons (pv 2) (pa_cons (pv 3) pa_nil)))) rfl)
      (pss_one (ps_ret (pe_lst (pa_cons pe_int pa_nil))))), ?_⟩
    obtain ⟨p, pc, pr, pn, c, n, st, t, rfl, D, k⟩ := h
    obtain ⟨⟨dx, hp⟩, hc⟩ := id D
    have no : (n < 1 ∨ Si94.PLACES < n ∨ n ≤ st ∨ Si94.LONG < t) → Ref a.cRe E H (-1) := fun h => k.no (show Si94.step c (.begins n st t) = (c, Si94.ok (-1)) from if_pos h) (by decide)
    refine ⟨_, rfl, _, _, rfl, rfl, _, rfl, ?_⟩
    by_cases h1 : 1 ≤ n
    rotate_left
    · exact if_false_of (decide_eq_false (by omega)) ⟨_, _, rfl, fun e => (by cases e), fun _ => no (.inl (by omega))⟩
    refine if_true_of (decide_eq_true (by omega)) ⟨_, rfl, _, _, rfl, rfl, _, rfl, ?_⟩
    by_cases h2 : n ≤ 6
    rotate_left
    · exact if_false_of (decide_eq_false (by omega)) ⟨_, _, rfl, fun e => (by cases e), fun _ => no (.inr (.inl (by show 6 < n; omega)))⟩
    refine if_true_of (decide_eq_true (by omega)) ⟨_, rfl, _, rfl, _, _, rfl, rfl, _, rfl, ?_⟩
    by_cases h3 : st < n
    rotate_left
    · exact if_false_of (decide_eq_false (by omega)) ⟨_, _, rfl, fun e => (by cases e), fun _ => no (.inr (.inr (.inl (by omega))))⟩
    refine if_true_of (decide_eq_true (by omega)) ⟨_, rfl, _, _, rfl, rfl, _, _, rfl, fun e => ?_, fun e => no (.inr (.inr (.inr (by have := of_decide_eq_false e; show 1000 < t; omega))))⟩
    have h4 : t ≤ 1000 := by have := of_decide_eq_true e; omega
    refine ⟨_, rfl, _, rfl, _, rfl, fun x dxx hx hdxx ne => ?_⟩
    have s0 : Same H (upd (upd H dxx (.own x)) x (.ins a.cCh dxx [])) := same_upd (same_new hdxx) hx
    refine ⟨x, dxx, n, st, t, rfl, h2, upd_same, fun H1 pr' pn' hc' hcf keep hpr hpn => ⟨rfl, ?_⟩⟩
    have s1 : Same H H1 := Same.made hx hdxx keep
    have nx : x ≠ p := (ne_of_none hp hx).symm
    refine ⟨_, rfl, p, _, _, _, rfl, s1 _ _ hp, T.lDe, T.nDe_own, (by show 1 < 1000; decide), (by show 1 ≤ sizeLine; decide), fun l hl => ?_⟩
    obtain ⟨H2, eH⟩ : ∃ H2, upd H1 p (.ins a.cDe dx (putF "own" (.ref x) [("own", .ref pc)])) = H2 := ⟨_, rfl⟩
    rw [eH] at hl ⊢
    have hp2 : H2 p = some (.ins a.cDe dx [("own", .ref x)]) := by rw [← eH]; exact upd_same
    have old : ∀ b o, H1 b = some o → b ≠ p → H2 b = some o := fun b o e n => by rw [← eH, upd_ne n]; exact e
    have D2 : DeskAt a H2 p x pr' pn' ⟨n, st, t, [], 2 ^ n - 1, []⟩ := by
      rw [← eH]
      exact desk_own hc' (s1 _ _ hp) nx
    have DF : ∀ f, H f ≠ none → DeskAt a (del H f) p pc pr pn c → DeskAt a (del H2 f) p x pr' pn' ⟨n, st, t, [], 2 ^ n - 1, []⟩ := fun f hf Df => by
      obtain ⟨a1, _⟩ := Df.away
      have fx : f ≠ x := fun z => hf (by rw [z]; exact hx)
      have hf0 : (upd (upd H dxx (.own x)) x (.ins a.cCh dxx [])) f ≠ none := fun z => hf (s0.free z)
      have := desk_own (hcf f hf0 fx) ((del_ne a1).trans (s1 _ _ hp)) nx
      rw [upd_del a1] at this
      rw [← eH]
      exact this
    have hlH : H l = none := by
      cases e : H l with
      | none => rfl
      | some o =>
        by_cases z : l = p
        · rw [z, hp2] at hl
          cases hl
        · rw [old l o (s1 l o e) z] at hl
          cases hl
    refine k.yes (c' := ⟨n, st, t, [], 2 ^ n - 1, []⟩) (v := 0) (ls := []) (show Si94.step c (.begins n st t) = _ from if_neg ?_) (by decide) _ l ⟨⟨x, pr', pn', D2.same (same_new hl), .inr hx, .inr (s0.free hpr), .inr (s0.free hpn), fun f hf Df => (DF f hf Df).same (del_mono (same_new hl) f)⟩, fun b o nb _ _ _ e => same_new hl b o (old b o (s1 b o e) nb)⟩ hlH upd_same
    unfold Si94.PLACES Si94.LONG
    omega
end
end RB
end
section
namespace RB
open PySem PySem.Spec PyProof.Rows L2
open Si94 (Chase News worstOf Call Ans)
theorem refs_inj : ∀ {l m : List Addr}, l.map V.ref = m.map V.ref → l = m
  | [], [], _ => rfl
  | [], _ :: _, h => by cases h
  | _ :: _, [], h => by cases h
  | x :: l, y :: m, h => by
    rw [List.map_cons, List.map_cons] at h
    obtain ⟨h1, h2⟩ := List.cons.inj h
    obtain rfl := V.ref.inj h1
    rw [refs_inj h2]
/-- another road behind the others -/
theorem desk_road0 {a : Ads} {H : Hp} {p pc pr pn : Addr} {c : Chase} (D : DeskAt a H p pc pr pn c) {ts : List Addr} (e : H pr = some (.lst (ts.map V.ref))) {t : Addr} (ht : H t = none) (x y n : Nat) :
    DeskAt a (upd (upd H t (.tup [vI x, vI y, vI n])) pr (.lst (ts.map V.ref ++ [.ref t]))) p pc pr pn { c with roads := c.roads ++ [(x, y, n)] } := by
  obtain ⟨H1, eH⟩ : ∃ H1, upd (upd H t (.tup [vI x, vI y, vI n])) pr (.lst (ts.map V.ref ++ [.ref t])) = H1 := ⟨_, rfl⟩
  rw [eH]
  obtain ⟨n1, n2, n3, n4, n5, n6⟩ := D.ne
  obtain ⟨⟨dx, hp⟩, ⟨⟨dxc, pm, h1, h2, h3, h4⟩, ⟨ts', r1, tr⟩, ⟨us, w1, w2⟩, _⟩⟩ := D
  obtain rfl : ts' = ts := by
    rw [r1] at e
    have := Option.some.inj e
    injection this with this
    exact refs_inj this
  have old : ∀ b o, H b = some o → b ≠ pr → H1 b = some o := fun b o q nb => by
    rw [← eH, upd_ne nb, upd_ne (ne_of_none q ht)]
    exact q
  have npr : ∀ {b : Addr} {o : HO}, H b = some o → o ≠ .lst (ts'.map V.ref) → b ≠ pr := fun {b o} q n z => by
    rw [z, r1] at q
    exact n (Option.some.inj q).symm
  have hnt : t ≠ pr := fun z => by
    rw [z, r1] at ht
    cases ht
  have ep : H1 pr = some (.lst ((ts' ++ [t]).map V.ref)) := by
    rw [← eH, upd_same, List.map_append]
    rfl
  refine ⟨⟨dx, old _ _ hp n2⟩, ⟨⟨dxc, pm, old _ _ h1 n4, old _ _ h2 h3, h3, h4⟩, ⟨ts' ++ [t], ep, paired_app (paired_imp tr fun _ _ q => old _ _ q (npr q (by intro z; cases z))) (.cons ?_ .nil)⟩,
    ⟨us, old _ _ w1 (Ne.symm n6), paired_imp w2 fun _ _ ⟨q, e1, e2, e3, e4⟩ => ⟨q, old _ _ e1 (npr e1 (by intro z; cases z)), old _ _ e2 e3, e3, e4⟩⟩, n6⟩⟩
  rw [← eH, upd_ne hnt]
  exact upd_same
theorem desk_road {a : Ads} {H H1 : Hp} {p pc pr pn : Addr} {c : Chase} (D : DeskAt a H p pc pr pn c) {ts : List Addr} (e : H pr = some (.lst (ts.map V.ref))) (tr : Tris H ts c.roads) {t : Addr} (ht : H t = none) (x y n : Nat)
    (eH : H1 = upd (upd H t (.tup [vI x, vI y, vI n])) pr (.lst (ts.map V.ref ++ [.ref t]))) : Aft a H H1 p pc pr pn c { c with roads := c.roads ++ [(x, y, n)] } ∧ H1 pr = some (.lst ((ts ++ [t]).map V.ref)) := by
  refine ⟨⟨⟨pc, pr, pn, ?_, .inl rfl, .inl rfl, .inl rfl, fun f hf Df => ?_⟩, fun b o _ _ nb _ q => ?_⟩, ?_⟩
  · rw [eH]
    exact desk_road0 D e ht x y n
  · obtain ⟨a1, a2, a3, a4⟩ := Df.away
    have tf : t ≠ f := fun z => hf (by rw [← z]; exact ht)
    have := desk_road0 Df ((del_ne a3).trans e) ((del_ne tf).trans ht) x y n
    rw [upd_del tf, upd_del a3] at this
    rw [eH]
    exact this
  · rw [eH, upd_ne nb, upd_ne (ne_of_none q ht)]
    exact q
  · rw [eH, upd_same, List.map_append]
    rfl
/-- other places where it may be -/
theorem desk_may {a : Ads} {H H1 : Hp} {p pc pr pm pn dxc q : Addr} {c : Chase} (D : DeskAt a H p pc pr pn c) (hci : H pc = some (.ins a.cCh dxc (cF c pr pm pn))) (n : Nat) (s1 : Same H H1) (hq : H q = none) (e1 : H1 q = some (.lst (({ c with may := n } : Chase).mays.map vI))) :
    DeskAt a (upd H1 pc (.ins a.cCh dxc (cF { c with may := n } pr q pn))) p pc pr pn { c with may := n } := by
  obtain ⟨n1, n2, n3, n4, n5, n6⟩ := D.ne
  obtain ⟨⟨dx, hp⟩, ⟨_, ⟨ts, r1, r2⟩, ⟨us, w1, w2⟩, _⟩⟩ := D
  have npc : ∀ {b : Addr} {o : HO}, H b = some o → (∀ fs, o ≠ .ins a.cCh dxc fs) → b ≠ pc := fun {b o} e n z => by
    rw [z, hci] at e
    exact n _ (Option.some.inj e).symm
  have old : ∀ b o, H1 b = some o → b ≠ pc → (upd H1 pc (.ins a.cCh dxc (cF { c with may := n } pr q pn))) b = some o := fun b o e n => by rw [upd_ne n]; exact e
  have o2 : ∀ b o, H b = some o → b ≠ pc → (upd H1 pc (.ins a.cCh dxc (cF { c with may := n } pr q pn))) b = some o := fun b o e n => old b o (s1 b o e) n
  have nq : q ≠ pc := fun z => by
    rw [z, hci] at hq
    cases hq
  have nqr : q ≠ pr := fun z => by
    rw [z, r1] at hq
    cases hq
  have nqn : q ≠ pn := fun z => by
    rw [z, w1] at hq
    cases hq
  exact ⟨⟨dx, o2 _ _ hp n1⟩, ⟨⟨dxc, q, upd_same, old _ _ e1 nq, nqr, nqn⟩, ⟨ts, o2 _ _ r1 (Ne.symm n4), paired_imp r2 fun _ _ e => o2 _ _ e (npc e (by intro _ z; cases z))⟩,
    ⟨us, o2 _ _ w1 (Ne.symm n5), paired_imp w2 fun _ _ ⟨q, e1, e2, e3⟩ => ⟨q, o2 _ _ e1 (npc e1 (by intro _ z; cases z)), o2 _ _ e2 (npc e2 (by intro _ z; cases z)), e3⟩⟩, n6⟩⟩
/-- behind a new list of the answer -/
theorem Aft.new' {a : Ads} {H H' : Hp} {p pc pr pn l : Addr} {o : HO} {c c' : Chase} (A : Aft a H H' p pc pr pn c c') (hl : H' l = none) : Aft a H (upd H' l o) p pc pr pn c c' := by
  obtain ⟨⟨pc', pr', pn', D, d1, d2, d3, d4⟩, fr⟩ := A
  exact ⟨⟨pc', pr', pn', D.same (same_new hl), d1, d2, d3, fun f hf Df => (d4 f hf Df).same (del_mono (same_new hl) f)⟩, fun b o' n1 n2 n3 n4 e => same_new hl b o' (fr b o' n1 n2 n3 n4 e)⟩
section
variable {P : Program} {w : World} {K : PySem.W.Frag} {mg : Str → Option Value} {base : Heap} {a : Ads}
def spRoad (a : Ads) : Sp := fun vs H Q E => ∃ (p pc pr pn : Addr) (c : Chase) (x y n : Nat), vs = [.ref p, vI x, vI y, vI n] ∧ DeskAt a H p pc pr pn c ∧ Done a H p pc pr pn c (.road x y n) Q E
theorem ok54 (T : Txt K mg a) : FnOk P w K mg base (L2.CX P w) 5 (a.f 54) (a.d 54) ["self", "place", "other", "minutes"] (spRoad a) := by
  have G42 : FnOk P w K mg base (L2.CX P w) 3 (a.f 42) (a.d 42) ["truth", "number"] (spWant a.cRe) := ok42 T
  have G52 : FnOk P w K mg base (L2.CX P w) 4 (a.f 52) (a.d 52) ["self", "place", "other"] (spWantPlaces a) := ok52 T
  obtain ⟨t1, c1⟩ := T.c_NOT_TOLD
  obtain ⟨t2, c2⟩ := T.c_BOTH_SAME
  obtain ⟨t3, c3⟩ := T.c_MOST_MINUTES
  obtain ⟨t4, c4⟩ := T.c_MOST_ROADS
  obtain ⟨t5, c5⟩ := T.c_FULL
  refine T.F54.okX sc54 (fun vs H Q E h => ?_) (fun cdv A outer s H vs Q E hr h => ?_)
  · obtain ⟨p, pc, pr, pn, c, x, y, n, rfl, _⟩ := h
    rfl
  · have hr3 := hr.mono (j := 3) (by omega)
    refine ⟨_, pss_cons (ps_expr (pe_meth (pv 0) T.lDe T.M52 G52 hr (b52 T) .nil (passes_call (takes_of rfl rfl rfl rfl) (fun _ _ _ _ h => h)) (pa_cons (pv 1) (pa_cons (pv 2) pa_nil))))
      (pss_cons (ps_expr (pe_call G42 hr3 (by rfl) T.g42 T.F42.kp (b42 T) .nil (passes_call (takes_of rfl rfl rfl rfl) (fun _ _ _ _ h => h)) (pa_cons (pe_cmpR op_ne (pv 1) (pv 2) (nomark _)) (pa_cons (pe_glob (v := .int (-4)) (by rfl) c2 ⟨_, rfl⟩) pa_nil))))
      (pss_cons (ps_expr (pe_call G42 hr3 (by rfl) T.g42 T.F42.kp (b42 T) .nil (passes_call (takes_of rfl rfl rfl rfl) (fun _ _ _ _ h => h)) (pa_cons (pe_and (pe_cmpR op_le pe_int (pv 3) (nomark _)) (pe_one (pe_cmpR op_le (pv 3) (pe_glob (v := .int 1000) (by rfl) c3 ⟨_, rfl⟩) (nomark _)))) (pa_cons (pe_glob (v := .int (-1)) (by rfl) c1 ⟨_, rfl⟩) pa_nil))))
      (pss_cons (ps_expr (pe_call G42 hr3 (by rfl) T.g42 T.F42.kp (b42 T) .nil (passes_call (takes_of rfl rfl rfl rfl) (fun _ _ _ _ h => h)) (pa_cons (pe_cmpR op_lt (pe_callB call_len_seq (by rfl) T.b_len PySem.boot_len (pa_cons (pe_fld (pe_fld (pv 0) rfl) rfl) pa_nil)) (pe_glob (v := .int 12) (by rfl) c4 ⟨_, rfl⟩) (nomark _)) (pa_cons (pe_glob (v := .int (-5)) (by rfl) c5 ⟨_, rfl⟩) pa_nil))))
      (pss_cons (ps_expr (pe_bm PySem.F.plainAttrs_list PySem.F.slot_list_append PySem.F.type_list_append mt_append (pe_fld (pe_fld (pv 0) rfl) rfl) (pa_cons (pe_tup (pa_cons (pv 1) (pa_cons (pv 2) (pa_cons (pv 3) pa_nil)))) pa_nil)))
      (pss_one (ps_ret (pe_lst (pa_cons (pe_callB call_len_seq (by rfl) T.b_len PySem.boot_len (pa_cons (pe_fld (pe_fld (pv 0) rfl) rfl) pa_nil)) pa_nil)))))))), ?_⟩
    obtain ⟨p, pc, pr, pn, c, x, y, n, rfl, D, k⟩ := h
    obtain ⟨⟨dx, hp⟩, hc⟩ := id D
    obtain ⟨⟨dxc, pm, hci, _⟩, ⟨ts, r1, r2⟩, _, _⟩ := id hc
    have hlen := paired_len r2
    refine ⟨_, rfl, p, _, _, rfl, hp, rfl, _, rfl, _, rfl, p, pc, pr, pn, c, x, y, rfl, D, fun g1 => ?_, fun g1 => k.no (show Si94.step c (.road x y n) = (c, Si94.ok (-2)) from if_pos (by omega)) (by decide)⟩
    have i1 : ¬ (c.places ≤ x ∨ c.places ≤ y) := by omega
    refine ⟨_, rfl, _, rfl, rfl, _, _, rfl, fun e => ?_, fun e => k.no (show Si94.step c (.road x y n) = (c, Si94.ok (-4)) from (if_neg i1).trans (if_pos ?_)) (by decide)⟩
    · have g2 : x ≠ y := fun z => by
        subst z
        simp at e
      refine ⟨_, rfl, _, _, rfl, rfl, _, rfl, ?_⟩
      have i2 : ∀ v, (n < 1 ∨ Si94.LONG < n) → v = ((-1 : Int)) → Si94.step c (.road x y n) = (c, Si94.ok v) := fun v h z => by
        subst z
        exact (if_neg i1).trans ((if_neg g2).trans (if_pos h))
      by_cases h1 : 1 ≤ n
      rotate_left
      · exact if_false_of (decide_eq_false (by omega)) ⟨_, _, rfl, fun e => (by cases e), fun _ => k.no (i2 _ (.inl (by omega)) rfl) (by decide)⟩
      refine if_true_of (decide_eq_true (by omega)) ⟨_, rfl, _, _, rfl, rfl, _, _, rfl, fun e2 => ?_, fun e2 => k.no (i2 _ (.inr (by have := of_decide_eq_false e2; show 1000 < n; omega)) rfl) (by decide)⟩
      have h2 : n ≤ 1000 := by have := of_decide_eq_true e2; omega
      have i3 : ¬ (n < 1 ∨ Si94.LONG < n) := by
        unfold Si94.LONG
        omega
      refine ⟨_, rfl, p, _, _, _, _, rfl, hp, T.lDe, T.nDe_own, rfl, pc, _, _, _, _, rfl, hci, T.lCh, T.nCh_roads, rfl, pr, _, rfl, .inl (SqL.of r1), _, _, rfl, rfl, _, _, rfl, fun e3 => ?_, fun e3 => k.no (show Si94.step c (.road x y n) = (c, Si94.ok (-5)) from (if_neg i1).trans ((if_neg g2).trans ((if_neg i3).trans (if_pos ?_)))) (by decide)⟩
      · have h3 : c.roads.length < 12 := by
          have := of_decide_eq_true e3
          rw [List.length_map, hlen] at this
          omega
        have i4 : ¬ Si94.ROADS ≤ c.roads.length := by
          unfold Si94.ROADS
          omega
        refine ⟨_, rfl, p, _, _, _, _, rfl, hp, T.lDe, T.nDe_own, rfl, pc, _, _, _, _, rfl, hci, T.lCh, T.nCh_roads, rfl, .inl ⟨rfl, _, SqL.of r1⟩, _, rfl, _, rfl, _, rfl, (by show 3 ≤ sizeLine; decide), fun t ht => ?_⟩
        have ntr : pr ≠ t := ne_of_none r1 ht
        refine ⟨pr, _, _, rfl, rfl, (by rw [upd_ne ntr]; exact r1), by rw [List.length_map, hlen]; exact small7 (by omega), ?_⟩
        obtain ⟨H1, eH⟩ : ∃ H1, upd (upd H t (.tup [vI x, vI y, vI n])) pr (.lst (ts.map V.ref ++ [.ref t])) = H1 := ⟨_, rfl⟩
        rw [eH]
        obtain ⟨A, e1⟩ := desk_road D r1 r2 ht x y n eH.symm
        obtain ⟨n1, n2, n3, n4, n5, n6⟩ := D.ne
        have hp1 : H1 p = some (.ins a.cDe dx [("own", .ref pc)]) := by
          rw [← eH, upd_ne n2, upd_ne (ne_of_none hp ht)]
          exact hp
        have hci1 : H1 pc = some (.ins a.cCh dxc (cF c pr pm pn)) := by
          rw [← eH, upd_ne n4, upd_ne (ne_of_none hci ht)]
          exact hci
        refine ⟨_, rfl, p, _, _, _, _, rfl, hp1, T.lDe, T.nDe_own, rfl, pc, _, _, _, _, rfl, hci1, T.lCh, T.nCh_roads, rfl, pr, _, rfl, .inl (SqL.of e1), (by show 1 ≤ sizeLine; decide), fun l hl => ?_⟩
        have nl : H l = none := by
          cases z : H l with
          | none => rfl
          | some o =>
            by_cases q : l = pr
            · rw [q, e1] at hl
              cases hl
            · rw [← eH, upd_ne q, upd_ne (ne_of_none z ht), z] at hl
              cases hl
        refine k.yes (c' := { c with roads := c.roads ++ [(x, y, n)] }) (v := ((c.roads.length : Nat) : Int) + 1) (ls := []) (show Si94.step c (.road x y n) = _ from (if_neg i1).trans ((if_neg g2).trans ((if_neg i3).trans (if_neg i4)))) (by omega) _ l (A.new' hl) nl ?_
        rw [upd_same]
        show some (HO.lst [V.int (((ts ++ [t]).map V.ref).length : Nat)]) = some (.lst [V.int (((c.roads.length : Nat) : Int) + 1)])
        rw [List.length_map, List.length_append, hlen]
        rfl
      · have := of_decide_eq_false e3
        rw [List.length_map, hlen] at this
        show 12 ≤ c.roads.length
        omega
    · simp at e
      omega
def spMay (a : Ads) : Sp := fun vs H Q E => ∃ (p pc pr pn : Addr) (c : Chase) (n : Nat), vs = [.ref p, vI n] ∧ DeskAt a H p pc pr pn c ∧ Good c ∧ Done a H p pc pr pn c (.may n) Q E
theorem ok55 (T : Txt K mg a) : FnOk P w K mg base (L2.CX P w) 4 (a.f 55) (a.d 55) ["self", "number"] (spMay a) := by
  have G42 : FnOk P w K mg base (L2.CX P w) 3 (a.f 42) (a.d 42) ["truth", "number"] (spWant a.cRe) := ok42 T
  have G9 : FnOk P w K mg base CX0 1 (a.f 9) (a.d 9) ["number"] spMembers := ok9 T
  obtain ⟨t1, c1⟩ := T.c_NOT_TOLD
  refine T.F55.okX sc55 (fun vs H Q E h => ?_) (fun cdv A outer s H vs Q E hr h => ?_)
  · obtain ⟨p, pc, pr, pn, c, n, rfl, _⟩ := h
    rfl
  · have hr2 := hr.mono (j := 1) (by omega)
    refine ⟨_, pss_cons (ps_expr (pe_call G42 hr (by rfl) T.g42 T.F42.kp (b42 T) .nil (passes_call (takes_of rfl rfl rfl rfl) (fun _ _ _ _ h => h)) (pa_cons (pe_and (pe_cmpR op_le pe_int (pv 1) (nomark _)) (pe_one (pe_cmpR op_lt (pv 1) (pe_op op_shl pe_int (pe_fld (pe_fld (pv 0) rfl) rfl)) (nomark _)))) (pa_cons (pe_glob (v := .int (-1)) (by rfl) c1 ⟨_, rfl⟩) pa_nil))))
      (pss_cons (ps_fld (pe_fld (pv 0) rfl) (pe_call G9 hr2 (by rfl) T.g9 T.F9.kp (b9 T) .nil pass0 (pa_cons (pv 1) pa_nil)) rfl)
      (pss_one (ps_ret (pe_lst (pa_cons pe_int pa_nil))))), ?_⟩
    obtain ⟨p, pc, pr, pn, c, n, rfl, D, g, k⟩ := h
    obtain ⟨⟨dx, hp⟩, hc⟩ := id D
    obtain ⟨⟨dxc, pm, hci, hpm, pm1, pm2⟩, ⟨ts, r1, r2⟩, ⟨us, w1, w2⟩, _⟩ := id hc
    have no : ∀ v, (n < 1 ∨ 2 ^ c.places ≤ n) → v = (-1 : Int) → Si94.step c (.may n) = (c, Si94.ok v) := fun v h z => by
      subst z
      exact if_pos h
    refine ⟨_, rfl, _, _, rfl, rfl, _, rfl, ?_⟩
    by_cases h1 : 1 ≤ n
    rotate_left
    · exact if_false_of (decide_eq_false (by omega)) ⟨_, _, rfl, fun e => (by cases e), fun _ => k.no (no _ (.inl (by omega)) rfl) (by decide)⟩
    have p6 := g.p6
    have ep : (1 * 2 ^ ((c.places : Int)).toNat : Int) = ((2 ^ c.places : Nat) : Int) := by simp
    refine if_true_of (decide_eq_true (by omega)) ⟨_, rfl, _, rfl, p, _, _, _, _, rfl, hp, T.lDe, T.nDe_own, rfl, pc, _, _, _, _, rfl, hci, T.lCh, T.nCh_places, rfl, _, _, rfl, rfl, ⟨by omega, by omega, by decide⟩, _, _, rfl, rfl, _, _, rfl, fun e => ?_, fun e => k.no (no _ (.inr ?_) rfl) (by decide)⟩
    · have h2 : n < 2 ^ c.places := by
        have := of_decide_eq_true e
        rw [ep] at this
        omega
      refine ⟨_, rfl, c.places, n, rfl, h2, p6, fun H1 q s1 hq e1 => ?_⟩
      refine ⟨_, rfl, p, _, _, _, _, rfl, s1 _ _ hp, T.lDe, T.nDe_own, rfl, pc, _, _, _, rfl, s1 _ _ hci, T.lCh, T.nCh_may, (by show 6 < 1000; decide), ?_⟩
      obtain ⟨H2, eH⟩ : ∃ H2, upd H1 pc (.ins a.cCh dxc (cF { c with may := n } pr q pn)) = H2 := ⟨_, rfl⟩
      have eP : upd H1 pc (.ins a.cCh dxc (putF "may" (.ref q) (cF c pr pm pn))) = H2 := eH
      rw [eP]
      have hc2 : H2 pc = some (.ins a.cCh dxc (cF { c with may := n } pr q pn)) := by
        rw [← eH]
        exact upd_same
      have o2 : ∀ b o, H b = some o → b ≠ pc → H2 b = some o := fun b o e n => by rw [← eH, upd_ne n]; exact s1 b o e
      have D2 : DeskAt a H2 p pc pr pn { c with may := n } := by
        rw [← eH]
        exact desk_may D hci n s1 hq e1
      have DF : ∀ f, H f ≠ none → DeskAt a (del H f) p pc pr pn c → DeskAt a (del H2 f) p pc pr pn { c with may := n } := fun f hf Df => by
        obtain ⟨a1, a2, a3, a4⟩ := Df.away
        have qf : q ≠ f := fun z => hf (by rw [← z]; exact hq)
        have := desk_may Df ((del_ne a2).trans hci) n (del_mono s1 f) ((del_ne qf).trans hq) ((del_ne qf).trans e1)
        rw [upd_del a2] at this
        rw [← eH]
        exact this
      refine ⟨(by show 1 ≤ sizeLine; decide), fun l hl => ?_⟩
      have nl : H l = none := by
        cases z : H l with
        | none => rfl
        | some o =>
          by_cases w : l = pc
          · rw [w, hc2] at hl
            cases hl
          · rw [o2 l o z w] at hl
            cases hl
      refine k.yes (c' := { c with may := n }) (v := 0) (ls := []) (show Si94.step c (.may n) = _ from if_neg (by omega)) (by decide) _ l (Aft.new' ⟨⟨pc, pr, pn, D2, .inl rfl, .inl rfl, .inl rfl, DF⟩, fun b o _ nb _ _ e => o2 b o e nb⟩ hl) nl upd_same
    · have := of_decide_eq_false e
      rw [ep] at this
      omega
def spFar (a : Ads) : Sp := fun vs H Q E => ∃ (p pc pr pn : Addr) (c : Chase) (x y : Nat), vs = [.ref p, vI x, vI y] ∧ DeskAt a H p pc pr pn c ∧ Good c ∧ Done a H p pc pr pn c (.far x y) Q E
theorem ok57 (T : Txt K mg a) : FnOk P w K mg base (L2.CX P w) 5 (a.f 57) (a.d 57) ["self", "place", "other"] (spFar a) := by
  have G43 : FnOk P w K mg base (L2.CX P w) 4 (a.f 43) (a.d 43) ["found"] (spWanted a.cRe) := ok43 T
  have G52 : FnOk P w K mg base (L2.CX P w) 4 (a.f 52) (a.d 52) ["self", "place", "other"] (spWantPlaces a) := ok52 T
  have G13 : FnOk P w K mg base CX0 4 (a.f 13) (a.d 13) ["self"] (spTable a.cCh) := ok13 T
  refine T.F57.okX sc57 (fun vs H Q E h => ?_) (fun cdv A outer s H vs Q E hr h => ?_)
  · obtain ⟨p, pc, pr, pn, c, x, y, rfl, _⟩ := h
    rfl
  · refine ⟨_, pss_cons (ps_expr (pe_meth (pv 0) T.lDe T.M52 G52 hr (b52 T) .nil (passes_call (takes_of rfl rfl rfl rfl) (fun _ _ _ _ h => h)) (pa_cons (pv 1) (pa_cons (pv 2) pa_nil))))
      (pss_one (ps_ret (pe_lst (pa_cons (pe_call G43 hr (by rfl) T.g43 T.F43.kp (b43 T) .nil (passes_call (takes_of rfl rfl rfl rfl) (fun _ _ _ _ h => h)) (pa_cons (pe_ix ix_list (pe_ix ix_list (pe_meth0 (pe_fld (pv 0) rfl) T.lCh T.M13 G13 hr (b13 T) .nil pass0) (pv 1) (fun _ _ => rfl)) (pv 2) (fun _ _ => rfl)) pa_nil)) pa_nil)))), ?_⟩
    obtain ⟨p, pc, pr, pn, c, x, y, rfl, D, g, k⟩ := h
    obtain ⟨⟨dx, hp⟩, hc⟩ := id D
    obtain ⟨⟨dxc, pm, hci, _⟩, _⟩ := id hc
    refine ⟨_, rfl, p, _, _, rfl, hp, rfl, _, rfl, _, rfl, p, pc, pr, pn, c, x, y, rfl, D, fun g1 => ?_, fun g1 => k.no (show Si94.step c (.far x y) = (c, Si94.ok (-2)) from if_pos (by omega)) (by decide)⟩
    have i1 : ¬ (c.places ≤ x ∨ c.places ≤ y) := by omega
    refine ⟨_, rfl, p, _, _, _, _, rfl, hp, T.lDe, T.nDe_own, rfl, pc, _, _, rfl, hci, rfl, pc, pr, pn, c, rfl, hc, g, fun H1 q s1 tb => ?_⟩
    have hsq := ways_sq g
    obtain ⟨rows, r, t1, t2, t3⟩ := tb.row hsq g1.1
    refine ⟨_, rfl, q, _, _, _, rfl, rfl, SqL.of t1, atI_nat t2, _, rfl, r, _, _, _, rfl, rfl, SqL.of t3, atI_nat (row_at hsq g1.1 g1.2), _, rfl, fun e => ?_, fun e => ?_⟩
    · refine ⟨(by show 1 ≤ sizeLine; decide), fun l hl => ?_⟩
      cases ef : Si94.far c.ways x y with
      | none =>
        rw [ef] at e
        exact absurd rfl e
      | some m =>
        refine k.yes (c' := c) (v := (m : Int)) (ls := []) ((show Si94.step c (.far x y) = (c, Si94.toldOf (Si94.far c.ways x y)) from if_neg i1).trans (by rw [ef]; rfl)) (by omega) _ l ((Aft.same s1 D).new' hl) (s1.free hl) ?_
        rw [upd_same]
        rfl
    · cases ef : Si94.far c.ways x y with
      | none => exact (k.no ((show Si94.step c (.far x y) = (c, Si94.toldOf (Si94.far c.ways x y)) from if_neg i1).trans (by rw [ef]; rfl)) (by decide)).same s1
      | some m =>
        rw [ef] at e
        cases e
end
end RB
end
section
namespace RB
open PySem PySem.Spec PyProof.Rows L2
open Si94 (Chase News worstOf Call Ans)
theorem Aft.pre {a : Ads} {H H' H1 : Hp} {p pc pr pn : Addr} {c c' : Chase} (s : Same H H') (A : Aft a H' H1 p pc pr pn c c') : Aft a H H1 p pc pr pn c c' := by
  obtain ⟨⟨pc', pr', pn', D, d1, d2, d3, d4⟩, fr⟩ := A
  exact ⟨⟨pc', pr', pn', D, d1.imp id s.free, d2.imp id s.free, d3.imp id s.free, fun f hf Df => d4 f (fun z => hf (s.free z)) (Df.same (del_mono s f))⟩, fun b o n1 n2 n3 n4 e => fr b o n1 n2 n3 n4 (s b o e)⟩
/-- other news behind the others -/
theorem desk_news0 {a : Ads} {H : Hp} {p pc pr pn : Addr} {c : Chase} (D : DeskAt a H p pc pr pn c) {us : List Addr} (e : H pn = some (.lst (us.map V.ref))) {q t : Addr} (hq : H q = none) (m : Nat) (ps : List Nat)
    (ht : upd H q (.lst (ps.map vI)) t = none) : DeskAt a (upd (upd (upd H q (.lst (ps.map vI))) t (.tup [vI m, .ref q])) pn (.lst (us.map V.ref ++ [.ref t]))) p pc pr pn { c with news := c.news ++ [⟨m, ps⟩] } := by
  obtain ⟨H1, eH⟩ : ∃ H1, upd (upd (upd H q (.lst (ps.map vI))) t (.tup [vI m, .ref q])) pn (.lst (us.map V.ref ++ [.ref t])) = H1 := ⟨_, rfl⟩
  rw [eH]
  obtain ⟨n1, n2, n3, n4, n5, n6⟩ := D.ne
  obtain ⟨⟨dx, hp⟩, ⟨⟨dxc, pm, h1, h2, h3, h4⟩, ⟨ts, r1, r2⟩, ⟨us', w1, w2⟩, _⟩⟩ := D
  obtain rfl : us' = us := by
    rw [w1] at e
    have := Option.some.inj e
    injection this with this
    exact refs_inj this
  have htH : H t = none := (same_new hq).free ht
  have old : ∀ b o, H b = some o → b ≠ pn → H1 b = some o := fun b o z nb => by
    rw [← eH, upd_ne nb, upd_ne (ne_of_none z htH), upd_ne (ne_of_none z hq)]
    exact z
  have npn : ∀ {b : Addr} {o : HO}, H b = some o → o ≠ .lst (us'.map V.ref) → b ≠ pn := fun {b o} q n z => by
    rw [z, w1] at q
    exact n (Option.some.inj q).symm
  have hnt : t ≠ pn := fun z => by
    rw [z, w1] at htH
    cases htH
  have hnq : q ≠ pn := fun z => by
    rw [z, w1] at hq
    cases hq
  have hqr : q ≠ pr := fun z => by
    rw [z, r1] at hq
    cases hq
  have hqt : q ≠ t := fun z => by
    rw [z, upd_same] at ht
    cases ht
  have ep : H1 pn = some (.lst ((us' ++ [t]).map V.ref)) := by
    rw [← eH, upd_same, List.map_append]
    rfl
  refine ⟨⟨dx, old _ _ hp n3⟩, ⟨⟨dxc, pm, old _ _ h1 n5, old _ _ h2 h4, h3, h4⟩, ⟨ts, old _ _ r1 n6, paired_imp r2 fun _ _ q => old _ _ q (npn q (by intro z; cases z))⟩,
    ⟨us' ++ [t], ep, paired_app (paired_imp w2 fun _ _ ⟨q, e1, e2, e3, e4⟩ => ⟨q, old _ _ e1 (npn e1 (by intro z; cases z)), old _ _ e2 e4, e3, e4⟩) (.cons ⟨q, ?_, ?_, hqr, hnq⟩ .nil)⟩, n6⟩⟩
  · rw [← eH, upd_ne hnt]
    exact upd_same
  · rw [← eH, upd_ne hnq, upd_ne hqt]
    exact upd_same
theorem desk_news {a : Ads} {H H1 : Hp} {p pc pr pn : Addr} {c : Chase} (D : DeskAt a H p pc pr pn c) {us : List Addr} (e : H pn = some (.lst (us.map V.ref))) {q t : Addr} (hq : H q = none) (m : Nat) (ps : List Nat)
    (ht : upd H q (.lst (ps.map vI)) t = none) (eH : H1 = upd (upd (upd H q (.lst (ps.map vI))) t (.tup [vI m, .ref q])) pn (.lst (us.map V.ref ++ [.ref t]))) : Aft a H H1 p pc pr pn c { c with news := c.news ++ [⟨m, ps⟩] } ∧ H1 pn = some (.lst ((us ++ [t]).map V.ref)) := by
  have htH : H t = none := (same_new hq).free ht
  refine ⟨⟨⟨pc, pr, pn, ?_, .inl rfl, .inl rfl, .inl rfl, fun f hf Df => ?_⟩, fun b o _ _ _ nb z => ?_⟩, ?_⟩
  · rw [eH]
    exact desk_news0 D e hq m ps ht
  · obtain ⟨a1, a2, a3, a4⟩ := Df.away
    have tf : t ≠ f := fun z => hf (by rw [← z]; exact htH)
    have qf : q ≠ f := fun z => hf (by rw [← z]; exact hq)
    have := desk_news0 Df ((del_ne a4).trans e) ((del_ne qf).trans hq) m ps (by rw [upd_del qf]; exact (del_ne tf).trans ht)
    rw [upd_del qf, upd_del tf, upd_del a4] at this
    rw [eH]
    exact this
  · rw [eH, upd_ne nb, upd_ne (ne_of_none z htH), upd_ne (ne_of_none z hq)]
    exact z
  · rw [eH, upd_same, List.map_append]
    rfl
section
variable {P : Program} {w : World} {K : PySem.W.Frag} {mg : Str → Option Value} {base : Heap} {a : Ads}
def spNews (a : Ads) : Sp := fun vs H Q E => ∃ (p pc pr pn l : Addr) (c : Chase) (m : Nat) (ps : List Nat), vs = [.ref p, vI m, .ref l] ∧ H l = some (.lst (ps.map vI)) ∧ DeskAt a H p pc pr pn c ∧ Good c ∧ Done a H p pc pr pn c (.news m ps) Q E
theorem ok56 (T : Txt K mg a) : FnOk P w K mg base (L2.CX P w) 4 (a.f 56) (a.d 56) ["self", "minute", "parts"] (spNews a) := by
  have G42 : FnOk P w K mg base (L2.CX P w) 3 (a.f 42) (a.d 42) ["truth", "number"] (spWant a.cRe) := ok42 T
  have G14 : FnOk P w K mg base CX0 1 (a.f 14) (a.d 14) ["self"] (spLeastMin a.cCh) := ok14 T
  obtain ⟨t1, c1⟩ := T.c_NOT_TOLD
  obtain ⟨t4, c4⟩ := T.c_MOST_NEWS
  obtain ⟨t5, c5⟩ := T.c_FULL
  refine T.F56.okX sc56 (fun vs H Q E h => ?_) (fun cdv A outer s H vs Q E hr h => ?_)
  · obtain ⟨p, pc, pr, pn, l, c, m, ps, rfl, _⟩ := h
    rfl
  · have hr1 := hr.mono (j := 1) (by omega)
    refine ⟨_, pss_cons (ps_expr (pe_call G42 hr (by rfl) T.g42 T.F42.kp (b42 T) .nil (passes_call (takes_of rfl rfl rfl rfl) (fun _ _ _ _ h => h)) (pa_cons (pe_cmpR op_eq (pe_callB call_len_seq (by rfl) T.b_len PySem.boot_len (pa_cons (pv 2) pa_nil)) (pe_fld (pe_fld (pv 0) rfl) rfl) (nomark _)) (pa_cons (pe_glob (v := .int (-1)) (by rfl) c1 ⟨_, rfl⟩) pa_nil))))
      (pss_cons (ps_expr (pe_call G42 hr (by rfl) T.g42 T.F42.kp (b42 T) .nil (passes_call (takes_of rfl rfl rfl rfl) (fun _ _ _ _ h => h)) (pa_cons (pe_and (pe_cmpR op_le (pe_meth0 (pe_fld (pv 0) rfl) T.lCh T.M14 G14 hr1 (b14 T) .nil pass0) (pv 1) (nomark _)) (pe_one (pe_cmpR op_le (pv 1) (pe_fld (pe_fld (pv 0) rfl) rfl) (nomark _)))) (pa_cons (pe_glob (v := .int (-1)) (by rfl) c1 ⟨_, rfl⟩) pa_nil))))
      (pss_cons (ps_expr (pe_call G42 hr (by rfl) T.g42 T.F42.kp (b42 T) .nil (passes_call (takes_of rfl rfl rfl rfl) (fun _ _ _ _ h => h)) (pa_cons (pe_cmpR op_lt (pe_callB call_len_seq (by rfl) T.b_len PySem.boot_len (pa_cons (pe_fld (pe_fld (pv 0) rfl) rfl) pa_nil)) (pe_glob (v := .int 3) (by rfl) c4 ⟨_, rfl⟩) (nomark _)) (pa_cons (pe_glob (v := .int (-5)) (by rfl) c5 ⟨_, rfl⟩) pa_nil))))
      (pss_cons (ps_expr (pe_bm PySem.F.plainAttrs_list PySem.F.slot_list_append PySem.F.type_list_append mt_append (pe_fld (pe_fld (pv 0) rfl) rfl) (pa_cons (pe_tup (pa_cons (pv 1) (pa_cons (pe_callTy call_list_of (by rfl) T.b_list (by decide +kernel) (pa_cons (pv 2) pa_nil)) pa_nil))) pa_nil)))
      (pss_one (ps_ret (pe_lst (pa_cons (pe_callB call_len_seq (by rfl) T.b_len PySem.boot_len (pa_cons (pe_fld (pe_fld (pv 0) rfl) rfl) pa_nil)) pa_nil))))))), ?_⟩
    obtain ⟨p, pc, pr, pn, l, c, m, ps, rfl, hl, D, g, k⟩ := h
    obtain ⟨⟨dx, hp⟩, hc⟩ := id D
    obtain ⟨⟨dxc, pm, hci, _⟩, _, _, _⟩ := id hc
    have no : ∀ v, (ps.length ≠ c.places ∨ m < c.lastNews ∨ c.landing < m) → v = (-1 : Int) → Si94.step c (.news m ps) = (c, Si94.ok v) := fun v h z => by
      subst z
      exact if_pos h
    refine ⟨_, rfl, l, _, rfl, .inl (SqL.of hl), _, rfl, p, _, _, _, _, rfl, hp, T.lDe, T.nDe_own, rfl, pc, _, _, _, _, rfl, hci, T.lCh, T.nCh_places, rfl, rfl, _, _, rfl, fun e => ?_, fun e => k.no (no _ (.inl fun z => ?_) rfl) (by decide)⟩
    rotate_left
    · have := of_decide_eq_false e
      rw [List.length_map, z] at this
      exact this rfl
    have h1 : ps.length = c.places := by
      have := V.int.inj (of_decide_eq_true e)
      rw [List.length_map] at this
      omega
    refine ⟨_, rfl, p, _, _, _, _, rfl, hp, T.lDe, T.nDe_own, rfl, pc, _, _, rfl, hci, rfl, pc, pr, pn, c, rfl, hc, fun H1 s1 => ?_⟩
    have hp1 := s1 _ _ hp
    have hci1 := s1 _ _ hci
    refine ⟨_, rfl, _, _, rfl, rfl, _, rfl, ?_⟩
    by_cases h2 : c.lastNews ≤ m
    rotate_left
    · exact if_false_of (decide_eq_false (by omega)) ⟨_, _, rfl, fun e => (by cases e), fun _ => (k.no (no _ (.inr (.inl (by omega))) rfl) (by decide)).same s1⟩
    refine if_true_of (decide_eq_true (by omega)) ⟨_, rfl, _, rfl, p, _, _, _, _, rfl, hp1, T.lDe, T.nDe_own, rfl, pc, _, _, _, _, rfl, hci1, T.lCh, T.nCh_minute, rfl, _, _, rfl, rfl, _, _, rfl, fun e2 => ?_, fun e2 => (k.no (no _ (.inr (.inr (by have := of_decide_eq_false e2; omega))) rfl) (by decide)).same s1⟩
    have h3 : m ≤ c.landing := by have := of_decide_eq_true e2; omega
    have i1 : ¬ (ps.length ≠ c.places ∨ m < c.lastNews ∨ c.landing < m) := by omega
    have D1 := D.same s1
    obtain ⟨_, _, _, ⟨us, w1, w2⟩, _⟩ := id D1
    have hlen := paired_len w2
    refine ⟨_, rfl, p, _, _, _, _, rfl, hp1, T.lDe, T.nDe_own, rfl, pc, _, _, _, _, rfl, hci1, T.lCh, T.nCh_news, rfl, pn, _, rfl, .inl (SqL.of w1), _, _, rfl, rfl, _, _, rfl, fun e3 => ?_, fun e3 => (k.no (show Si94.step c (.news m ps) = (c, Si94.ok (-5)) from (if_neg i1).trans (if_pos ?_)) (by decide)).same s1⟩
    rotate_left
    · have := of_decide_eq_false e3
      rw [List.length_map, hlen] at this
      show 3 ≤ c.news.length
      omega
    have h4 : c.news.length < 3 := by
      have := of_decide_eq_true e3
      rw [List.length_map, hlen] at this
      omega
    have i2 : ¬ Si94.NEWS ≤ c.news.length := by
      unfold Si94.NEWS
      omega
    refine ⟨_, rfl, p, _, _, _, _, rfl, hp1, T.lDe, T.nDe_own, rfl, pc, _, _, _, _, rfl, hci1, T.lCh, T.nCh_news, rfl, .inl ⟨rfl, _, SqL.of w1⟩, _, rfl, _, rfl, l, _, rfl, .inl (SqL.of (s1 _ _ hl)), fun q hq => ⟨(by show 2 ≤ sizeLine; decide), fun t ht => ?_⟩⟩
    have htH : H1 t = none := (same_new hq).free ht
    have ntn : pn ≠ t := ne_of_none w1 htH
    have nqn : pn ≠ q := ne_of_none w1 hq
    refine ⟨pn, _, _, rfl, rfl, (by rw [upd_ne ntn, upd_ne nqn]; exact w1), by rw [List.length_map, hlen]; exact small7 (by omega), ?_⟩
    obtain ⟨H2, eH⟩ : ∃ H2, upd (upd (upd H1 q (.lst (ps.map vI))) t (.tup [vI m, .ref q])) pn (.lst (us.map V.ref ++ [.ref t])) = H2 := ⟨_, rfl⟩
    rw [eH]
    obtain ⟨A, e1⟩ := desk_news D1 w1 hq m ps ht eH.symm
    obtain ⟨n1, n2, n3, n4, n5, n6⟩ := D.ne
    have hp2 : H2 p = some (.ins a.cDe dx [("own", .ref pc)]) := by
      rw [← eH, upd_ne n3, upd_ne (ne_of_none hp1 htH), upd_ne (ne_of_none hp1 hq)]
      exact hp1
    have hci2 : H2 pc = some (.ins a.cCh dxc (cF c pr pm pn)) := by
      rw [← eH, upd_ne n5, upd_ne (ne_of_none hci1 htH), upd_ne (ne_of_none hci1 hq)]
      exact hci1
    refine ⟨_, rfl, p, _, _, _, _, rfl, hp2, T.lDe, T.nDe_own, rfl, pc, _, _, _, _, rfl, hci2, T.lCh, T.nCh_news, rfl, pn, _, rfl, .inl (SqL.of e1), (by show 1 ≤ sizeLine; decide), fun r hr => ?_⟩
    have nl : H1 r = none := by
      cases z : H1 r with
      | none => rfl
      | some o =>
        by_cases q' : r = pn
        · rw [q', e1] at hr
          cases hr
        · rw [← eH, upd_ne q', upd_ne (ne_of_none z htH), upd_ne (ne_of_none z hq), z] at hr
          cases hr
    refine k.yes (c' := { c with news := c.news ++ [⟨m, ps⟩] }) (v := ((c.news.length : Nat) : Int) + 1) (ls := []) (show Si94.step c (.news m ps) = _ from (if_neg i1).trans (if_neg i2)) (by omega) _ r ((A.pre s1).new' hr) (s1.free nl) ?_
    rw [upd_same]
    show some (HO.lst [V.int (((us ++ [t]).map V.ref).length : Nat)]) = some (.lst [V.int (((c.news.length : Nat) : Int) + 1)])
    rw [List.length_map, List.length_append, hlen]
    rfl
def spWorst (a : Ads) : Sp := fun vs H Q E => ∃ (p pc pr pn : Addr) (c : Chase), vs = [.ref p] ∧ DeskAt a H p pc pr pn c ∧ Good c ∧ Done a H p pc pr pn c .worst Q E
theorem ok58 (T : Txt K mg a) : FnOk P w K mg base (L2.CX P w) 18 (a.f 58) (a.d 58) ["self"] (spWorst a) := by
  have G43 : FnOk P w K mg base (L2.CX P w) 4 (a.f 43) (a.d 43) ["found"] (spWanted a.cRe) := ok43 T
  have G31 : FnOk P w K mg base CX0 17 (a.f 31) (a.d 31) ["chase"] (spFirst a) := ok31 T
  refine T.F58.okX sc58 (fun vs H Q E h => ?_) (fun cdv A outer s H vs Q E hr h => ?_)
  · obtain ⟨p, pc, pr, pn, c, rfl, _⟩ := h
    rfl
  · have hr4 := hr.mono (j := 4) (by omega)
    refine ⟨_, pss_cons (ps_asg (pe_call G43 hr4 (by rfl) T.g43 T.F43.kp (b43 T) .nil (passes_call (takes_of rfl rfl rfl rfl) (fun _ _ _ _ h => h)) (pa_cons (pe_call G31 hr (by rfl) T.g31 T.F31.kp (b31 T) .nil pass0 (pa_cons (pe_fld (pv 0) rfl) pa_nil)) pa_nil))
        (pg_tup rfl (pgs_cons (pg_name (i := 1) sc58.nd rfl (Or.inl rfl)) (pgs_cons (pg_name (i := 2) sc58.nd rfl (Or.inl rfl)) (pgs_cons (pg_name (i := 3) sc58.nd rfl (Or.inl rfl)) pgs_nil)))))
      (pss_cons (ps_set (i := 4) sc58.nd rfl (Or.inl rfl) (pe_op op_cat (pe_lc (own := [("one", 5)]) (g := gName 5) (tt := tYes) rfl sc58.nd (pi_list (pe_fld (pe_fld (pv 0) rfl) rfl)) (blkOk_by (N := N58) (sc := defScope s58) (by decide +kernel))
        (fun _ _ _ _ _ => pg_name (i := 5) sc58.nd rfl (Or.inl rfl)) (fun _ _ _ _ _ => pts_nil) (fun _ _ _ _ _ => pe_ix (r := rIxT K) ix_tup (pv 5) pe_int (fun _ _ => rfl))) (pe_lst (pa_cons (pe_fld (pe_fld (pv 0) rfl) rfl) pa_nil))))
      (pss_one (ps_ret (pe_lst (pa_cons (pv 1) (pa_cons (pv 3) (pa_cons (pe_ix ix_list (pv 4) (pv 2) (fun _ _ => rfl)) pa_nil))))))), ?_⟩
    obtain ⟨p, pc, pr, pn, c, rfl, D, g, k⟩ := h
    obtain ⟨⟨dx, hp⟩, hc⟩ := id D
    obtain ⟨⟨dxc, pm, hci, _⟩, _, ⟨us, w1, w2⟩, _⟩ := id hc
    have hlen := paired_len w2
    have ws := worst_said g.srt
    refine ⟨_, rfl, p, _, _, _, _, rfl, hp, T.lDe, T.nDe_own, rfl, pc, pr, pn, c, rfl, hc, g, fun eb H1 s1 => ?_, fun x eb H1 t s1 ht => ?_⟩
    · rw [eb] at ws
      refine ⟨_, rfl, fun e => absurd rfl e, fun _ => (k.no ((show Si94.step c .worst = (c, match c.worst with
        | none => Si94.ok (-6)
        | some n => ⟨((n : Nat) : Int), Si94.ints (match c.firstFrom c.ways n c.news with
          | none => []
          | some x => [x.1, x.2])⟩) from rfl).trans (by rw [ws])) (by decide)).same s1⟩
    · rw [eb] at ws
      obtain ⟨e1, e2, e3⟩ := ws
      obtain ⟨x1, x2, x3⟩ := x
      replace e1 : c.worst = some x1 := e1
      replace e2 : c.firstFrom c.ways x1 c.news = some (x3, minAt c x2) := e2
      replace e3 : x2 ≤ c.news.length := e3
      refine ⟨_, rfl, fun _ => ?_, fun e => (by cases e)⟩
      refine ⟨t, _, rfl, SqT.of ht, rfl, _, _, rfl, _, _, rfl, _, _, rfl, rfl, ?_⟩
      refine ⟨_, rfl, p, _, _, _, _, rfl, s1 _ _ hp, T.lDe, T.nDe_own, rfl, pc, _, _, _, _, rfl, s1 _ _ hci, T.lCh, T.nCh_news, rfl, pn, rfl, ⟨_, SqL.of (s1 _ _ w1)⟩, fun B hB => ?_⟩
      have nl3 := g.nl
      refine lc_list (K := K) (a := pn) (xs := us.map V.ref) (fun j H' => Same H1 H' ∧ H' B = some (.lst ((c.news.take j).map fun x => vI x.minute)))
        ⟨same_new hB, upd_same⟩ (fun j H' _ ⟨s3, _⟩ => SqL.of (s3 _ _ (s1 _ _ w1))) (fun j x H3 hx ⟨s3, q3⟩ => ?_) (fun H3 ⟨s3, q3⟩ => ?_)
      · rw [List.getElem?_map] at hx
        cases et : us[j]? with
        | none => rw [et] at hx; cases hx
        | some tj =>
          rw [et] at hx
          obtain rfl : V.ref tj = x := Option.some.inj hx
          obtain ⟨y, ey, q, hy, _⟩ := paired_at w2 et
          refine ⟨rfl, _, rfl, tj, _, _, _, rfl, rfl, SqT.of (s3 _ _ (s1 _ _ hy)), rfl, _, q3, ?_, same_upd s3 hB, ?_⟩
          · rw [List.length_map, List.length_take]
            exact small7 (by omega)
          · rw [upd_same, take_snoc ey, List.map_append]
            rfl
      · rw [List.length_map, hlen, List.take_length] at q3
        have s13 := s1.trans s3
        refine ⟨_, rfl, p, _, _, _, _, rfl, s13 _ _ hp, T.lDe, T.nDe_own, rfl, pc, _, _, _, _, rfl, s13 _ _ hci, T.lCh, T.nCh_minute, rfl, (by show 1 ≤ sizeLine; decide), fun M hM => ?_⟩
        have nBM : B ≠ M := ne_of_none q3 hM
        refine ⟨B, M, _, _, rfl, rfl, (by rw [upd_ne nBM]; exact q3), upd_same, (by rw [List.length_map]; exact small7' (by show c.news.length + 1 ≤ 100000; omega)), fun N hN => ?_⟩
        have s5 : Same H (upd (upd H3 M (.lst [vI c.landing])) N (.lst ((c.news.map fun x => vI x.minute) ++ [vI c.landing]))) := same_upd (same_upd s13 (s13.free hM)) (s13.free ((same_new hM).free hN))
        refine ⟨_, rfl, _, rfl, _, rfl, _, rfl, N, _, _, vI (minAt c x2), rfl, rfl, SqL.of upd_same, atI_nat ?_, (by show 3 ≤ sizeLine; decide), fun l hl => ?_⟩
        · unfold minAt
          by_cases hx : x2 < c.news.length
          · rw [if_pos hx, List.getElem?_append_left (by rw [List.length_map]; exact hx), List.getElem?_map, getD_at (i := x2) (⟨0, []⟩ : News) hx]
            rfl
          · rw [if_neg hx, List.getElem?_append_right (by rw [List.length_map]; exact Nat.le_of_not_lt hx), List.length_map, show x2 - c.news.length = 0 from Nat.sub_eq_zero_of_le e3]
            rfl
        · refine k.yes (c' := c) (v := (x1 : Int)) (ls := [(x3 : Int), (minAt c x2 : Int)]) ((show Si94.step c .worst = (c, match c.worst with
            | none => Si94.ok (-6)
            | some n => ⟨((n : Nat) : Int), Si94.ints (match c.firstFrom c.ways n c.news with
              | none => []
              | some x => [x.1, x.2])⟩) from rfl).trans (by rw [e1]; dsimp only; rw [e2]; rfl)) (by omega) _ l ((Aft.same s5 D).new' hl) (s5.free hl) upd_same
end
end RB
end
section
namespace RB
open PySem PySem.Spec PyProof.Rows L2
open Si94 (Chase News worstOf Call Ans)
theorem Done.same {a : Ads} {H H1 : Hp} {p pc pr pn : Addr} {c : Chase} {q : Call} {Q : VK} {E : XK} (s : Same H H1) (k : Done a H p pc pr pn c q Q E) : Done a H1 p pc pr pn c q Q E :=
  ⟨fun h => (k.ref h).same s, fun h H' l A hl e => k.ok h H' l (A.pre s) (s.free hl) e⟩
theorem cut_one (x : V) (r : List V) : cutV (x :: r) (some 1) none = r := by
  unfold cutV
  have e : HT.sIx (x :: r).length 0 (some 1) = 1 := by
    show min 1 (r.length + 1) = 1
    omega
  rw [e, HT.sIx_none]
  show List.take (r.length + 1 - 1) (List.drop 1 (x :: r)) = r
  rw [Nat.add_sub_cancel]
  show List.take r.length r = r
  exact List.take_length
/-- the answer told of a number that may be none -/
theorem done_told {a : Ads} {H H1 : Hp} {p pc pr pn : Addr} {c : Chase} {q : Call} {Q : VK} {E : XK} (k : Done a H p pc pr pn c q Q E) (D : DeskAt a H p pc pr pn c) {o : Option Nat} (e : Si94.step c q = (c, Si94.toldOf o)) (s : Same H H1) :
    (vO o ≠ .non → ∀ l, H1 l = none → Q (.ref l) (upd H1 l (.lst [vO o]))) ∧ (vO o = .non → Ref a.cRe E H1 (-6)) := by
  cases o with
  | none => exact ⟨fun z => absurd rfl z, fun _ => (k.no e (by decide)).same s⟩
  | some m =>
    exact ⟨fun _ l hl => k.yes (c' := c) (v := (m : Int)) (ls := []) e (by omega) _ l ((Aft.same s D).new' hl) (s.free hl) (by rw [upd_same]; rfl), fun z => by cases z⟩
section
variable {P : Program} {w : World} {K : PySem.W.Frag} {mg : Str → Option Value} {base : Heap} {a : Ads}
def spCalled (a : Ads) : Sp := fun vs H Q E => ∃ (p pc pr pn l : Addr) (c : Chase) (n : Int) (ns : List Int) (q : Call), vs = [.ref p, .int n, .ref l] ∧ H l = some (.lst (ns.map V.int)) ∧ Kind n ns q ∧ DeskAt a H p pc pr pn c ∧ Good c ∧ Done a H p pc pr pn c q Q E
theorem ok59 (T : Txt K mg a) : FnOk P w K mg base (L2.CX P w) 19 (a.f 59) (a.d 59) ["self", "call", "plain"] (spCalled a) := by
  have G53 : FnOk P w K mg base (L2.CX P w) 4 (a.f 53) (a.d 53) ["self", "places", "car", "minute"] (spBegins a) := ok53 T
  have G54 : FnOk P w K mg base (L2.CX P w) 5 (a.f 54) (a.d 54) ["self", "place", "other", "minutes"] (spRoad a) := ok54 T
  have G55 : FnOk P w K mg base (L2.CX P w) 4 (a.f 55) (a.d 55) ["self", "number"] (spMay a) := ok55 T
  have G56 : FnOk P w K mg base (L2.CX P w) 4 (a.f 56) (a.d 56) ["self", "minute", "parts"] (spNews a) := ok56 T
  have G57 : FnOk P w K mg base (L2.CX P w) 5 (a.f 57) (a.d 57) ["self", "place", "other"] (spFar a) := ok57 T
  have G58 : FnOk P w K mg base (L2.CX P w) 18 (a.f 58) (a.d 58) ["self"] (spWorst a) := ok58 T
  have G43 : FnOk P w K mg base (L2.CX P w) 4 (a.f 43) (a.d 43) ["found"] (spWanted a.cRe) := ok43 T
  have G32 : FnOk P w K mg base CX0 7 (a.f 32) (a.d 32) ["chase"] (spUnknown a) := ok32 T
  have G33 : FnOk P w K mg base CX0 7 (a.f 33) (a.d 33) ["chase"] (spKnown a) := ok33 T
  refine T.F59.okX sc59 (fun vs H Q E h => ?_) (fun cdv A outer s H vs Q E hr h => ?_)
  · obtain ⟨p, pc, pr, pn, l, c, n, ns, q, rfl, _⟩ := h
    rfl
  · have hr4 := hr.mono (j := 4) (by omega)
    have hr5 := hr.mono (j := 5) (by omega)
    have hr7 := hr.mono (j := 7) (by omega)
    refine ⟨_, pss_cons (ps_if (pt_cmpR op_eq (pv 1) pe_int (nomark _)) (pss_one (ps_ret (pe_meth (pv 0) T.lDe T.M53 G53 hr4 (b53 T) .nil (passes_call (takes_of rfl rfl rfl rfl) (fun _ _ _ _ h => h)) (pa_cons (pe_ix ix_list (pv 2) pe_int (fun _ _ => rfl)) (pa_cons (pe_ix ix_list (pv 2) pe_int (fun _ _ => rfl)) (pa_cons (pe_ix ix_list (pv 2) pe_int (fun _ _ => rfl)) pa_nil)))))) pss_nil)
      (pss_cons (ps_if (pt_cmpR op_eq (pv 1) pe_int (nomark _)) (pss_one (ps_ret (pe_meth (pv 0) T.lDe T.M54 G54 hr5 (b54 T) .nil (passes_call (takes_of rfl rfl rfl rfl) (fun _ _ _ _ h => h)) (pa_cons (pe_ix ix_list (pv 2) pe_int (fun _ _ => rfl)) (pa_cons (pe_ix ix_list (pv 2) pe_int (fun _ _ => rfl)) (pa_cons (pe_ix ix_list (pv 2) pe_int (fun _ _ => rfl)) pa_nil)))))) pss_nil)
      (pss_cons (ps_if (pt_cmpR op_eq (pv 1) pe_int (nomark _)) (pss_one (ps_ret (pe_meth (pv 0) T.lDe T.M55 G55 hr4 (b55 T) .nil (passes_call (takes_of rfl rfl rfl rfl) (fun _ _ _ _ h => h)) (pa_cons (pe_ix ix_list (pv 2) pe_int (fun _ _ => rfl)) pa_nil)))) pss_nil)
      (pss_cons (ps_if (pt_cmpR op_eq (pv 1) pe_int (nomark _)) (pss_one (ps_ret (pe_meth (pv 0) T.lDe T.M56 G56 hr4 (b56 T) .nil (passes_call (takes_of rfl rfl rfl rfl) (fun _ _ _ _ h => h)) (pa_cons (pe_ix ix_list (pv 2) pe_int (fun _ _ => rfl)) (pa_cons (pe_slice sl_list (pv 2) (po_some pe_int) po_none) pa_nil))))) pss_nil)
      (pss_cons (ps_if (pt_cmpR op_eq (pv 1) pe_int (nomark _)) (pss_one (ps_ret (pe_meth (pv 0) T.lDe T.M57 G57 hr5 (b57 T) .nil (passes_call (takes_of rfl rfl rfl rfl) (fun _ _ _ _ h => h)) (pa_cons (pe_ix ix_list (pv 2) pe_int (fun _ _ => rfl)) (pa_cons (pe_ix ix_list (pv 2) pe_int (fun _ _ => rfl)) pa_nil))))) pss_nil)
      (pss_cons (ps_if (pt_cmpR op_eq (pv 1) pe_int (nomark _)) (pss_one (ps_ret (pe_meth0 (pv 0) T.lDe T.M58 G58 hr (b58 T) .nil (passes_call (takes_of rfl rfl rfl rfl) (fun _ _ _ _ h => h))))) pss_nil)
      (pss_cons (ps_if (pt_cmpR op_eq (pv 1) pe_int (nomark _)) (pss_one (ps_ret (pe_lst (pa_cons (pe_call G43 hr4 (by rfl) T.g43 T.F43.kp (b43 T) .nil (passes_call (takes_of rfl rfl rfl rfl) (fun _ _ _ _ h => h)) (pa_cons (pe_call G32 hr7 (by rfl) T.g32 T.F32.kp (b32 T) .nil pass0 (pa_cons (pe_fld (pv 0) rfl) pa_nil)) pa_nil)) pa_nil)))) pss_nil)
      (pss_one (ps_ret (pe_lst (pa_cons (pe_call G43 hr4 (by rfl) T.g43 T.F43.kp (b43 T) .nil (passes_call (takes_of rfl rfl rfl rfl) (fun _ _ _ _ h => h)) (pa_cons (pe_call G33 hr7 (by rfl) T.g33 T.F33.kp (b33 T) .nil pass0 (pa_cons (pe_fld (pv 0) rfl) pa_nil)) pa_nil)) pa_nil)))))))))), ?_⟩
    obtain ⟨p, pc, pr, pn, l, c, n, ns, q, rfl, hl, kd, D, g, k⟩ := h
    obtain ⟨⟨dx, hp⟩, hc⟩ := id D
    cases kd with
    | begins n s t => exact ⟨_, rfl, rfl, _, rfl, if_true_of rfl ⟨_, rfl, p, _, _, rfl, hp, rfl, _, rfl, l, _, _, _, rfl, rfl, SqL.of hl, rfl, _, rfl, l, _, _, _, rfl, rfl, SqL.of hl, rfl, _, rfl, l, _, _, _, rfl, rfl, SqL.of hl, rfl, p, pc, pr, pn, c, n, s, t, rfl, D, k⟩⟩
    | road x y n => exact ⟨_, rfl, rfl, _, rfl, if_false_of rfl ⟨_, rfl, rfl, _, rfl, if_true_of rfl ⟨_, rfl, p, _, _, rfl, hp, rfl, _, rfl, l, _, _, _, rfl, rfl, SqL.of hl, rfl, _, rfl, l, _, _, _, rfl, rfl, SqL.of hl, rfl, _, rfl, l, _, _, _, rfl, rfl, SqL.of hl, rfl, p, pc, pr, pn, c, x, y, n, rfl, D, k⟩⟩⟩
    | may n => exact ⟨_, rfl, rfl, _, rfl, if_false_of rfl ⟨_, rfl, rfl, _, rfl, if_false_of rfl ⟨_, rfl, rfl, _, rfl, if_true_of rfl ⟨_, rfl, p, _, _, rfl, hp, rfl, _, rfl, l, _, _, _, rfl, rfl, SqL.of hl, rfl, p, pc, pr, pn, c, n, rfl, D, g, k⟩⟩⟩⟩
    | news m r hr8 =>
      refine ⟨_, rfl, rfl, _, rfl, if_false_of rfl ⟨_, rfl, rfl, _, rfl, if_false_of rfl ⟨_, rfl, rfl, _, rfl, if_false_of rfl ⟨_, rfl, rfl, _, rfl, if_true_of rfl ⟨_, rfl, p, _, _, rfl, hp, rfl, _, rfl, l, _, _, _, rfl, rfl, SqL.of hl, atI_nat (j := 0) rfl, _, rfl, _, rfl, l, _, rfl, SqL.of hl, fun q hq => ?_⟩⟩⟩⟩⟩
      have s1 : Same H (upd H q (.lst (cutV (((m : Int) :: r.map fun (x : Nat) => (x : Int)).map V.int) (some 1) none))) := same_new hq
      refine ⟨p, pc, pr, pn, q, c, m, r, rfl, ?_, D.same s1, g, k.same s1⟩
      rw [upd_same, List.map_cons, cut_one, List.map_map]
      rfl
    | far x y => exact ⟨_, rfl, rfl, _, rfl, if_false_of rfl ⟨_, rfl, rfl, _, rfl, if_false_of rfl ⟨_, rfl, rfl, _, rfl, if_false_of rfl ⟨_, rfl, rfl, _, rfl, if_false_of rfl ⟨_, rfl, rfl, _, rfl, if_true_of rfl ⟨_, rfl, p, _, _, rfl, hp, rfl, _, rfl, l, _, _, _, rfl, rfl, SqL.of hl, rfl, _, rfl, l, _, _, _, rfl, rfl, SqL.of hl, rfl, p, pc, pr, pn, c, x, y, rfl, D, g, k⟩⟩⟩⟩⟩⟩
    | worst => exact ⟨_, rfl, rfl, _, rfl, if_false_of rfl ⟨_, rfl, rfl, _, rfl, if_false_of rfl ⟨_, rfl, rfl, _, rfl, if_false_of rfl ⟨_, rfl, rfl, _, rfl, if_false_of rfl ⟨_, rfl, rfl, _, rfl, if_false_of rfl ⟨_, rfl, rfl, _, rfl, if_true_of rfl ⟨_, rfl, p, _, _, rfl, hp, rfl, p, pc, pr, pn, c, rfl, D, g, k⟩⟩⟩⟩⟩⟩⟩
    | unknown =>
      refine ⟨_, rfl, rfl, _, rfl, if_false_of rfl ⟨_, rfl, rfl, _, rfl, if_false_of rfl ⟨_, rfl, rfl, _, rfl, if_false_of rfl ⟨_, rfl, rfl, _, rfl, if_false_of rfl ⟨_, rfl, rfl, _, rfl, if_false_of rfl ⟨_, rfl, rfl, _, rfl, if_false_of rfl ⟨_, rfl, rfl, _, rfl, if_true_of rfl
        ⟨_, rfl, p, _, _, _, _, rfl, hp, T.lDe, T.nDe_own, rfl, pc, pr, pn, c, rfl, hc, g, fun H1 s1 => ?_⟩⟩⟩⟩⟩⟩⟩⟩
      obtain ⟨u1, u2⟩ := done_told k D (o := c.silent.worst) rfl s1
      exact ⟨_, rfl, fun e => ⟨(by show 1 ≤ sizeLine; decide), fun l hl => u1 e l hl⟩, fun e => u2 e⟩
    | known =>
      refine ⟨_, rfl, rfl, _, rfl, if_false_of rfl ⟨_, rfl, rfl, _, rfl, if_false_of rfl ⟨_, rfl, rfl, _, rfl, if_false_of rfl ⟨_, rfl, rfl, _, rfl, if_false_of rfl ⟨_, rfl, rfl, _, rfl, if_false_of rfl ⟨_, rfl, rfl, _, rfl, if_false_of rfl ⟨_, rfl, rfl, _, rfl, if_false_of rfl
        ⟨_, rfl, p, _, _, _, _, rfl, hp, T.lDe, T.nDe_own, rfl, pc, pr, pn, c, rfl, hc, g, fun H1 s1 => ?_⟩⟩⟩⟩⟩⟩⟩⟩
      obtain ⟨u1, u2⟩ := done_told k D (o := c.open_.worst) rfl s1
      exact ⟨_, rfl, fun e => ⟨(by show 1 ≤ sizeLine; decide), fun l hl => u1 e l hl⟩, fun e => u2 e⟩
def spAnswered (a : Ads) : Sp := fun vs H Q _ => ∃ (p pc pr pn l : Addr) (c : Chase) (n : Int) (ns : List Int) (q : Call), vs = [.ref p, .int n, .ref l] ∧ H l = some (.lst (ns.map V.int)) ∧ Kind n ns q ∧ DeskAt a H p pc pr pn c ∧ Good c ∧
  ∀ H' l', Aft a H H' p pc pr pn c (Si94.step c q).1 → H l' = none → H' l' = some (.lst (((Si94.step c q).2.v :: (Si94.step c q).2.l).map V.int)) → Q (.ref l') H'
/-- what is refused changes nothing and tells nothing -/
theorem step_no {c : Chase} {q : Call} (h : (Si94.step c q).2.v < 0) : Si94.step c q = (c, Si94.ok (Si94.step c q).2.v) := by
  revert h
  cases q with
  | begins n s t =>
    intro h
    unfold Si94.step at h ⊢
    dsimp only at h ⊢
    split
    · rfl
    · rename_i z
      rw [if_neg z] at h
      exact absurd h (by show ¬ ((0 : Int) < 0); decide)
  | road x y n =>
    intro h
    unfold Si94.step at h ⊢
    dsimp only at h ⊢
    split
    · rfl
    · rename_i z1
      rw [if_neg z1] at h
      split
      · rfl
      · rename_i z2
        rw [if_neg z2] at h
        split
        · rfl
        · rename_i z3
          rw [if_neg z3] at h
          split
          · rfl
          · rename_i z4
            rw [if_neg z4] at h
            exact absurd h (by show ¬ ((c.roads.length : Int) + 1 < 0); omega)
  | may s =>
    intro h
    unfold Si94.step at h ⊢
    dsimp only at h ⊢
    split
    · rfl
    · rename_i z
      rw [if_neg z] at h
      exact absurd h (by show ¬ ((0 : Int) < 0); decide)
  | news m r =>
    intro h
    unfold Si94.step at h ⊢
    dsimp only at h ⊢
    split
    · rfl
    · rename_i z1
      rw [if_neg z1] at h
      split
      · rfl
      · rename_i z2
        rw [if_neg z2] at h
        exact absurd h (by show ¬ ((c.news.length : Int) + 1 < 0); omega)
  | far x y =>
    intro h
    unfold Si94.step at h ⊢
    dsimp only at h ⊢
    split
    · rfl
    · cases Si94.far c.ways x y <;> rfl
  | worst =>
    intro h
    unfold Si94.step at h ⊢
    dsimp only at h ⊢
    cases e : c.worst with
    | none => rfl
    | some n =>
      rw [e] at h
      exact absurd h (by show ¬ ((n : Int) < 0); omega)
  | unknown =>
    intro h
    unfold Si94.step
    dsimp only
    cases c.silent.worst <;> rfl
  | known =>
    intro h
    unfold Si94.step
    dsimp only
    cases c.open_.worst <;> rfl
theorem ok60 (T : Txt K mg a) : FnOk P w K mg base CX0 20 (a.f 60) (a.d 60) ["self", "call", "plain"] (spAnswered a) := by
  have G59 : FnOk P w K mg base (L2.CX P w) 19 (a.f 59) (a.d 59) ["self", "call", "plain"] (spCalled a) := ok59 T
  refine T.F60.ok sc60 (fun vs H Q E h => ?_) (fun cdv A outer s H vs Q E hr h => ?_)
  · obtain ⟨p, pc, pr, pn, l, c, n, ns, q, rfl, _⟩ := h
    rfl
  · refine ⟨_, pss_cons (ps_try_as (i := 4) (tb := fun W => tAsg (tMethS a.cDe "called" (spCalled a) (WE W) (tVar 0) (tCons (tVar 1) (tCons (tVar 2) tNil))) (gName 3)) (ts := fun b cls d => tRet (tLst (tCons (tXf b cls d a.cRe "told" (tVar 4)) tNil))) (Wout := fun _ _ _ _ => False) rfl rfl sc60.nd rfl rfl ⟨rfl, by decide, Or.inl T.gRe⟩ takes0
          (fun W pn xe tk _ => pss_one (ps_set (i := 3) sc60.nd rfl (Or.inl rfl) (by exact (pe_methS (pv 0) T.lDe T.M59 G59 hr (b59 T) (fun σ => passAt tk σ) (by exact (pa_cons (pv 1) (pa_cons (pv 2) pa_nil)))))))
          (fun b oe cls d pn hz hf => pss_one (ps_ret (pe_lst (pa_cons (by exact (pe_xf T.xRe T.nRe hz hf (pv 4))) pa_nil)))))
      (pss_one (ps_ret (pv 3))), ?_⟩
    obtain ⟨p, pc, pr, pn, l, c, n, ns, q, rfl, hl, kd, D, g, k⟩ := h
    obtain ⟨⟨dx, hp⟩, hc⟩ := id D
    refine ⟨_, rfl, p, _, _, rfl, hp, rfl, _, rfl, _, rfl, p, pc, pr, pn, l, c, n, ns, q, rfl, hl, kd, D, g, fun h0 d H1 s1 ed => ?_, fun h0 H1 l' A nl e => ?_⟩
    · refine ⟨true, T.eRe, fun _ b _ => ?_, fun z => Bool.noConfusion z⟩
      refine ⟨_, rfl, rfl, rfl, d, _, _, rfl, ed, rfl, (by show 1 ≤ sizeLine; decide), fun l' hl' => ?_⟩
      have e := step_no h0
      refine k _ l' ?_ (s1.free hl') ?_
      · rw [e]
        exact (Aft.same s1 D).new' hl'
      · rw [upd_same, e]
        rfl
    · exact ⟨_, rfl, k H1 l' A nl e⟩
end
end RB
end
section
namespace RB
open PySem PySem.Spec PyProof.Rows L2
open Si94 (Chase News worstOf Call Ans)
theorem del_le {H : Hp} {f : Addr} : Same (del H f) H := fun b o e => by
  by_cases z : b = f
  · rw [z, del_same] at e
    cases e
  · rw [del_ne z] at e
    exact e
/-- between two calls -/
structure Lp (a : Ads) (H0 H : Hp) (p pc pr pn f : Addr) (c : Chase) (fs : List V) : Prop where
  same : Same H0 H
  np : H0 p = none
  npc : H0 pc = none
  npr : H0 pr = none
  npn : H0 pn = none
  nf : H0 f = none
  ds : DeskAt a (del H f) p pc pr pn c
  fl : H f = some (.lst fs)
section
variable {a : Ads} {H0 H H' : Hp} {p pc pr pn f : Addr} {c c' : Chase} {fs : List V}
theorem Lp.desk (L : Lp a H0 H p pc pr pn f c fs) : DeskAt a H p pc pr pn c := L.ds.same del_le
theorem Lp.keep (L : Lp a H0 H p pc pr pn f c fs) (s : Same H H') : Lp a H0 H' p pc pr pn f c fs := ⟨L.same.trans s, L.np, L.npc, L.npr, L.npn, L.nf, L.ds.same (del_mono s f), s _ _ L.fl⟩
theorem Lp.call (L : Lp a H0 H p pc pr pn f c fs) (A : Aft a H H' p pc pr pn c c') : ∃ pc' pr' pn', Lp a H0 H' p pc' pr' pn' f c' fs := by
  obtain ⟨⟨pc', pr', pn', D, d1, d2, d3, d4⟩, fr⟩ := A
  obtain ⟨a1, a2, a3, a4⟩ := L.ds.away
  have new : ∀ {x y : Addr}, H0 y = none → (x = y ∨ H x = none) → H0 x = none := fun {x y} h1 h2 => h2.elim (fun z => by rw [z]; exact h1) L.same.free
  refine ⟨pc', pr', pn', fun b o e => ?_, L.np, new L.npc d1, new L.npr d2, new L.npn d3, L.nf, d4 f (fun z => ?_) L.ds, fr f _ (Ne.symm a1) (Ne.symm a2) (Ne.symm a3) (Ne.symm a4) L.fl⟩
  · exact fr b o (ne_of_none e L.np) (ne_of_none e L.npc) (ne_of_none e L.npr) (ne_of_none e L.npn) (L.same b o e)
  · rw [L.fl] at z
    cases z
theorem Lp.put (L : Lp a H0 H p pc pr pn f c fs) (gs : List V) : Lp a H0 (upd H f (.lst gs)) p pc pr pn f c gs := by
  refine ⟨fun b o e => ?_, L.np, L.npc, L.npr, L.npn, L.nf, L.ds.same fun b o e => ?_, upd_same⟩
  · rw [upd_ne (ne_of_none e L.nf)]
    exact L.same b o e
  · by_cases z : b = f
    · rw [z, del_same] at e
      cases e
    · rw [del_ne z] at e ⊢
      rw [upd_ne z]
      exact e
end
theorem cut_mid {u v w : List V} {x y : V} : cutV (u ++ (x :: y :: (v ++ w))) (some ((u.length : Int) + 2)) (some ((u.length : Int) + 2 + (v.length : Int))) = v := by
  unfold cutV
  have hl : (u ++ (x :: y :: (v ++ w))).length = u.length + 2 + v.length + w.length := by
    simp only [List.length_append, List.length_cons]
    omega
  rw [show (u.length : Int) + 2 = ((u.length + 2 : Nat) : Int) by omega, show ((u.length + 2 : Nat) : Int) + (v.length : Int) = ((u.length + 2 + v.length : Nat) : Int) by omega, HT.sIx_nat, HT.sIx_nat, hl,
    Nat.min_eq_left (by omega), Nat.min_eq_left (by omega), show u.length + 2 + v.length - (u.length + 2) = v.length by omega]
  have e : u ++ (x :: y :: (v ++ w)) = (u ++ [x, y]) ++ (v ++ w) := by simp
  have e2 : u.length + 2 = (u ++ [x, y]).length := by simp
  rw [e, e2, List.drop_left, List.take_left]
def muA (n : Nat) (σ : L2.St) (_ : Hp) : Nat := match σ[3]? with
  | some (some (V.int i)) => n - i.toNat
  | _ => 0
section
variable {P : Program} {w : World} {K : PySem.W.Frag} {mg : Str → Option Value} {base : Heap} {a : Ads}
def spAns (K : PySem.W.Frag) : Sp := fun vs H Q _ => ∃ (A : Addr) (ns : List Int), vs = [.ref A] ∧ SqL K H A (ns.map V.int) ∧ PySi94.answers_asked ns = true ∧
  ∀ (H' : Hp) (p : Addr), H' p = some (.lst ((PySi94.answers ns).map V.int)) → Q (.ref p) H'
theorem ok61 (T : Txt K mg a) : FnOk P w K mg base CX0 21 (a.f 61) (a.d 61) ["calls"] (spAns K) := by
  have G51 : FnOk P w K mg base CX0 3 (a.f 51) (a.d 51) ["self"] (spDInit a) := ok51 T
  have G60 : FnOk P w K mg base CX0 20 (a.f 60) (a.d 60) ["self", "call", "plain"] (spAnswered a) := ok60 T
  refine T.F61.ok sc61 (fun vs H Q E h => ?_) (fun cdv A outer s H vs Q E hr h => ?_)
  · obtain ⟨A, ns, rfl, _⟩ := h
    rfl
  · have hr4 := hr.mono (j := 4) (by omega)
    refine ⟨_, pss_cons (ps_set (i := 1) sc61.nd rfl (Or.inl rfl) (pe_make0 T.kDe G51 hr4 (by rfl) T.gDe (b51 T) .nil pass0))
      (pss_cons (ps_set (i := 2) sc61.nd rfl (Or.inl rfl) (pe_lst pa_nil)) (pss_cons (ps_set (i := 3) sc61.nd rfl (Or.inl rfl) pe_int)
      (pss_cons (ps_while PassesOwn.never (pt_cmpR op_lt (pv 3) (pe_callB call_len_seq (by rfl) T.b_len PySem.boot_len (pa_cons (pv 0) pa_nil)) (nomark _))
        (pss_cons (ps_set (i := 4) sc61.nd rfl (Or.inl rfl) (pe_op op_add (pv 3) pe_int))
        (pss_cons (ps_set (i := 5) sc61.nd rfl (Or.inl rfl) (pe_op op_add (pv 4) (pe_ix ix_list (pv 0) (pe_op op_add (pv 3) pe_int) (fun _ _ => rfl))))
        (pss_cons (ps_set (i := 6) sc61.nd rfl (Or.inl rfl) (pe_meth (pv 1) T.lDe T.M60 G60 hr (b60 T) .nil pass0 (pa_cons (pe_ix ix_list (pv 0) (pv 3) (fun _ _ => rfl)) (pa_cons (pe_slice sl_list (pv 0) (po_some (pv 4)) (po_some (pv 5))) pa_nil))))
        (pss_cons (ps_expr (pe_bm PySem.F.plainAttrs_list PySem.F.slot_list_append PySem.F.type_list_append mt_append (pv 2) (pa_cons (pe_callB call_len_seq (by rfl) T.b_len PySem.boot_len (pa_cons (pv 6) pa_nil)) pa_nil)))
        (pss_cons (ps_expr (pe_bm PySem.F.plainAttrs_list PySem.F.slot_list_extend PySem.F.type_list_extend mt_extend (pv 2) (pa_cons (pv 6) pa_nil)))
        (pss_one (ps_set (i := 3) sc61.nd rfl (Or.inl rfl) (pe_op op_add (pv 5) pe_int)))))))))
      (pss_one (ps_ret (pv 2)))))), ?_⟩
    obtain ⟨A, ns, rfl, hS, hask, k⟩ := h
    obtain ⟨cs, ens, hc60, hcs, hans⟩ := asked_inv hask
    intro p dx hp hdx ne
    have s0 : Same H (upd (upd H dx (.own p)) p (.ins a.cDe dx [])) := same_upd (same_new hdx) hp
    refine ⟨p, dx, rfl, upd_same, fun H1 pc pr pn D keep hpc hpr hpn => ⟨rfl, by decide, fun f hf => ?_⟩⟩
    have s1 : Same H H1 := Same.made hp hdx keep
    have L0 : Lp a H (upd H1 f (.lst [])) p pc pr pn f (after [] Si94Neutral.start) ((heard []).map V.int) := by
      refine ⟨s1.trans (same_new hf), hp, s0.free hpc, s0.free hpr, s0.free hpn, s1.free hf, D.same fun b o e => ?_, upd_same⟩
      have nb := ne_of_none e hf
      rw [del_ne nb, upd_ne nb]
      exact e
    refine while_by (fun σ H' => ∃ pre rest v4 v5 v6 pc pr pn, σ = [some (.ref A), some (.ref p), some (.ref f), some (vI (pre.flatMap encC).length), v4, v5, v6] ∧ cs = pre ++ rest ∧ Lp a H H' p pc pr pn f (after pre Si94Neutral.start) ((heard pre).map V.int)) (muA ns.length)
      ⟨[], cs, none, none, none, pc, pr, pn, rfl, rfl, L0⟩ ?_ (fun σ H Q Q' hQ ⟨v, e, w, e', A, ys, ea, hs, i, j, e1, e2, k, e3, q⟩ => ⟨v, e, w, e', A, ys, ea, hs, i, j, e1, e2, k, e3, hQ _ _ q⟩)
    rintro σ H2 ⟨pre, rest, v4, v5, v6, pc, pr, pn, rfl, ecs, L⟩
    have hS2 := L.same.seq hS
    have hsub : ∀ c ∈ pre, c ∈ cs := fun c hc => by
      rw [ecs]
      exact List.mem_append_left _ hc
    refine ⟨_, rfl, _, rfl, A, _, rfl, .inl hS2, _, _, rfl, rfl, _, rfl, ?_⟩
    cases rest with
    | nil =>
      rw [List.append_nil] at ecs
      subst ecs
      refine if_false_of (decide_eq_false ?_) ⟨_, rfl, k H2 f ?_⟩
      · rw [List.length_map, ens]
        omega
      · rw [hans]
        exact L.fl
    | cons c rest =>
      obtain ⟨pn0, ns', q, hc1⟩ := hcs c (by rw [ecs]; simp)
      have ens2 := ens.trans (enc_at ecs hc1.eq)
      have hg := good_after hcs pre Si94Neutral.start hsub good_init
      have hst := step_one hc1 (after pre Si94Neutral.start)
      have hpl : pre.length ≤ 60 := by
        rw [ecs, List.length_append] at hc60
        omega
      have hh := heard_len hcs hsub
      have hsl := step_len (after pre Si94Neutral.start) q
      have hlen : ns.length = (pre.flatMap encC).length + (ns'.length + 3 + (rest.flatMap encC).length) := by
        rw [ens2]
        simp only [List.length_append, List.length_cons]
        omega
      have emap : ns.map V.int = (pre.flatMap encC).map V.int ++ (V.int pn0 :: V.int (ns'.length : Int) :: (ns'.map V.int ++ ((0 :: rest.flatMap encC).map V.int))) := by
        rw [ens2]
        simp only [List.map_append, List.map_cons]
      have hl1 : ((pre.flatMap encC).map V.int).length = (pre.flatMap encC).length := List.length_map ..
      have at0 : (ns.map V.int)[(pre.flatMap encC).length]? = some (V.int pn0) := by
        rw [emap, List.getElem?_append_right (by rw [hl1]; exact Nat.le_refl _), hl1, Nat.sub_self]
        rfl
      have at1 : (ns.map V.int)[(pre.flatMap encC).length + 1]? = some (V.int (ns'.length : Int)) := by
        rw [emap, List.getElem?_append_right (by rw [hl1]; omega), hl1, Nat.add_sub_cancel_left]
        rfl
      have hD := L.desk
      obtain ⟨⟨dx2, hp2⟩, _⟩ := id hD
      refine if_true_of (decide_eq_true (by rw [List.length_map]; omega)) ?_
      refine ⟨_, rfl, _, _, rfl, rfl, _, rfl, _, rfl, _, rfl, _, _, rfl, rfl, A, _, _, _, rfl, rfl, hS2, at_of (by omega) at1, _, _, rfl, rfl, ?_⟩
      refine ⟨_, rfl, p, _, _, rfl, hp2, rfl, _, rfl, _, rfl, A, _, _, _, rfl, rfl, hS2, atI_nat at0, _, rfl, _, rfl, _, rfl, _, rfl, _, rfl, A, _, rfl, hS2, fun r hr => ?_⟩
      obtain ⟨H3, e3⟩ : ∃ H3, upd H2 r (.lst (cutV (ns.map V.int) (some (((pre.flatMap encC).length : Int) + 2)) (some (((pre.flatMap encC).length : Int) + 2 + (ns'.length : Int))))) = H3 := ⟨_, rfl⟩
      have s3 : Same H2 H3 := by
        rw [← e3]
        exact same_new hr
      have L3 := L.keep s3
      have hr3 : H3 r = some (.lst (ns'.map V.int)) := by
        rw [← e3, upd_same, emap, ← hl1]
        have := cut_mid (u := (pre.flatMap encC).map V.int) (v := ns'.map V.int) (w := (0 :: rest.flatMap encC).map V.int) (x := V.int pn0) (y := V.int (ns'.length : Int))
        rw [List.length_map (as := ns')] at this
        rw [this]
      rw [e3]
      refine ⟨p, pc, pr, pn, r, after pre Si94Neutral.start, pn0, ns', q, rfl, hr3, hc1.kind, L3.desk, hg, fun H4 l A4 nl e4 => ?_⟩
      obtain ⟨pc', pr', pn', L4⟩ := L3.call A4
      have nlf : l ≠ f := fun z => by
        rw [z, L3.fl] at nl
        cases nl
      refine ⟨_, rfl, .inl ⟨rfl, _, SqL.of L4.fl⟩, _, rfl, l, _, rfl, .inl (SqL.of e4), f, _, _, rfl, rfl, L4.fl, by rw [List.length_map]; exact small7 (by omega), ?_⟩
      refine ⟨_, rfl, .inl ⟨rfl, _, SqL.of upd_same⟩, _, rfl, f, l, _, _, rfl, rfl, upd_same, (by rw [upd_ne nlf]; exact e4), small7' (by simp only [List.length_append, List.length_map, List.length_cons, List.length_nil]; omega), ?_⟩
      have L6 := (L4.put ((heard pre).map V.int ++ [V.int ((((Si94.step (after pre Si94Neutral.start) q).2.v :: (Si94.step (after pre Si94Neutral.start) q).2.l).map V.int).length : Nat)])).put
        (((heard pre).map V.int ++ [V.int ((((Si94.step (after pre Si94Neutral.start) q).2.v :: (Si94.step (after pre Si94Neutral.start) q).2.l).map V.int).length : Nat)]) ++ ((Si94.step (after pre Si94Neutral.start) q).2.v :: (Si94.step (after pre Si94Neutral.start) q).2.l).map V.int)
      have eat : ((((pre ++ [c]).flatMap encC).length : Nat) : Int) = ((pre.flatMap encC).length : Int) + 2 + (ns'.length : Int) + 1 := by
        rw [List.flatMap_append, List.flatMap_singleton, List.length_append, hc1.eq]
        show (((pre.flatMap encC).length + (pn0 :: (ns'.length : Int) :: (ns' ++ [0])).length : Nat) : Int) = _
        simp only [List.length_append, List.length_cons, List.length_nil]
        omega
      have eheard : (heard (pre ++ [c])).map V.int = (((heard pre).map V.int ++ [V.int ((((Si94.step (after pre Si94Neutral.start) q).2.v :: (Si94.step (after pre Si94Neutral.start) q).2.l).map V.int).length : Nat)]) ++ ((Si94.step (after pre Si94Neutral.start) q).2.v :: (Si94.step (after pre Si94Neutral.start) q).2.l).map V.int) := by
        rw [heard_snoc, hst, List.map_append, List.map_cons, List.append_assoc, List.length_map]
        rfl
      have eafter : after (pre ++ [c]) Si94Neutral.start = (Si94.step (after pre Si94Neutral.start) q).1 := by
        rw [after_snoc, hst]
      refine ⟨_, rfl, _, _, rfl, rfl, ⟨pre ++ [c], rest, some (.int (((pre.flatMap encC).length : Int) + 2)), some (.int (((pre.flatMap encC).length : Int) + 2 + (ns'.length : Int))), some (.ref l), pc', pr', pn', ?_, by rw [ecs]; simp, ?_⟩, ?_⟩
      · rw [show vI ((pre ++ [c]).flatMap encC).length = V.int (((pre.flatMap encC).length : Int) + 2 + (ns'.length : Int) + 1) from congrArg V.int eat]
        rfl
      · rw [eafter, eheard]
        exact L6
      · show ns.length - (((pre.flatMap encC).length : Int) + 2 + (ns'.length : Int) + 1).toNat < ns.length - ((pre.flatMap encC).length : Int).toNat
        omega
end
end RB
end
section
namespace RB
open PySem PySem.Spec PyProof.Rows L2
/-! ### the end -/
/-- an error of the class at S is what «except S» names -/
theorem exm_self {K : PySem.W.Frag} {S : Addr} (h1 : PySem.W.subIn K (.ref S) (.type "BaseException") = some true) (h2 : PySem.W.isClsIn K S = true) (h3 : PySem.W.typeIn K (.ref S) = some (.type "type")) (h4 : PySem.W.subIn K (.ref S) (.ref S) = some true) :
    PySem.W.exmOne K (.ref S) (.ref S) = some true := by
  have e1 : (PySem.W.subIn K (.ref S) (.type "BaseException") == some true) = true := by rw [h1] <;> rfl
  have e2 : ((PySem.W.clsIn K S).isSome && PySem.W.typeIn K (.ref S) == some (.type "type")) = true := by
    have h2' : (PySem.W.clsIn K S).isSome = true := h2
    rw [h2', h3] <;> rfl
  show (if (PySem.W.subIn K (.ref S) (.type "BaseException") == some true) = true then (if ((PySem.W.clsIn K S).isSome && PySem.W.typeIn K (.ref S) == some (.type "type")) = true then PySem.W.subIn K (.ref S) (.ref S) else none) else none) = some true
  rw [if_pos e1, if_pos e2]
  exact h4
theorem all_mk {P : Program} {w : World} {K : PySem.W.Frag} {h : Heap} {mg : Str → Option Value} {fa cCh cSe cRe cDe : Addr} (X : K.In h) (G : h.Ns mainGlobals mg) (hfa : mg "answers" = some (.ref fa))
    {x1 x2 x3 x4 x5 x6 x11 x12 x13 x14 x9 x10 x21 x22 x23 x24 x25 x26 x27 x28 x29 x31 x32 x33 x41 x42 x43 x51 x52 x53 x54 x55 x56 x57 x58 x59 x60 x61 : Addr}
    {od1 an1 od2 an2 od3 an3 od4 an4 od5 an5 od6 an6 od11 an11 od12 an12 od13 an13 od14 an14 od9 an9 od10 an10 od21 an21 od22 an22 od23 an23 od24 an24 od25 an25 od26 an26 od27 an27 od28 an28 od29 an29 od31 an31 od32 an32 od33 an33 od41 an41 od42 an42 od43 an43 od51 an51 od52 an52 od53 an53 od54 an54 od55 an55 od56 an56 od57 an57 od58 an58 od59 an59 od60 an60 od61 an61 : Option Addr} {sl1 sl2 sl3 sl4 sl5 sl6 sl11 sl12 sl13 sl14 sl9 sl10 sl21 sl22 sl23 sl24 sl25 sl26 sl27 sl28 sl29 sl31 sl32 sl33 sl41 sl42 sl43 sl51 sl52 sl53 sl54 sl55 sl56 sl57 sl58 sl59 sl60 sl61 : Array (Option Value)}
    {oc1 kV1 dc1 pm1 cd1 ct1 oc2 kV2 dc2 pm2 cd2 ct2 oc3 kV3 dc3 pm3 cd3 ct3 oc4 kV4 dc4 pm4 cd4 ct4 oc5 kV5 dc5 pm5 cd5 ct5 oc6 kV6 dc6 pm6 cd6 ct6 oc11 kV11 dc11 pm11 cd11 ct11 oc12 kV12 dc12 pm12 cd12 ct12 oc13 kV13 dc13 pm13 cd13 ct13 oc14 kV14 dc14 pm14 cd14 ct14 oc9 kV9 dc9 pm9 cd9 ct9 oc10 kV10 dc10 pm10 cd10 ct10 oc21 kV21 dc21 pm21 cd21 ct21 oc22 kV22 dc22 pm22 cd22 ct22 oc23 kV23 dc23 pm23 cd23 ct23 oc24 kV24 dc24 pm24 cd24 ct24 oc25 kV25 dc25 pm25 cd25 ct25 oc26 kV26 dc26 pm26 cd26 ct26 oc27 kV27 dc27 pm27 cd27 ct27 oc28 kV28 dc28 pm28 cd28 ct28 oc29 kV29 dc29 pm29 cd29 ct29 oc31 kV31 dc31 pm31 cd31 ct31 oc32 kV32 dc32 pm32 cd32 ct32 oc33 kV33 dc33 pm33 cd33 ct33 oc41 kV41 dc41 pm41 cd41 ct41 oc42 kV42 dc42 pm42 cd42 ct42 oc43 kV43 dc43 pm43 cd43 ct43 oc51 kV51 dc51 pm51 cd51 ct51 oc52 kV52 dc52 pm52 cd52 ct52 oc53 kV53 dc53 pm53 cd53 ct53 oc54 kV54 dc54 pm54 cd54 ct54 oc55 kV55 dc55 pm55 cd55 ct55 oc56 kV56 dc56 pm56 cd56 ct56 oc57 kV57 dc57 pm57 cd57 ct57 oc58 kV58 dc58 pm58 cd58 ct58 oc59 kV59 dc59 pm59 cd59 ct59 oc60 kV60 dc60 pm60 cd60 ct60 oc61 kV61 dc61 pm61 cd61 ct61 : Value}
    {t_NOT_TOLD t_NO_PLACE t_BOTH_SAME t_FULL t_CANNOT_BE t_MOST_PLACES t_MOST_MINUTES t_MOST_ROADS t_MOST_NEWS : Tok}
    {nm q : Str} {NN : Addr} {bss : List Value} {sn : List Str} {sub : List Value} {ab : Bool} {col : Option Bool} {dd : Option Addr} {m0 m1 m2 m3 m5 : Option Value}
    (aCh : PySem.W.nsIn K mainGlobals "Chase" = some (some (.ref cCh)))
    (aSe : PySem.W.nsIn K mainGlobals "Search" = some (some (.ref cSe)))
    (aRe : PySem.W.nsIn K mainGlobals "Refused" = some (some (.ref cRe)))
    (aDe : PySem.W.nsIn K mainGlobals "Desk" = some (some (.ref cDe)))
    (a1 : PySem.W.nsIn K mainGlobals "standing" = some (some (.ref x1)))
    (l1 : K.lookup x1 = some ⟨oc1, od1, .func (PySem.W.fnOf "standing" "standing" (defArgs s1) (defBody s1) (defScope s1) .none kV1 dc1 pm1 an1 cd1 ct1), sl1⟩)
    (c1 : PySem.W.codeIn K cd1 "standing" = true)
    (k1 : PySem.W.keepIn K (.ref x1) = true)
    (a2 : PySem.W.nsIn K mainGlobals "lesser" = some (some (.ref x2)))
    (l2 : K.lookup x2 = some ⟨oc2, od2, .func (PySem.W.fnOf "lesser" "lesser" (defArgs s2) (defBody s2) (defScope s2) .none kV2 dc2 pm2 an2 cd2 ct2), sl2⟩)
    (c2 : PySem.W.codeIn K cd2 "lesser" = true)
    (k2 : PySem.W.keepIn K (.ref x2) = true)
    (a3 : PySem.W.nsIn K mainGlobals "together" = some (some (.ref x3)))
    (l3 : K.lookup x3 = some ⟨oc3, od3, .func (PySem.W.fnOf "together" "together" (defArgs s3) (defBody s3) (defScope s3) .none kV3 dc3 pm3 an3 cd3 ct3), sl3⟩)
    (c3 : PySem.W.codeIn K cd3 "together" = true)
    (k3 : PySem.W.keepIn K (.ref x3) = true)
    (a4 : PySem.W.nsIn K mainGlobals "by_roads" = some (some (.ref x4)))
    (l4 : K.lookup x4 = some ⟨oc4, od4, .func (PySem.W.fnOf "by_roads" "by_roads" (defArgs s4) (defBody s4) (defScope s4) .none kV4 dc4 pm4 an4 cd4 ct4), sl4⟩)
    (c4 : PySem.W.codeIn K cd4 "by_roads" = true)
    (k4 : PySem.W.keepIn K (.ref x4) = true)
    (a5 : PySem.W.nsIn K mainGlobals "by_way_of" = some (some (.ref x5)))
    (l5 : K.lookup x5 = some ⟨oc5, od5, .func (PySem.W.fnOf "by_way_of" "by_way_of" (defArgs s5) (defBody s5) (defScope s5) .none kV5 dc5 pm5 an5 cd5 ct5), sl5⟩)
    (c5 : PySem.W.codeIn K cd5 "by_way_of" = true)
    (k5 : PySem.W.keepIn K (.ref x5) = true)
    (a6 : PySem.W.nsIn K mainGlobals "drives_of" = some (some (.ref x6)))
    (l6 : K.lookup x6 = some ⟨oc6, od6, .func (PySem.W.fnOf "drives_of" "drives_of" (defArgs s6) (defBody s6) (defScope s6) .none kV6 dc6 pm6 an6 cd6 ct6), sl6⟩)
    (c6 : PySem.W.codeIn K cd6 "drives_of" = true)
    (k6 : PySem.W.keepIn K (.ref x6) = true)
    (a11 : PySem.W.findIn K (.ref cCh) "__init__" = some (some (.ref x11)))
    (i11 : PySem.W.isFn K (.ref x11) = true)
    (l11 : K.lookup x11 = some ⟨oc11, od11, .func (PySem.W.fnOf "__init__" "Chase.__init__" (defArgs s11) (defBody s11) (defScope s11) .none kV11 dc11 pm11 an11 cd11 ct11), sl11⟩)
    (c11 : PySem.W.codeIn K cd11 "Chase.__init__" = true)
    (k11 : PySem.W.keepIn K (.ref x11) = true)
    (a12 : PySem.W.findIn K (.ref cCh) "has" = some (some (.ref x12)))
    (i12 : PySem.W.isFn K (.ref x12) = true)
    (l12 : K.lookup x12 = some ⟨oc12, od12, .func (PySem.W.fnOf "has" "Chase.has" (defArgs s12) (defBody s12) (defScope s12) .none kV12 dc12 pm12 an12 cd12 ct12), sl12⟩)
    (c12 : PySem.W.codeIn K cd12 "Chase.has" = true)
    (k12 : PySem.W.keepIn K (.ref x12) = true)
    (a13 : PySem.W.findIn K (.ref cCh) "table" = some (some (.ref x13)))
    (i13 : PySem.W.isFn K (.ref x13) = true)
    (l13 : K.lookup x13 = some ⟨oc13, od13, .func (PySem.W.fnOf "table" "Chase.table" (defArgs s13) (defBody s13) (defScope s13) .none kV13 dc13 pm13 an13 cd13 ct13), sl13⟩)
    (c13 : PySem.W.codeIn K cd13 "Chase.table" = true)
    (k13 : PySem.W.keepIn K (.ref x13) = true)
    (a14 : PySem.W.findIn K (.ref cCh) "least_minute" = some (some (.ref x14)))
    (i14 : PySem.W.isFn K (.ref x14) = true)
    (l14 : K.lookup x14 = some ⟨oc14, od14, .func (PySem.W.fnOf "least_minute" "Chase.least_minute" (defArgs s14) (defBody s14) (defScope s14) .none kV14 dc14 pm14 an14 cd14 ct14), sl14⟩)
    (c14 : PySem.W.codeIn K cd14 "Chase.least_minute" = true)
    (k14 : PySem.W.keepIn K (.ref x14) = true)
    (a9 : PySem.W.nsIn K mainGlobals "members" = some (some (.ref x9)))
    (l9 : K.lookup x9 = some ⟨oc9, od9, .func (PySem.W.fnOf "members" "members" (defArgs s9) (defBody s9) (defScope s9) .none kV9 dc9 pm9 an9 cd9 ct9), sl9⟩)
    (c9 : PySem.W.codeIn K cd9 "members" = true)
    (k9 : PySem.W.keepIn K (.ref x9) = true)
    (a10 : PySem.W.nsIn K mainGlobals "parted" = some (some (.ref x10)))
    (l10 : K.lookup x10 = some ⟨oc10, od10, .func (PySem.W.fnOf "parted" "parted" (defArgs s10) (defBody s10) (defScope s10) .none kV10 dc10 pm10 an10 cd10 ct10), sl10⟩)
    (c10 : PySem.W.codeIn K cd10 "parted" = true)
    (k10 : PySem.W.keepIn K (.ref x10) = true)
    (a21 : PySem.W.findIn K (.ref cSe) "__init__" = some (some (.ref x21)))
    (i21 : PySem.W.isFn K (.ref x21) = true)
    (l21 : K.lookup x21 = some ⟨oc21, od21, .func (PySem.W.fnOf "__init__" "Search.__init__" (defArgs s21) (defBody s21) (defScope s21) .none kV21 dc21 pm21 an21 cd21 ct21), sl21⟩)
    (c21 : PySem.W.codeIn K cd21 "Search.__init__" = true)
    (k21 : PySem.W.keepIn K (.ref x21) = true)
    (a22 : PySem.W.findIn K (.ref cSe) "in_time" = some (some (.ref x22)))
    (i22 : PySem.W.isFn K (.ref x22) = true)
    (l22 : K.lookup x22 = some ⟨oc22, od22, .func (PySem.W.fnOf "in_time" "Search.in_time" (defArgs s22) (defBody s22) (defScope s22) .none kV22 dc22 pm22 an22 cd22 ct22), sl22⟩)
    (c22 : PySem.W.codeIn K cd22 "Search.in_time" = true)
    (k22 : PySem.W.keepIn K (.ref x22) = true)
    (a23 : PySem.W.findIn K (.ref cSe) "late_from" = some (some (.ref x23)))
    (i23 : PySem.W.isFn K (.ref x23) = true)
    (l23 : K.lookup x23 = some ⟨oc23, od23, .func (PySem.W.fnOf "late_from" "Search.late_from" (defArgs s23) (defBody s23) (defScope s23) .none kV23 dc23 pm23 an23 cd23 ct23), sl23⟩)
    (c23 : PySem.W.codeIn K cd23 "Search.late_from" = true)
    (k23 : PySem.W.keepIn K (.ref x23) = true)
    (a24 : PySem.W.findIn K (.ref cSe) "last_choices" = some (some (.ref x24)))
    (i24 : PySem.W.isFn K (.ref x24) = true)
    (l24 : K.lookup x24 = some ⟨oc24, od24, .func (PySem.W.fnOf "last_choices" "Search.last_choices" (defArgs s24) (defBody s24) (defScope s24) .none kV24 dc24 pm24 an24 cd24 ct24), sl24⟩)
    (c24 : PySem.W.codeIn K cd24 "Search.last_choices" = true)
    (k24 : PySem.W.keepIn K (.ref x24) = true)
    (a25 : PySem.W.findIn K (.ref cSe) "late_behind" = some (some (.ref x25)))
    (i25 : PySem.W.isFn K (.ref x25) = true)
    (l25 : K.lookup x25 = some ⟨oc25, od25, .func (PySem.W.fnOf "late_behind" "Search.late_behind" (defArgs s25) (defBody s25) (defScope s25) .none kV25 dc25 pm25 an25 cd25 ct25), sl25⟩)
    (c25 : PySem.W.codeIn K cd25 "Search.late_behind" = true)
    (k25 : PySem.W.keepIn K (.ref x25) = true)
    (a26 : PySem.W.findIn K (.ref cSe) "news_choices" = some (some (.ref x26)))
    (i26 : PySem.W.isFn K (.ref x26) = true)
    (l26 : K.lookup x26 = some ⟨oc26, od26, .func (PySem.W.fnOf "news_choices" "Search.news_choices" (defArgs s26) (defBody s26) (defScope s26) .none kV26 dc26 pm26 an26 cd26 ct26), sl26⟩)
    (c26 : PySem.W.codeIn K cd26 "Search.news_choices" = true)
    (k26 : PySem.W.keepIn K (.ref x26) = true)
    (a27 : PySem.W.findIn K (.ref cSe) "since" = some (some (.ref x27)))
    (i27 : PySem.W.isFn K (.ref x27) = true)
    (l27 : K.lookup x27 = some ⟨oc27, od27, .func (PySem.W.fnOf "since" "Search.since" (defArgs s27) (defBody s27) (defScope s27) .none kV27 dc27 pm27 an27 cd27 ct27), sl27⟩)
    (c27 : PySem.W.codeIn K cd27 "Search.since" = true)
    (k27 : PySem.W.keepIn K (.ref x27) = true)
    (a28 : PySem.W.findIn K (.ref cSe) "choices" = some (some (.ref x28)))
    (i28 : PySem.W.isFn K (.ref x28) = true)
    (l28 : K.lookup x28 = some ⟨oc28, od28, .func (PySem.W.fnOf "choices" "Search.choices" (defArgs s28) (defBody s28) (defScope s28) .none kV28 dc28 pm28 an28 cd28 ct28), sl28⟩)
    (c28 : PySem.W.codeIn K cd28 "Search.choices" = true)
    (k28 : PySem.W.keepIn K (.ref x28) = true)
    (a29 : PySem.W.findIn K (.ref cSe) "least" = some (some (.ref x29)))
    (i29 : PySem.W.isFn K (.ref x29) = true)
    (l29 : K.lookup x29 = some ⟨oc29, od29, .func (PySem.W.fnOf "least" "Search.least" (defArgs s29) (defBody s29) (defScope s29) .none kV29 dc29 pm29 an29 cd29 ct29), sl29⟩)
    (c29 : PySem.W.codeIn K cd29 "Search.least" = true)
    (k29 : PySem.W.keepIn K (.ref x29) = true)
    (a31 : PySem.W.nsIn K mainGlobals "first_choice" = some (some (.ref x31)))
    (l31 : K.lookup x31 = some ⟨oc31, od31, .func (PySem.W.fnOf "first_choice" "first_choice" (defArgs s31) (defBody s31) (defScope s31) .none kV31 dc31 pm31 an31 cd31 ct31), sl31⟩)
    (c31 : PySem.W.codeIn K cd31 "first_choice" = true)
    (k31 : PySem.W.keepIn K (.ref x31) = true)
    (a32 : PySem.W.nsIn K mainGlobals "least_without_news" = some (some (.ref x32)))
    (l32 : K.lookup x32 = some ⟨oc32, od32, .func (PySem.W.fnOf "least_without_news" "least_without_news" (defArgs s32) (defBody s32) (defScope s32) .none kV32 dc32 pm32 an32 cd32 ct32), sl32⟩)
    (c32 : PySem.W.codeIn K cd32 "least_without_news" = true)
    (k32 : PySem.W.keepIn K (.ref x32) = true)
    (a33 : PySem.W.nsIn K mainGlobals "least_when_known" = some (some (.ref x33)))
    (l33 : K.lookup x33 = some ⟨oc33, od33, .func (PySem.W.fnOf "least_when_known" "least_when_known" (defArgs s33) (defBody s33) (defScope s33) .none kV33 dc33 pm33 an33 cd33 ct33), sl33⟩)
    (c33 : PySem.W.codeIn K cd33 "least_when_known" = true)
    (k33 : PySem.W.keepIn K (.ref x33) = true)
    (a41 : PySem.W.findIn K (.ref cRe) "__init__" = some (some (.ref x41)))
    (l41 : K.lookup x41 = some ⟨oc41, od41, .func (PySem.W.fnOf "__init__" "Refused.__init__" (defArgs s41) (defBody s41) (defScope s41) .none kV41 dc41 pm41 an41 cd41 ct41), sl41⟩)
    (c41 : PySem.W.codeIn K cd41 "Refused.__init__" = true)
    (k41 : PySem.W.keepIn K (.ref x41) = true)
    (a42 : PySem.W.nsIn K mainGlobals "want" = some (some (.ref x42)))
    (l42 : K.lookup x42 = some ⟨oc42, od42, .func (PySem.W.fnOf "want" "want" (defArgs s42) (defBody s42) (defScope s42) .none kV42 dc42 pm42 an42 cd42 ct42), sl42⟩)
    (c42 : PySem.W.codeIn K cd42 "want" = true)
    (k42 : PySem.W.keepIn K (.ref x42) = true)
    (a43 : PySem.W.nsIn K mainGlobals "wanted" = some (some (.ref x43)))
    (l43 : K.lookup x43 = some ⟨oc43, od43, .func (PySem.W.fnOf "wanted" "wanted" (defArgs s43) (defBody s43) (defScope s43) .none kV43 dc43 pm43 an43 cd43 ct43), sl43⟩)
    (c43 : PySem.W.codeIn K cd43 "wanted" = true)
    (k43 : PySem.W.keepIn K (.ref x43) = true)
    (a51 : PySem.W.findIn K (.ref cDe) "__init__" = some (some (.ref x51)))
    (i51 : PySem.W.isFn K (.ref x51) = true)
    (l51 : K.lookup x51 = some ⟨oc51, od51, .func (PySem.W.fnOf "__init__" "Desk.__init__" (defArgs s51) (defBody s51) (defScope s51) .none kV51 dc51 pm51 an51 cd51 ct51), sl51⟩)
    (c51 : PySem.W.codeIn K cd51 "Desk.__init__" = true)
    (k51 : PySem.W.keepIn K (.ref x51) = true)
    (a52 : PySem.W.findIn K (.ref cDe) "want_places" = some (some (.ref x52)))
    (i52 : PySem.W.isFn K (.ref x52) = true)
    (l52 : K.lookup x52 = some ⟨oc52, od52, .func (PySem.W.fnOf "want_places" "Desk.want_places" (defArgs s52) (defBody s52) (defScope s52) .none kV52 dc52 pm52 an52 cd52 ct52), sl52⟩)
    (c52 : PySem.W.codeIn K cd52 "Desk.want_places" = true)
    (k52 : PySem.W.keepIn K (.ref x52) = true)
    (a53 : PySem.W.findIn K (.ref cDe) "call_begins" = some (some (.ref x53)))
    (i53 : PySem.W.isFn K (.ref x53) = true)
    (l53 : K.lookup x53 = some ⟨oc53, od53, .func (PySem.W.fnOf "call_begins" "Desk.call_begins" (defArgs s53) (defBody s53) (defScope s53) .none kV53 dc53 pm53 an53 cd53 ct53), sl53⟩)
    (c53 : PySem.W.codeIn K cd53 "Desk.call_begins" = true)
    (k53 : PySem.W.keepIn K (.ref x53) = true)
    (a54 : PySem.W.findIn K (.ref cDe) "call_road" = some (some (.ref x54)))
    (i54 : PySem.W.isFn K (.ref x54) = true)
    (l54 : K.lookup x54 = some ⟨oc54, od54, .func (PySem.W.fnOf "call_road" "Desk.call_road" (defArgs s54) (defBody s54) (defScope s54) .none kV54 dc54 pm54 an54 cd54 ct54), sl54⟩)
    (c54 : PySem.W.codeIn K cd54 "Desk.call_road" = true)
    (k54 : PySem.W.keepIn K (.ref x54) = true)
    (a55 : PySem.W.findIn K (.ref cDe) "call_may" = some (some (.ref x55)))
    (i55 : PySem.W.isFn K (.ref x55) = true)
    (l55 : K.lookup x55 = some ⟨oc55, od55, .func (PySem.W.fnOf "call_may" "Desk.call_may" (defArgs s55) (defBody s55) (defScope s55) .none kV55 dc55 pm55 an55 cd55 ct55), sl55⟩)
    (c55 : PySem.W.codeIn K cd55 "Desk.call_may" = true)
    (k55 : PySem.W.keepIn K (.ref x55) = true)
    (a56 : PySem.W.findIn K (.ref cDe) "call_news" = some (some (.ref x56)))
    (i56 : PySem.W.isFn K (.ref x56) = true)
    (l56 : K.lookup x56 = some ⟨oc56, od56, .func (PySem.W.fnOf "call_news" "Desk.call_news" (defArgs s56) (defBody s56) (defScope s56) .none kV56 dc56 pm56 an56 cd56 ct56), sl56⟩)
    (c56 : PySem.W.codeIn K cd56 "Desk.call_news" = true)
    (k56 : PySem.W.keepIn K (.ref x56) = true)
    (a57 : PySem.W.findIn K (.ref cDe) "call_far" = some (some (.ref x57)))
    (i57 : PySem.W.isFn K (.ref x57) = true)
    (l57 : K.lookup x57 = some ⟨oc57, od57, .func (PySem.W.fnOf "call_far" "Desk.call_far" (defArgs s57) (defBody s57) (defScope s57) .none kV57 dc57 pm57 an57 cd57 ct57), sl57⟩)
    (c57 : PySem.W.codeIn K cd57 "Desk.call_far" = true)
    (k57 : PySem.W.keepIn K (.ref x57) = true)
    (a58 : PySem.W.findIn K (.ref cDe) "call_worst" = some (some (.ref x58)))
    (i58 : PySem.W.isFn K (.ref x58) = true)
    (l58 : K.lookup x58 = some ⟨oc58, od58, .func (PySem.W.fnOf "call_worst" "Desk.call_worst" (defArgs s58) (defBody s58) (defScope s58) .none kV58 dc58 pm58 an58 cd58 ct58), sl58⟩)
    (c58 : PySem.W.codeIn K cd58 "Desk.call_worst" = true)
    (k58 : PySem.W.keepIn K (.ref x58) = true)
    (a59 : PySem.W.findIn K (.ref cDe) "called" = some (some (.ref x59)))
    (i59 : PySem.W.isFn K (.ref x59) = true)
    (l59 : K.lookup x59 = some ⟨oc59, od59, .func (PySem.W.fnOf "called" "Desk.called" (defArgs s59) (defBody s59) (defScope s59) .none kV59 dc59 pm59 an59 cd59 ct59), sl59⟩)
    (c59 : PySem.W.codeIn K cd59 "Desk.called" = true)
    (k59 : PySem.W.keepIn K (.ref x59) = true)
    (a60 : PySem.W.findIn K (.ref cDe) "answered" = some (some (.ref x60)))
    (i60 : PySem.W.isFn K (.ref x60) = true)
    (l60 : K.lookup x60 = some ⟨oc60, od60, .func (PySem.W.fnOf "answered" "Desk.answered" (defArgs s60) (defBody s60) (defScope s60) .none kV60 dc60 pm60 an60 cd60 ct60), sl60⟩)
    (c60 : PySem.W.codeIn K cd60 "Desk.answered" = true)
    (k60 : PySem.W.keepIn K (.ref x60) = true)
    (a61 : PySem.W.nsIn K mainGlobals "answers" = some (some (.ref x61)))
    (l61 : K.lookup x61 = some ⟨oc61, od61, .func (PySem.W.fnOf "answers" "answers" (defArgs s61) (defBody s61) (defScope s61) .none kV61 dc61 pm61 an61 cd61 ct61), sl61⟩)
    (c61 : PySem.W.codeIn K cd61 "answers" = true)
    (k61 : PySem.W.keepIn K (.ref x61) = true)
    (pgCh : PySem.W.plainGet K cCh Str.empty = true)
    (hdCh : PySem.W.hasDictIn K cCh = true)
    (poCh : PySem.W.plainOver K cCh = true)
    (saCh : PySem.W.findIn K (.ref cCh) "__setattr__" = some (some (.builtin "object.__setattr__")))
    (mkCh : PySem.W.makesIn K cCh = true)
    (kcCh : PySem.W.keepIn K (.ref cCh) = true)
    (nCh_places : PySem.W.findIn K (.ref cCh) "places" = some none)
    (nCh_car : PySem.W.findIn K (.ref cCh) "car" = some none)
    (nCh_minute : PySem.W.findIn K (.ref cCh) "minute" = some none)
    (nCh_roads : PySem.W.findIn K (.ref cCh) "roads" = some none)
    (nCh_may : PySem.W.findIn K (.ref cCh) "may" = some none)
    (nCh_news : PySem.W.findIn K (.ref cCh) "news" = some none)
    (pgSe : PySem.W.plainGet K cSe Str.empty = true)
    (hdSe : PySem.W.hasDictIn K cSe = true)
    (poSe : PySem.W.plainOver K cSe = true)
    (saSe : PySem.W.findIn K (.ref cSe) "__setattr__" = some (some (.builtin "object.__setattr__")))
    (mkSe : PySem.W.makesIn K cSe = true)
    (kcSe : PySem.W.keepIn K (.ref cSe) = true)
    (nSe_chase : PySem.W.findIn K (.ref cSe) "chase" = some none)
    (nSe_drives : PySem.W.findIn K (.ref cSe) "drives" = some none)
    (nSe_found : PySem.W.findIn K (.ref cSe) "found" = some none)
    (pgDe : PySem.W.plainGet K cDe Str.empty = true)
    (hdDe : PySem.W.hasDictIn K cDe = true)
    (poDe : PySem.W.plainOver K cDe = true)
    (saDe : PySem.W.findIn K (.ref cDe) "__setattr__" = some (some (.builtin "object.__setattr__")))
    (mkDe : PySem.W.makesIn K cDe = true)
    (kcDe : PySem.W.keepIn K (.ref cDe) = true)
    (nDe_own : PySem.W.findIn K (.ref cDe) "own" = some none)
    (z_range : PySem.W.nsIn K mainGlobals "range" = some none)
    (z_len : PySem.W.nsIn K mainGlobals "len" = some none)
    (z_int : PySem.W.nsIn K mainGlobals "int" = some none)
    (z_list : PySem.W.nsIn K mainGlobals "list" = some none)
    (z_max : PySem.W.nsIn K mainGlobals "max" = some none)
    (z_min : PySem.W.nsIn K mainGlobals "min" = some none)
    (z_tuple : PySem.W.nsIn K mainGlobals "tuple" = some none)
    (z_ValueError : PySem.W.nsIn K mainGlobals "ValueError" = some none)
    (v_NOT_TOLD : PySem.W.nsIn K mainGlobals "NOT_TOLD" = some (some (.int (-1) t_NOT_TOLD)))
    (v_NO_PLACE : PySem.W.nsIn K mainGlobals "NO_PLACE" = some (some (.int (-2) t_NO_PLACE)))
    (v_BOTH_SAME : PySem.W.nsIn K mainGlobals "BOTH_SAME" = some (some (.int (-4) t_BOTH_SAME)))
    (v_FULL : PySem.W.nsIn K mainGlobals "FULL" = some (some (.int (-5) t_FULL)))
    (v_CANNOT_BE : PySem.W.nsIn K mainGlobals "CANNOT_BE" = some (some (.int (-6) t_CANNOT_BE)))
    (v_MOST_PLACES : PySem.W.nsIn K mainGlobals "MOST_PLACES" = some (some (.int (6) t_MOST_PLACES)))
    (v_MOST_MINUTES : PySem.W.nsIn K mainGlobals "MOST_MINUTES" = some (some (.int (1000) t_MOST_MINUTES)))
    (v_MOST_ROADS : PySem.W.nsIn K mainGlobals "MOST_ROADS" = some (some (.int (12) t_MOST_ROADS)))
    (v_MOST_NEWS : PySem.W.nsIn K mainGlobals "MOST_NEWS" = some (some (.int (3) t_MOST_NEWS)))
    (xL : K.lookup cRe = some (excClassObj nm q cRe NN bss [.type "ValueError", .type "Exception", .type "BaseException", .type "object"] true sn sub ab col dd m0 m1 m2 m3 m5 "ValueError.__new__"))
    (saR : PySem.W.findIn K (.ref cRe) "__setattr__" = some (some (.builtin "object.__setattr__")))
    (gaR : PySem.W.findIn K (.ref cRe) "__getattribute__" = some (some (.builtin "BaseException.__getattribute__")))
    (ggR : PySem.W.findIn K (.ref cRe) "__getattr__" = some none)
    (nbR : PySem.W.findIn K (.ref cRe) "told" = some none)
    (tI : PySem.W.typeIn K (.ref x41) = some (.type "function"))
    (kcR : PySem.W.keepIn K (.ref cRe) = true)
    (eR : PySem.W.subIn K (.ref cRe) (.type "BaseException") = some true)
    (tR : PySem.W.typeIn K (.ref cRe) = some (.type "type"))
    (hR : PySem.W.hasDictIn K cRe = true)
    (iR : PySem.W.isClsIn K cRe = true)
    (sR : PySem.W.subIn K (.ref cRe) (.ref cRe) = some true)
    (vR : PySem.W.findCls K (.type "ValueError") (.type "type") "__init__" = some (.val (.builtin "ValueError.__init__")))
    : ∃ fd : FuncData, (∀ (s : Shared) (us : List Value), us.length = (["calls"] : List Str).length → BindsTo s fd ⟨us, []⟩ ((["calls"] : List Str).zip us)) ∧ ∀ base : Heap, K.In base → base.Ns mainGlobals mg → FnOk P w K mg base CX0 21 fa fd ["calls"] (spAns K) := by
  have e : fa = x61 := by
    have q := Option.some.inj (hfa.symm.trans (PySem.W.mg_of X G a61))
    injection q
  rw [e]
  have T : Txt K mg ⟨fun n => [x61, x1, x2, x3, x4, x5, x6, x61, x61, x9, x10, x11, x12, x13, x14, x61, x61, x61, x61, x61, x61, x21, x22, x23, x24, x25, x26, x27, x28, x29, x61, x31, x32, x33, x61, x61, x61, x61, x61, x61, x61, x41, x42, x43, x61, x61, x61, x61, x61, x61, x61, x51, x52, x53, x54, x55, x56, x57, x58, x59, x60, x61].getD n x61, fun n => [PySem.W.fnOf "answers" "answers" (defArgs s61) (defBody s61) (defScope s61) .none kV61 dc61 pm61 an61 cd61 ct61, PySem.W.fnOf "standing" "standing" (defArgs s1) (defBody s1) (defScope s1) .none kV1 dc1 pm1 an1 cd1 ct1, PySem.W.fnOf "lesser" "lesser" (defArgs s2) (defBody s2) (defScope s2) .none kV2 dc2 pm2 an2 cd2 ct2, PySem.W.fnOf "together" "together" (defArgs s3) (defBody s3) (defScope s3) .none kV3 dc3 pm3 an3 cd3 ct3, PySem.W.fnOf "by_roads" "by_roads" (defArgs s4) (defBody s4) (defScope s4) .none kV4 dc4 pm4 an4 cd4 ct4, PySem.W.fnOf "by_way_of" "by_way_of" (defArgs s5) (defBody s5) (defScope s5) .none kV5 dc5 pm5 an5 cd5 ct5, PySem.W.fnOf "drives_of" "drives_of" (defArgs s6) (defBody s6) (defScope s6) .none kV6 dc6 pm6 an6 cd6 ct6, PySem.W.fnOf "answers" "answers" (defArgs s61) (defBody s61) (defScope s61) .none kV61 dc61 pm61 an61 cd61 ct61, PySem.W.fnOf "answers" "answers" (defArgs s61) (defBody s61) (defScope s61) .none kV61 dc61 pm61 an61 cd61 ct61, PySem.W.fnOf "members" "members" (defArgs s9) (defBody s9) (defScope s9) .none kV9 dc9 pm9 an9 cd9 ct9, PySem.W.fnOf "parted" "parted" (defArgs s10) (defBody s10) (defScope s10) .none kV10 dc10 pm10 an10 cd10 ct10, PySem.W.fnOf "__init__" "Chase.__init__" (defArgs s11) (defBody s11) (defScope s11) .none kV11 dc11 pm11 an11 cd11 ct11, PySem.W.fnOf "has" "Chase.has" (defArgs s12) (defBody s12) (defScope s12) .none kV12 dc12 pm12 an12 cd12 ct12, PySem.W.fnOf "table" "Chase.table" (defArgs s13) (defBody s13) (defScope s13) .none kV13 dc13 pm13 an13 cd13 ct13, PySem.W.fnOf "least_minute" "Chase.least_minute" (defArgs s14) (defBody s14) (defScope s14) .none kV14 dc14 pm14 an14 cd14 ct14, PySem.W.fnOf "answers" "answers" (defArgs s61) (defBody s61) (defScope s61) .none kV61 dc61 pm61 an61 cd61 ct61, PySem.W.fnOf "answers" "answers" (defArgs s61) (defBody s61) (defScope s61) .none kV61 dc61 pm61 an61 cd61 ct61, PySem.W.fnOf "answers" "answers" (defArgs s61) (defBody s61) (defScope s61) .none kV61 dc61 pm61 an61 cd61 ct61, PySem.W.fnOf "answers" "answers" (defArgs s61) (defBody s61) (defScope s61) .none kV61 dc61 pm61 an61 cd61 ct61, PySem.W.fnOf "answers" "answers" (defArgs s61) (defBody s61) (defScope s61) .none kV61 dc61 pm61 an61 cd61 ct61, PySem.W.fnOf "answers" "answers" (defArgs s61) (defBody s61) (defScope s61) .none kV61 dc61 pm61 an61 cd61 ct61, PySem.W.fnOf "__init__" "Search.__init__" (defArgs s21) (defBody s21) (defScope s21) .none kV21 dc21 pm21 an21 cd21 ct21, PySem.W.fnOf "in_time" "Search.in_time" (defArgs s22) (defBody s22) (defScope s22) .none kV22 dc22 pm22 an22 cd22 ct22, PySem.W.fnOf "late_from" "Search.late_from" (defArgs s23) (defBody s23) (defScope s23) .none kV23 dc23 pm23 an23 cd23 ct23, PySem.W.fnOf "last_choices" "Search.last_choices" (defArgs s24) (defBody s24) (defScope s24) .none kV24 dc24 pm24 an24 cd24 ct24, PySem.W.fnOf "late_behind" "Search.late_behind" (defArgs s25) (defBody s25) (defScope s25) .none kV25 dc25 pm25 an25 cd25 ct25, PySem.W.fnOf "news_choices" "Search.news_choices" (defArgs s26) (defBody s26) (defScope s26) .none kV26 dc26 pm26 an26 cd26 ct26, PySem.W.fnOf "since" "Search.since" (defArgs s27) (defBody s27) (defScope s27) .none kV27 dc27 pm27 an27 cd27 ct27, PySem.W.fnOf "choices" "Search.choices" (defArgs s28) (defBody s28) (defScope s28) .none kV28 dc28 pm28 an28 cd28 ct28, PySem.W.fnOf "least" "Search.least" (defArgs s29) (defBody s29) (defScope s29) .none kV29 dc29 pm29 an29 cd29 ct29, PySem.W.fnOf "answers" "answers" (defArgs s61) (defBody s61) (defScope s61) .none kV61 dc61 pm61 an61 cd61 ct61, PySem.W.fnOf "first_choice" "first_choice" (defArgs s31) (defBody s31) (defScope s31) .none kV31 dc31 pm31 an31 cd31 ct31, PySem.W.fnOf "least_without_news" "least_without_news" (defArgs s32) (defBody s32) (defScope s32) .none kV32 dc32 pm32 an32 cd32 ct32, PySem.W.fnOf "least_when_known" "least_when_known" (defArgs s33) (defBody s33) (defScope s33) .none kV33 dc33 pm33 an33 cd33 ct33, PySem.W.fnOf "answers" "answers" (defArgs s61) (defBody s61) (defScope s61) .none kV61 dc61 pm61 an61 cd61 ct61, PySem.W.fnOf "answers" "answers" (defArgs s61) (defBody s61) (defScope s61) .none kV61 dc61 pm61 an61 cd61 ct61, PySem.W.fnOf "answers" "answers" (defArgs s61) (defBody s61) (defScope s61) .none kV61 dc61 pm61 an61 cd61 ct61, PySem.W.fnOf "answers" "answers" (defArgs s61) (defBody s61) (defScope s61) .none kV61 dc61 pm61 an61 cd61 ct61, PySem.W.fnOf "answers" "answers" (defArgs s61) (defBody s61) (defScope s61) .none kV61 dc61 pm61 an61 cd61 ct61, PySem.W.fnOf "answers" "answers" (defArgs s61) (defBody s61) (defScope s61) .none kV61 dc61 pm61 an61 cd61 ct61, PySem.W.fnOf "answers" "answers" (defArgs s61) (defBody s61) (defScope s61) .none kV61 dc61 pm61 an61 cd61 ct61, PySem.W.fnOf "__init__" "Refused.__init__" (defArgs s41) (defBody s41) (defScope s41) .none kV41 dc41 pm41 an41 cd41 ct41, PySem.W.fnOf "want" "want" (defArgs s42) (defBody s42) (defScope s42) .none kV42 dc42 pm42 an42 cd42 ct42, PySem.W.fnOf "wanted" "wanted" (defArgs s43) (defBody s43) (defScope s43) .none kV43 dc43 pm43 an43 cd43 ct43, PySem.W.fnOf "answers" "answers" (defArgs s61) (defBody s61) (defScope s61) .none kV61 dc61 pm61 an61 cd61 ct61, PySem.W.fnOf "answers" "answers" (defArgs s61) (defBody s61) (defScope s61) .none kV61 dc61 pm61 an61 cd61 ct61, PySem.W.fnOf "answers" "answers" (defArgs s61) (defBody s61) (defScope s61) .none kV61 dc61 pm61 an61 cd61 ct61, PySem.W.fnOf "answers" "answers" (defArgs s61) (defBody s61) (defScope s61) .none kV61 dc61 pm61 an61 cd61 ct61, PySem.W.fnOf "answers" "answers" (defArgs s61) (defBody s61) (defScope s61) .none kV61 dc61 pm61 an61 cd61 ct61, PySem.W.fnOf "answers" "answers" (defArgs s61) (defBody s61) (defScope s61) .none kV61 dc61 pm61 an61 cd61 ct61, PySem.W.fnOf "answers" "answers" (defArgs s61) (defBody s61) (defScope s61) .none kV61 dc61 pm61 an61 cd61 ct61, PySem.W.fnOf "__init__" "Desk.__init__" (defArgs s51) (defBody s51) (defScope s51) .none kV51 dc51 pm51 an51 cd51 ct51, PySem.W.fnOf "want_places" "Desk.want_places" (defArgs s52) (defBody s52) (defScope s52) .none kV52 dc52 pm52 an52 cd52 ct52, PySem.W.fnOf "call_begins" "Desk.call_begins" (defArgs s53) (defBody s53) (defScope s53) .none kV53 dc53 pm53 an53 cd53 ct53, PySem.W.fnOf "call_road" "Desk.call_road" (defArgs s54) (defBody s54) (defScope s54) .none kV54 dc54 pm54 an54 cd54 ct54, PySem.W.fnOf "call_may" "Desk.call_may" (defArgs s55) (defBody s55) (defScope s55) .none kV55 dc55 pm55 an55 cd55 ct55, PySem.W.fnOf "call_news" "Desk.call_news" (defArgs s56) (defBody s56) (defScope s56) .none kV56 dc56 pm56 an56 cd56 ct56, PySem.W.fnOf "call_far" "Desk.call_far" (defArgs s57) (defBody s57) (defScope s57) .none kV57 dc57 pm57 an57 cd57 ct57, PySem.W.fnOf "call_worst" "Desk.call_worst" (defArgs s58) (defBody s58) (defScope s58) .none kV58 dc58 pm58 an58 cd58 ct58, PySem.W.fnOf "called" "Desk.called" (defArgs s59) (defBody s59) (defScope s59) .none kV59 dc59 pm59 an59 cd59 ct59, PySem.W.fnOf "answered" "Desk.answered" (defArgs s60) (defBody s60) (defScope s60) .none kV60 dc60 pm60 an60 cd60 ct60, PySem.W.fnOf "answers" "answers" (defArgs s61) (defBody s61) (defScope s61) .none kV61 dc61 pm61 an61 cd61 ct61].getD n (PySem.W.fnOf "answers" "answers" (defArgs s61) (defBody s61) (defScope s61) .none kV61 dc61 pm61 an61 cd61 ct61), cCh, cSe, cRe, cDe⟩ :=
    { F1 := fun_mk (st := s1) l1 c1 k1,
      F2 := fun_mk (st := s2) l2 c2 k2,
      F3 := fun_mk (st := s3) l3 c3 k3,
      F4 := fun_mk (st := s4) l4 c4 k4,
      F5 := fun_mk (st := s5) l5 c5 k5,
      F6 := fun_mk (st := s6) l6 c6 k6,
      F11 := fun_mk (st := s11) l11 c11 k11,
      F12 := fun_mk (st := s12) l12 c12 k12,
      F13 := fun_mk (st := s13) l13 c13 k13,
      F14 := fun_mk (st := s14) l14 c14 k14,
      F9 := fun_mk (st := s9) l9 c9 k9,
      F10 := fun_mk (st := s10) l10 c10 k10,
      F21 := fun_mk (st := s21) l21 c21 k21,
      F22 := fun_mk (st := s22) l22 c22 k22,
      F23 := fun_mk (st := s23) l23 c23 k23,
      F24 := fun_mk (st := s24) l24 c24 k24,
      F25 := fun_mk (st := s25) l25 c25 k25,
      F26 := fun_mk (st := s26) l26 c26 k26,
      F27 := fun_mk (st := s27) l27 c27 k27,
      F28 := fun_mk (st := s28) l28 c28 k28,
      F29 := fun_mk (st := s29) l29 c29 k29,
      F31 := fun_mk (st := s31) l31 c31 k31,
      F32 := fun_mk (st := s32) l32 c32 k32,
      F33 := fun_mk (st := s33) l33 c33 k33,
      F41 := fun_mk (st := s41) l41 c41 k41,
      F42 := fun_mk (st := s42) l42 c42 k42,
      F43 := fun_mk (st := s43) l43 c43 k43,
      F51 := fun_mk (st := s51) l51 c51 k51,
      F52 := fun_mk (st := s52) l52 c52 k52,
      F53 := fun_mk (st := s53) l53 c53 k53,
      F54 := fun_mk (st := s54) l54 c54 k54,
      F55 := fun_mk (st := s55) l55 c55 k55,
      F56 := fun_mk (st := s56) l56 c56 k56,
      F57 := fun_mk (st := s57) l57 c57 k57,
      F58 := fun_mk (st := s58) l58 c58 k58,
      F59 := fun_mk (st := s59) l59 c59 k59,
      F60 := fun_mk (st := s60) l60 c60 k60,
      F61 := fun_mk (st := s61) l61 c61 k61,
      g1 := PySem.W.mg_of X G a1,
      g2 := PySem.W.mg_of X G a2,
      g3 := PySem.W.mg_of X G a3,
      g4 := PySem.W.mg_of X G a4,
      g5 := PySem.W.mg_of X G a5,
      g6 := PySem.W.mg_of X G a6,
      M12 := ⟨a12, i12, k12⟩,
      M13 := ⟨a13, i13, k13⟩,
      M14 := ⟨a14, i14, k14⟩,
      g9 := PySem.W.mg_of X G a9,
      g10 := PySem.W.mg_of X G a10,
      M22 := ⟨a22, i22, k22⟩,
      M23 := ⟨a23, i23, k23⟩,
      M24 := ⟨a24, i24, k24⟩,
      M25 := ⟨a25, i25, k25⟩,
      M26 := ⟨a26, i26, k26⟩,
      M27 := ⟨a27, i27, k27⟩,
      M28 := ⟨a28, i28, k28⟩,
      M29 := ⟨a29, i29, k29⟩,
      g31 := PySem.W.mg_of X G a31,
      g32 := PySem.W.mg_of X G a32,
      g33 := PySem.W.mg_of X G a33,
      g42 := PySem.W.mg_of X G a42,
      g43 := PySem.W.mg_of X G a43,
      M52 := ⟨a52, i52, k52⟩,
      M53 := ⟨a53, i53, k53⟩,
      M54 := ⟨a54, i54, k54⟩,
      M55 := ⟨a55, i55, k55⟩,
      M56 := ⟨a56, i56, k56⟩,
      M57 := ⟨a57, i57, k57⟩,
      M58 := ⟨a58, i58, k58⟩,
      M59 := ⟨a59, i59, k59⟩,
      M60 := ⟨a60, i60, k60⟩,
      g61 := PySem.W.mg_of X G a61,
      lCh := ⟨pgCh, hdCh, poCh, saCh⟩,
      kCh := ⟨mkCh, a11, i11, kcCh⟩,
      gCh := PySem.W.mg_of X G aCh,
      nCh_places := nCh_places,
      nCh_car := nCh_car,
      nCh_minute := nCh_minute,
      nCh_roads := nCh_roads,
      nCh_may := nCh_may,
      nCh_news := nCh_news,
      lSe := ⟨pgSe, hdSe, poSe, saSe⟩,
      kSe := ⟨mkSe, a21, i21, kcSe⟩,
      gSe := PySem.W.mg_of X G aSe,
      nSe_chase := nSe_chase,
      nSe_drives := nSe_drives,
      nSe_found := nSe_found,
      lDe := ⟨pgDe, hdDe, poDe, saDe⟩,
      kDe := ⟨mkDe, a51, i51, kcDe⟩,
      gDe := PySem.W.mg_of X G aDe,
      nDe_own := nDe_own,
      b_range := PySem.W.mg_none_of X G z_range,
      b_len := PySem.W.mg_none_of X G z_len,
      b_int := PySem.W.mg_none_of X G z_int,
      b_list := PySem.W.mg_none_of X G z_list,
      b_max := PySem.W.mg_none_of X G z_max,
      b_min := PySem.W.mg_none_of X G z_min,
      b_tuple := PySem.W.mg_none_of X G z_tuple,
      b_ValueError := PySem.W.mg_none_of X G z_ValueError,
      c_NOT_TOLD := ⟨_, PySem.W.mg_of X G v_NOT_TOLD⟩,
      c_NO_PLACE := ⟨_, PySem.W.mg_of X G v_NO_PLACE⟩,
      c_BOTH_SAME := ⟨_, PySem.W.mg_of X G v_BOTH_SAME⟩,
      c_FULL := ⟨_, PySem.W.mg_of X G v_FULL⟩,
      c_CANNOT_BE := ⟨_, PySem.W.mg_of X G v_CANNOT_BE⟩,
      c_MOST_PLACES := ⟨_, PySem.W.mg_of X G v_MOST_PLACES⟩,
      c_MOST_MINUTES := ⟨_, PySem.W.mg_of X G v_MOST_MINUTES⟩,
      c_MOST_ROADS := ⟨_, PySem.W.mg_of X G v_MOST_ROADS⟩,
      c_MOST_NEWS := ⟨_, PySem.W.mg_of X G v_MOST_NEWS⟩,
      oRe := ⟨⟨nm, q, NN, bss, _, sn, sub, ab, col, dd, m0, m1, m2, m3, m5, xL, by decide +kernel⟩, saR, eR, tR, kcR⟩,
      xRe := ⟨gaR, ggR, eR, hR⟩,
      iRe := a41,
      tRe := tI,
      nRe := nbR,
      vRe := vR,
      eRe := exm_self eR iR tR sR,
      gRe := PySem.W.mg_of X G aRe }
  exact ⟨_, fun s us hu => match us, hu with | [_], _ => .of_eq rfl, fun base _ _ => ok61 T⟩
end RB
end
open PySem PySem.W PyProof.Rows
set_option maxRecDepth 100000 in
set_option maxHeartbeats 8000000 in
theorem PySem.Challenge.cw_roadbehind_s01_answers_holds : PySem.Challenge.rw_roadbehind_s01_answers.Holds := by
  w_on; k_headS; (case hw => exact ⟨[.list [.int 5, .int 0, .int 0]], by decide +kernel, by decide +kernel⟩)
  k_fillS
  refine L2.walk_specK (r := PySem.Challenge.rw_roadbehind_s01_answers) (k := 21) (CX := L2.CX0) (ps := ["calls"]) (sp := RB.spAns) (by decide +kernel) rfl rfl ⟨rfl, by decide, by decide⟩ (fun w h Y => PySem.W.kIn_of Y) ?F ?S (fun _ _ _ _ z => z)
  case F =>
    intro w mg fa h Y KX G hmg
    refine' RB.all_mk KX G hmg ?aCh ?aSe ?aRe ?aDe ?a1 ?l1 ?c1 ?k1 ?a2 ?l2 ?c2 ?k2 ?a3 ?l3 ?c3 ?k3 ?a4 ?l4 ?c4 ?k4 ?a5 ?l5 ?c5 ?k5 ?a6 ?l6 ?c6 ?k6 ?a11 ?i11 ?l11 ?c11 ?k11 ?a12 ?i12 ?l12 ?c12 ?k12 ?a13 ?i13 ?l13 ?c13 ?k13 ?a14 ?i14 ?l14 ?c14 ?k14 ?a9 ?l9 ?c9 ?k9 ?a10 ?l10 ?c10 ?k10 ?a21 ?i21 ?l21 ?c21 ?k21 ?a22 ?i22 ?l22 ?c22 ?k22 ?a23 ?i23 ?l23 ?c23 ?k23 ?a24 ?i24 ?l24 ?c24 ?k24 ?a25 ?i25 ?l25 ?c25 ?k25 ?a26 ?i26 ?l26 ?c26 ?k26 ?a27 ?i27 ?l27 ?c27 ?k27 ?a28 ?i28 ?l28 ?c28 ?k28 ?a29 ?i29 ?l29 ?c29 ?k29 ?a31 ?l31 ?c31 ?k31 ?a32 ?l32 ?c32 ?k32 ?a33 ?l33 ?c33 ?k33 ?a41 ?l41 ?c41 ?k41 ?a42 ?l42 ?c42 ?k42 ?a43 ?l43 ?c43 ?k43 ?a51 ?i51 ?l51 ?c51 ?k51 ?a52 ?i52 ?l52 ?c52 ?k52 ?a53 ?i53 ?l53 ?c53 ?k53 ?a54 ?i54 ?l54 ?c54 ?k54 ?a55 ?i55 ?l55 ?c55 ?k55 ?a56 ?i56 ?l56 ?c56 ?k56 ?a57 ?i57 ?l57 ?c57 ?k57 ?a58 ?i58 ?l58 ?c58 ?k58 ?a59 ?i59 ?l59 ?c59 ?k59 ?a60 ?i60 ?l60 ?c60 ?k60 ?a61 ?l61 ?c61 ?k61 ?pgCh ?hdCh ?poCh ?saCh ?mkCh ?kcCh ?nCh_places ?nCh_car ?nCh_minute ?nCh_roads ?nCh_may ?nCh_news ?pgSe ?hdSe ?poSe ?saSe ?mkSe ?kcSe ?nSe_chase ?nSe_drives ?nSe_found ?pgDe ?hdDe ?poDe ?saDe ?mkDe ?kcDe ?nDe_own ?z_range ?z_len ?z_int ?z_list ?z_max ?z_min ?z_tuple ?z_ValueError ?v_NOT_TOLD ?v_NO_PLACE ?v_BOTH_SAME ?v_FULL ?v_CANNOT_BE ?v_MOST_PLACES ?v_MOST_MINUTES ?v_MOST_ROADS ?v_MOST_NEWS ?xL ?saR ?gaR ?ggR ?nbR ?tI ?kcR ?eR ?tR ?hR ?iR ?sR ?vR
    (case aCh => k_is); (case aSe => k_is); (case aRe => k_is); (case aDe => k_is); (case a1 => k_is); (case l1 => k_is)
    (case c1 => k_is); (case k1 => k_is); (case a2 => k_is); (case l2 => k_is); (case c2 => k_is); (case k2 => k_is)
    (case a3 => k_is); (case l3 => k_is); (case c3 => k_is); (case k3 => k_is); (case a4 => k_is); (case l4 => k_is)
    (case c4 => k_is); (case k4 => k_is); (case a5 => k_is); (case l5 => k_is); (case c5 => k_is); (case k5 => k_is)
    (case a6 => k_is); (case l6 => k_is); (case c6 => k_is); (case k6 => k_is); (case a11 => k_is); (case i11 => k_is)
    (case l11 => k_is); (case c11 => k_is); (case k11 => k_is); (case a12 => k_is); (case i12 => k_is); (case l12 => k_is)
    (case c12 => k_is); (case k12 => k_is); (case a13 => k_is); (case i13 => k_is); (case l13 => k_is); (case c13 => k_is)
    (case k13 => k_is); (case a14 => k_is); (case i14 => k_is); (case l14 => k_is); (case c14 => k_is); (case k14 => k_is)
    (case a9 => k_is); (case l9 => k_is); (case c9 => k_is); (case k9 => k_is); (case a10 => k_is); (case l10 => k_is)
    (case c10 => k_is); (case k10 => k_is); (case a21 => k_is); (case i21 => k_is); (case l21 => k_is); (case c21 => k_is)
    (case k21 => k_is); (case a22 => k_is); (case i22 => k_is); (case l22 => k_is); (case c22 => k_is); (case k22 => k_is)
    (case a23 => k_is); (case i23 => k_is); (case l23 => k_is); (case c23 => k_is); (case k23 => k_is); (case a24 => k_is)
    (case i24 => k_is); (case l24 => k_is); (case c24 => k_is); (case k24 => k_is); (case a25 => k_is); (case i25 => k_is)
    (case l25 => k_is); (case c25 => k_is); (case k25 => k_is); (case a26 => k_is); (case i26 => k_is); (case l26 => k_is)
    (case c26 => k_is); (case k26 => k_is); (case a27 => k_is); (case i27 => k_is); (case l27 => k_is); (case c27 => k_is)
    (case k27 => k_is); (case a28 => k_is); (case i28 => k_is); (case l28 => k_is); (case c28 => k_is); (case k28 => k_is)
    (case a29 => k_is); (case i29 => k_is); (case l29 => k_is); (case c29 => k_is); (case k29 => k_is); (case a31 => k_is)
    (case l31 => k_is); (case c31 => k_is); (case k31 => k_is); (case a32 => k_is); (case l32 => k_is); (case c32 => k_is)
    (case k32 => k_is); (case a33 => k_is); (case l33 => k_is); (case c33 => k_is); (case k33 => k_is); (case a41 => k_is)
    (case l41 => k_is); (case c41 => k_is); (case k41 => k_is); (case a42 => k_is); (case l42 => k_is); (case c42 => k_is)
    (case k42 => k_is); (case a43 => k_is); (case l43 => k_is); (case c43 => k_is); (case k43 => k_is); (case a51 => k_is)
    (case i51 => k_is); (case l51 => k_is); (case c51 => k_is); (case k51 => k_is); (case a52 => k_is); (case i52 => k_is)
    (case l52 => k_is); (case c52 => k_is); (case k52 => k_is); (case a53 => k_is); (case i53 => k_is); (case l53 => k_is)
    (case c53 => k_is); (case k53 => k_is); (case a54 => k_is); (case i54 => k_is); (case l54 => k_is); (case c54 => k_is)
    (case k54 => k_is); (case a55 => k_is); (case i55 => k_is); (case l55 => k_is); (case c55 => k_is); (case k55 => k_is)
    (case a56 => k_is); (case i56 => k_is); (case l56 => k_is); (case c56 => k_is); (case k56 => k_is); (case a57 => k_is)
    (case i57 => k_is); (case l57 => k_is); (case c57 => k_is); (case k57 => k_is); (case a58 => k_is); (case i58 => k_is)
    (case l58 => k_is); (case c58 => k_is); (case k58 => k_is); (case a59 => k_is); (case i59 => k_is); (case l59 => k_is)
    (case c59 => k_is); (case k59 => k_is); (case a60 => k_is); (case i60 => k_is); (case l60 => k_is); (case c60 => k_is)
    (case k60 => k_is); (case a61 => k_is); (case l61 => k_is); (case c61 => k_is); (case k61 => k_is); (case pgCh => k_is)
    (case hdCh => k_is); (case poCh => k_is); (case saCh => k_is); (case mkCh => k_is); (case kcCh => k_is); (case nCh_places => k_is)
    (case nCh_car => k_is); (case nCh_minute => k_is); (case nCh_roads => k_is); (case nCh_may => k_is); (case nCh_news => k_is); (case pgSe => k_is)
    (case hdSe => k_is); (case poSe => k_is); (case saSe => k_is); (case mkSe => k_is); (case kcSe => k_is); (case nSe_chase => k_is)
    (case nSe_drives => k_is); (case nSe_found => k_is); (case pgDe => k_is); (case hdDe => k_is); (case poDe => k_is); (case saDe => k_is)
    (case mkDe => k_is); (case kcDe => k_is); (case nDe_own => k_is); (case z_range => k_is); (case z_len => k_is); (case z_int => k_is)
    (case z_list => k_is); (case z_max => k_is); (case z_min => k_is); (case z_tuple => k_is); (case z_ValueError => k_is); (case v_NOT_TOLD => k_is)
    (case v_NO_PLACE => k_is); (case v_BOTH_SAME => k_is); (case v_FULL => k_is); (case v_CANNOT_BE => k_is); (case v_MOST_PLACES => k_is); (case v_MOST_MINUTES => k_is)
    (case v_MOST_ROADS => k_is); (case v_MOST_NEWS => k_is); (case xL => k_is); (case saR => k_is); (case gaR => k_is); (case ggR => k_is)
    (case nbR => k_is); (case tI => k_is); (case kcR => k_is); (case eR => k_is); (case tR => k_is); (case hR => k_is)
    (case iR => k_is); (case sR => first | rfl | k_is); (case vR => k_is)
  case S =>
    intro K H xs a hO hwi hask hx
    cases hx with
    | cons h1 h2 =>
      cases h2
      cases h1 with
      | lst hs ha =>
        have e := L2.ints_dw a.1 _ ha
        subst e
        exact ⟨_, a.1, rfl, hs, hask, fun H' p hp => .lst (L2.SqL.of hp) (L2.dw_ints _)⟩
