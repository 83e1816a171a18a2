import PyProof.Rows.All
import Wide.All
import OpenK.AllK
import Wide.FinOn
import KE.KStateDown
import HandS.ForMost
import HandS.Defaults
import HandS.Codes
import HandS.More
import HandS.IsInst
import HandS.NoneIn
import HandS.Deep
import HandS.ListItems
import HandS.Style
import HandS.Exc
import PyProof.SumWalkG
import HandS.Base
import HandS.Call
import HandS.Ends
import HandS.Words
import HandS.WordsExc
import HandS.Head0
import HandS.Head1
import HandS.Head2
import HandS.HeadEnd
import HandS.HeadHook1
import HandS.HeadHook2
import PySem.Challenge.RW_wishdeal_k75_whole_fewest_moved
/-! Wishdeal, plain Lean: dicts as association lists; chains; a dealing and its certificate; the search for a way; prices. -/
namespace WD
set_option linter.all false

/-! ### dicts by Nat keys -/
abbrev Al (α : Type) := List (Nat × α)
def look {α : Type} : Al α → Nat → Option α
  | [], _ => none
  | p :: r, k => if p.1 = k then some p.2 else look r k
def has {α : Type} (d : Al α) (k : Nat) : Bool := (look d k).isSome
/-- d[k] = v: in its place, or behind -/
def put {α : Type} : Al α → Nat → α → Al α
  | [], k, v => [(k, v)]
  | p :: r, k, v => if p.1 = k then (k, v) :: r else p :: put r k v
def keys {α : Type} (d : Al α) : List Nat := d.map (·.1)

theorem look_put {α : Type} (d : Al α) (k j : Nat) (v : α) : look (put d k v) j = if j = k then some v else look d j := by
  induction d with
  | nil =>
    by_cases h : k = j
    · subst h; simp [put, look]
    · simp [put, look, h, Ne.symm h]
  | cons p r ih =>
    by_cases h : p.1 = k
    · by_cases h2 : j = k
      · subst h2; simp [put, look, h]
      · have h3 : ¬ k = j := fun e => h2 e.symm
        have h4 : ¬ p.1 = j := fun e => h2 (e.symm.trans h)
        simp [put, look, h, h2, h3]
    · by_cases h2 : p.1 = j
      · have h3 : ¬ j = k := fun e => h (h2.trans e)
        simp [put, look, h, h2, h3]
      · simp [put, look, h, h2, ih]
theorem look_put_same {α : Type} (d : Al α) (k : Nat) (v : α) : look (put d k v) k = some v := by rw [look_put, if_pos rfl]
theorem look_put_ne {α : Type} (d : Al α) {k j : Nat} (v : α) (h : j ≠ k) : look (put d k v) j = look d j := by rw [look_put, if_neg h]
theorem look_none {α : Type} {d : Al α} {k : Nat} : look d k = none ↔ k ∉ keys d := by
  induction d with
  | nil => simp [look, keys]
  | cons p r ih =>
    by_cases h : p.1 = k
    · subst h; simp [look, keys]
    · have h2 : ¬ k = p.1 := fun e => h e.symm
      rw [look, if_neg h, ih]
      simp [keys, h2]
theorem look_mem {α : Type} {d : Al α} {k : Nat} {v : α} (h : look d k = some v) : (k, v) ∈ d := by
  induction d with
  | nil => simp [look] at h
  | cons p r ih =>
    by_cases e : p.1 = k
    · rw [look, if_pos e] at h
      cases h
      subst e
      exact List.mem_cons_self
    · rw [look, if_neg e] at h
      exact List.mem_cons_of_mem _ (ih h)
theorem mem_look {α : Type} {d : Al α} (nd : (keys d).Nodup) {k : Nat} {v : α} (h : (k, v) ∈ d) : look d k = some v := by
  induction d with
  | nil => simp at h
  | cons p r ih =>
    rw [keys, List.map_cons, List.nodup_cons] at nd
    rcases List.mem_cons.mp h with e | h
    · subst e; simp [look]
    · have hk : k ∈ r.map (·.1) := List.mem_map.mpr ⟨(k, v), h, rfl⟩
      have e : ¬ p.1 = k := fun e => nd.1 (e ▸ hk)
      rw [look, if_neg e]
      exact ih nd.2 h
theorem keys_put {α : Type} (d : Al α) (k : Nat) (v : α) : keys (put d k v) = if k ∈ keys d then keys d else keys d ++ [k] := by
  induction d with
  | nil => simp [put, keys]
  | cons p r ih =>
    by_cases h : p.1 = k
    · subst h; simp [put, keys]
    · have h2 : ¬ k = p.1 := fun e => h e.symm
      have e1 : put (p :: r) k v = p :: put r k v := by simp [put, h]
      have e2 : keys (p :: put r k v) = p.1 :: keys (put r k v) := rfl
      have e3 : keys (p :: r) = p.1 :: keys r := rfl
      rw [e1, e2, ih, e3]
      by_cases h3 : k ∈ keys r
      · rw [if_pos h3, if_pos (List.mem_cons_of_mem _ h3)]
      · rw [if_neg h3, if_neg (by simp [h2, h3])]; rfl
theorem nodup_put {α : Type} {d : Al α} (nd : (keys d).Nodup) (k : Nat) (v : α) : (keys (put d k v)).Nodup := by
  rw [keys_put]
  by_cases h : k ∈ keys d
  · rw [if_pos h]; exact nd
  · rw [if_neg h]
    rw [List.nodup_append]
    refine ⟨nd, by simp, ?_⟩
    intro a ha b hb
    have : b = k := by simpa using hb
    subst this
    intro e; subst e; exact h ha
theorem mem_keys_put {α : Type} {d : Al α} {k j : Nat} {v : α} : j ∈ keys (put d k v) ↔ j = k ∨ j ∈ keys d := by
  rw [keys_put]
  by_cases h : k ∈ keys d
  · rw [if_pos h]
    constructor
    · exact Or.inr
    · rintro (e | e)
      · exact e ▸ h
      · exact e
  · rw [if_neg h]; simp; exact Or.comm
theorem length_keys {α : Type} (d : Al α) : (keys d).length = d.length := List.length_map ..
theorem length_put_le {α : Type} (d : Al α) (k : Nat) (v : α) : (put d k v).length ≤ d.length + 1 := by
  rw [← length_keys, ← length_keys, keys_put]
  split
  · omega
  · simp
theorem length_put_new {α : Type} {d : Al α} {k : Nat} (v : α) (h : look d k = none) : (put d k v).length = d.length + 1 := by
  rw [← length_keys, ← length_keys, keys_put, if_neg (look_none.mp h)]; simp
theorem length_put_old {α : Type} {d : Al α} {k : Nat} (v : α) {u : α} (h : look d k = some u) : (put d k v).length = d.length := by
  have hm : k ∈ keys d := by
    have := look_mem h
    exact List.mem_map.mpr ⟨_, this, rfl⟩
  rw [← length_keys, ← length_keys, keys_put, if_pos hm]
theorem length_put_ge {α : Type} (d : Al α) (k : Nat) (v : α) : d.length ≤ (put d k v).length := by
  rw [← length_keys, ← length_keys, keys_put]
  split
  · exact Nat.le_refl _
  · simp
/-- keys below m, none twice: at most m -/
theorem nodup_bound : ∀ (m : Nat) (l : List Nat), l.Nodup → (∀ x ∈ l, x < m) → l.length ≤ m
  | 0, l, _, h => by
    cases l with
    | nil => simp
    | cons a r => exact absurd (h a List.mem_cons_self) (Nat.not_lt_zero _)
  | m + 1, l, nd, h => by
    have h1 : (l.filter (· ≠ m)).length ≤ m := nodup_bound m _ (nd.filter _) (fun x hx => by
      have a := List.mem_filter.mp hx
      have b := h x a.1
      have c : x ≠ m := by simpa using a.2
      omega)
    have h2 : l.length = (l.filter (· ≠ m)).length + l.count m := by
      clear h h1 nd
      induction l with
      | nil => rfl
      | cons a r ih =>
        by_cases e : a = m
        · subst e; simp at ih ⊢; omega
        · simp [e] at ih ⊢; omega
    have h3 : l.count m ≤ 1 := List.nodup_iff_count.mp nd m
    omega

/-! ### sums over a range -/
def sm (f : Nat → Int) : Nat → Int
  | 0 => 0
  | n + 1 => sm f n + f n
theorem sm_le {f g : Nat → Int} : ∀ n, (∀ i, i < n → f i ≤ g i) → sm f n ≤ sm g n
  | 0, _ => Int.le_refl _
  | n + 1, h => by
    have := sm_le n fun i hi => h i (by omega)
    have := h n (by omega)
    simp only [sm]; omega
theorem sm_congr {f g : Nat → Int} : ∀ n, (∀ i, i < n → f i = g i) → sm f n = sm g n
  | 0, _ => rfl
  | n + 1, h => by
    rw [sm, sm, sm_congr n fun i hi => h i (by omega), h n (by omega)]
theorem sm_add (f g : Nat → Int) : ∀ n, sm (fun i => f i + g i) n = sm f n + sm g n
  | 0 => rfl
  | n + 1 => by simp only [sm]; rw [sm_add f g n]; omega
theorem sm_zero : ∀ n, sm (fun _ => 0) n = 0
  | 0 => rfl
  | n + 1 => by rw [sm, sm_zero n]; rfl
theorem sm_mul (c : Int) (f : Nat → Int) : ∀ n, sm (fun i => c * f i) n = c * sm f n
  | 0 => by simp [sm]
  | n + 1 => by simp only [sm]; rw [sm_mul c f n, Int.mul_add]
theorem sm_swap (f : Nat → Nat → Int) (m : Nat) : ∀ n, sm (fun i => sm (fun j => f i j) m) n = sm (fun j => sm (fun i => f i j) n) m
  | 0 => (sm_zero m).symm
  | n + 1 => by
    simp only [sm]
    rw [sm_swap f m n, ← sm_add]
/-- one place alone counts -/
theorem sm_single (g : Nat → Int) (t : Nat) : ∀ m, sm (fun j => if j = t then g j else 0) m = if t < m then g t else 0
  | 0 => by simp [sm]
  | m + 1 => by
    rw [sm, sm_single g t m]
    by_cases h : t < m
    · have : ¬ m = t := by omega
      rw [if_pos h, if_neg this, if_pos (by omega)]; omega
    · by_cases e : m = t
      · subst e; rw [if_neg h, if_pos rfl, if_pos (by omega)]; omega
      · rw [if_neg h, if_neg e, if_neg (by omega)]; rfl
/-- two sums that are unlike at one place alone -/
theorem sm_lt {f g : Nat → Int} : ∀ n, (∀ i, i < n → f i ≤ g i) → (∃ i, i < n ∧ f i < g i) → sm f n < sm g n
  | 0, _, ⟨i, hi, _⟩ => absurd hi (Nat.not_lt_zero _)
  | n + 1, h, ⟨i, hi, hl⟩ => by
    simp only [sm]
    have h1 := sm_le n fun i hi => h i (by omega)
    have h2 := h n (by omega)
    by_cases e : i = n
    · subst e; omega
    · have := sm_lt n (fun i hi => h i (by omega)) ⟨i, by omega, hl⟩
      omega
end WD

namespace WD
set_option linter.all false
theorem getD_out {α : Type} {l : List α} {a : Nat} {z : α} (h : l.length ≤ a) : l.getD a z = z := by
  rw [List.getD_eq_getElem?_getD, List.getElem?_eq_none h]; rfl
/-! ### sums over a list -/
theorem sm_shift (f : Nat → Int) : ∀ n, sm f (n + 1) = f 0 + sm (fun i => f (i + 1)) n
  | 0 => by simp [sm]
  | n + 1 => by
    rw [sm, sm_shift f n]
    simp only [sm]
    omega
theorem sm_list {α : Type} (g : α → Int) (z : α) : ∀ l : List α, sm (fun a => g (l.getD a z)) l.length = (l.map g).sum
  | [] => rfl
  | x :: l => by
    rw [List.length_cons, sm_shift, List.map_cons, List.sum_cons, ← sm_list g z l]
    rfl

/-! ### dealings -/
abbrev Deal := List (Option Nat)
def got (d : Deal) (a : Nat) : Option Nat := d.getD a none
def row (rows : List (Al Int)) (a : Nat) : Al Int := rows.getD a []
def cnt (d : Deal) (t : Nat) : Nat := d.count (some t)
/-- what a thing is worth to an asker, 0 where it isn't wished for -/
def wOf (rows : List (Al Int)) (a : Nat) (x : Option Nat) : Int := match x with
  | none => 0
  | some t => (look (row rows a) t).getD 0
def worth (rows : List (Al Int)) (d : Deal) : Int := sm (fun a => wOf rows a (got d a)) d.length

theorem got_lt {d : Deal} {a t : Nat} (h : got d a = some t) : a < d.length := by
  unfold got at h
  by_cases e : a < d.length
  · exact e
  · rw [getD_out (by omega)] at h; cases h
theorem got_get {d : Deal} {a : Nat} (h : a < d.length) : d[a]? = some (got d a) := by
  unfold got
  rw [List.getD_eq_getElem?_getD, List.getElem?_eq_getElem h]; rfl
theorem got_of {d : Deal} {a : Nat} {x : Option Nat} (h : d[a]? = some x) : got d a = x := by
  unfold got
  rw [List.getD_eq_getElem?_getD, h]; rfl
theorem got_out {d : Deal} {a : Nat} (h : d.length ≤ a) : got d a = none := getD_out h
theorem got_set (d : Deal) (a b : Nat) (x : Option Nat) : got (d.set a x) b = if b = a ∧ a < d.length then x else got d b := by
  unfold got
  rw [List.getD_eq_getElem?_getD, List.getElem?_set, List.getD_eq_getElem?_getD]
  by_cases h : a = b
  · subst h
    by_cases h2 : a < d.length
    · simp [h2]
    · simp [h2]
  · have : ¬ b = a := fun e => h e.symm
    simp [h, this]
theorem row_get {rows : List (Al Int)} {a : Nat} (h : a < rows.length) : rows[a]? = some (row rows a) := by
  unfold row
  rw [List.getD_eq_getElem?_getD, List.getElem?_eq_getElem h]; rfl
theorem row_of {rows : List (Al Int)} {a : Nat} {r : Al Int} (h : rows[a]? = some r) : row rows a = r := by
  unfold row
  rw [List.getD_eq_getElem?_getD, h]; rfl
theorem row_out {rows : List (Al Int)} {a : Nat} (h : rows.length ≤ a) : row rows a = [] := getD_out h
theorem row_lt {rows : List (Al Int)} {a t : Nat} {w : Int} (h : look (row rows a) t = some w) : a < rows.length := by
  by_cases e : a < rows.length
  · exact e
  · rw [row_out (by omega)] at h; cases h

theorem count_sum (t : Nat) : ∀ d : Deal, ((cnt d t : Nat) : Int) = (d.map fun x => if x = some t then (1 : Int) else 0).sum
  | [] => rfl
  | x :: d => by
    have ih := count_sum t d
    unfold cnt at ih ⊢
    rw [List.map_cons, List.sum_cons, ← ih, List.count_cons]
    by_cases h : x = some t
    · simp [h]; omega
    · simp [h]
theorem cnt_sm (d : Deal) (t : Nat) : ((cnt d t : Nat) : Int) = sm (fun a => if got d a = some t then 1 else 0) d.length := by
  rw [count_sum, ← sm_list (fun x => if x = some t then (1 : Int) else 0) none d]
  rfl
theorem cnt_set (d : Deal) {a : Nat} (h : a < d.length) (x : Option Nat) (t : Nat) :
    cnt (d.set a x) t + (if got d a = some t then 1 else 0) = cnt d t + (if x = some t then 1 else 0) := by
  induction d generalizing a with
  | nil => simp at h
  | cons y d ih =>
    cases a with
    | zero =>
      show (x :: d).count (some t) + (if y = some t then 1 else 0) = (y :: d).count (some t) + _
      rw [List.count_cons, List.count_cons]
      have e1 : ∀ z : Option Nat, (if (z == some t) = true then 1 else 0) = (if z = some t then (1 : Nat) else 0) := fun z => by simp
      rw [e1, e1]; omega
    | succ a =>
      have h' : a < d.length := by simpa using h
      have := ih h'
      show (y :: d.set a x).count (some t) + (if got d a = some t then 1 else 0) = (y :: d).count (some t) + _
      unfold cnt at this
      rw [List.count_cons, List.count_cons]; omega

/-- a dealing of these rows and copies -/
structure Feas (rows : List (Al Int)) (cp : Nat → Nat) (d : Deal) : Prop where
  len : d.length = rows.length
  wish : ∀ a t, got d a = some t → ∃ w, look (row rows a) t = some w
  fits : ∀ t, cnt d t ≤ cp t
/-- a paper for the first k askers: asks u, prices p -/
structure Cert (rows : List (Al Int)) (cp : Nat → Nat) (m k : Nat) (d : Deal) (u p : Nat → Int) : Prop where
  feas : Feas rows cp d
  keys : ∀ a t w, look (row rows a) t = some w → t < m
  off : ∀ a, k ≤ a → got d a = none
  u0 : ∀ a, 0 ≤ u a
  p0 : ∀ t, 0 ≤ p t
  cov : ∀ a t w, a < k → look (row rows a) t = some w → w ≤ u a + p t
  tight : ∀ a t w, got d a = some t → look (row rows a) t = some w → w = u a + p t
  some_ : ∀ a, a < k → 0 < u a → ∃ t, got d a = some t
  full : ∀ t, t < m → 0 < p t → cnt d t = cp t

/-- the prices of what is dealt, by askers or by things -/
theorem price_sum (d : Deal) (p : Nat → Int) (m : Nat) (h : ∀ a t, got d a = some t → t < m) :
    sm (fun a => match got d a with | none => 0 | some t => p t) d.length = sm (fun t => (cnt d t : Int) * p t) m := by
  have e1 : ∀ t, ((cnt d t : Nat) : Int) * p t = sm (fun a => if got d a = some t then p t else 0) d.length := fun t => by
    rw [cnt_sm, Int.mul_comm, ← sm_mul]
    exact sm_congr _ fun a _ => by split <;> simp
  rw [sm_congr m fun t _ => e1 t, ← sm_swap]
  refine sm_congr _ fun a _ => ?_
  cases hg : got d a with
  | none => simp [sm_zero]
  | some t =>
    have e2 : sm (fun j => if some t = some j then p j else 0) m = sm (fun j => if j = t then p j else 0) m := sm_congr m fun j _ => by
      by_cases e : j = t
      · subst e; simp
      · have : ¬ t = j := fun q => e q.symm
        simp [e, this]
    rw [e2, sm_single, if_pos (h a t hg)]
/-- no dealing is worth more than a paper claims -/
theorem cert_upper {rows : List (Al Int)} {cp : Nat → Nat} {m : Nat} {e : Deal} {u p : Nat → Int} (F : Feas rows cp e) (keys : ∀ a t w, look (row rows a) t = some w → t < m) (u0 : ∀ a, 0 ≤ u a) (p0 : ∀ t, 0 ≤ p t)
    (cov : ∀ a t w, a < rows.length → look (row rows a) t = some w → w ≤ u a + p t) : worth rows e ≤ sm u rows.length + sm (fun t => (cp t : Int) * p t) m := by
  have h1 : worth rows e ≤ sm (fun a => u a + (match got e a with | none => 0 | some t => p t)) e.length := sm_le _ fun a ha => by
    cases hg : got e a with
    | none => have := u0 a; simp only [wOf]; omega
    | some t =>
      obtain ⟨w, hw⟩ := F.wish a t hg
      have := cov a t w (row_lt hw) hw
      simp only [wOf, hw, Option.getD_some]; omega
  rw [sm_add, price_sum e p m fun a t hg => let ⟨w, hw⟩ := F.wish a t hg; keys a t w hw, F.len] at h1
  have h2 : sm (fun t => (cnt e t : Int) * p t) m ≤ sm (fun t => (cp t : Int) * p t) m := sm_le _ fun t _ =>
    Int.mul_le_mul_of_nonneg_right (by have := F.fits t; omega) (p0 t)
  omega
/-- a dealing with a certificate is worth just that -/
theorem cert_exact {rows : List (Al Int)} {cp : Nat → Nat} {m : Nat} {d : Deal} {u p : Nat → Int} (C : Cert rows cp m rows.length d u p) : worth rows d = sm u rows.length + sm (fun t => (cp t : Int) * p t) m := by
  have h1 : worth rows d = sm (fun a => u a + (match got d a with | none => 0 | some t => p t)) d.length := sm_congr _ fun a ha => by
    cases hg : got d a with
    | none =>
      have h0 := C.u0 a
      have : ¬ 0 < u a := fun hu => by
        obtain ⟨t, ht⟩ := C.some_ a (by rw [← C.feas.len]; exact ha) hu
        rw [hg] at ht; cases ht
      simp only [wOf]; omega
    | some t =>
      obtain ⟨w, hw⟩ := C.feas.wish a t hg
      have := C.tight a t w hg hw
      simp only [wOf, hw, Option.getD_some]; omega
  rw [sm_add, price_sum d p m fun a t hg => let ⟨w, hw⟩ := C.feas.wish a t hg; C.keys a t w hw, C.feas.len] at h1
  rw [h1]
  have h2 : sm (fun t => (cnt d t : Int) * p t) m = sm (fun t => (cp t : Int) * p t) m := sm_congr _ fun t ht => by
    by_cases hp : 0 < p t
    · rw [C.full t ht hp]
    · have := C.p0 t
      have e : p t = 0 := by omega
      rw [e]; simp
  rw [h2]
theorem cert_best {rows : List (Al Int)} {cp : Nat → Nat} {m : Nat} {d : Deal} {u p : Nat → Int} (C : Cert rows cp m rows.length d u p) {e : Deal} (F : Feas rows cp e) : worth rows e ≤ worth rows d := by
  rw [cert_exact C]
  exact cert_upper F C.keys C.u0 C.p0 fun a t w ha hw => C.cov a t w ha hw

/-! ### pointers that end -/
/-- following nx from t comes to an end -/
inductive Fin (nx : Nat → Option Nat) : Nat → Prop where
  | end_ {t : Nat} : nx t = none → Fin nx t
  | go {t s : Nat} : nx t = some s → Fin nx s → Fin nx t
def npt (nx : Nat → Option Nat) (t : Nat) (x : Option Nat) : Nat → Option Nat := fun y => if y = t then x else nx y
theorem fin_npt {nx : Nat → Option Nat} {t : Nat} {x : Option Nat} (P : Nat → Prop) (cl : ∀ y s, P y → nx y = some s → P s) (nt : ¬ P t) (px : ∀ s, x = some s → P s) (all : ∀ y, Fin nx y) : ∀ y, Fin (npt nx t x) y := by
  have key : ∀ y, Fin nx y → P y → Fin (npt nx t x) y := by
    intro y f
    induction f with
    | @end_ y h =>
      intro py
      have : y ≠ t := fun e => nt (e ▸ py)
      exact .end_ (by unfold npt; rw [if_neg this]; exact h)
    | @go y s h f ih =>
      intro py
      have : y ≠ t := fun e => nt (e ▸ py)
      exact .go (by unfold npt; rw [if_neg this]; exact h) (ih (cl y s py h))
  have ht : Fin (npt nx t x) t := by
    cases hx : x with
    | none => exact .end_ (by unfold npt; rw [if_pos rfl])
    | some s => exact .go (s := s) (by unfold npt; rw [if_pos rfl]) (hx ▸ key s (all s) (px s hx))
  intro y
  have f := all y
  induction f with
  | @end_ y h =>
    by_cases e : y = t
    · subst e; exact ht
    · exact .end_ (by unfold npt; rw [if_neg e]; exact h)
  | @go y s h f ih =>
    by_cases e : y = t
    · subst e; exact ht
    · exact .go (by unfold npt; rw [if_neg e]; exact h) ih
end WD

namespace WD
set_option linter.all false
/-! ### a loop by its turns -/
def iter {σ : Type} (f : Nat → σ → σ) : Nat → σ → σ
  | 0, s => s
  | n + 1, s => f n (iter f n s)
theorem iter_inv {σ : Type} {f : Nat → σ → σ} (P : Nat → σ → Prop) {s : σ} (h0 : P 0 s) : ∀ n, (∀ i s, i < n → P i s → P (i + 1) (f i s)) → P n (iter f n s)
  | 0, _ => h0
  | n + 1, h => h n _ (by omega) (iter_inv P h0 n fun i s hi => h i s (by omega))

/-! ### the search: what it holds -/
/-- the thing ahead of t on its chain -/
def nxt (d : Deal) (K : Al Nat) (t : Nat) : Option Nat := (look K t).bind (got d)
structure RInv (rows : List (Al Int)) (cp : Nat → Nat) (m k : Nat) (d : Deal) (u p : Nat → Int) (M B : Int) (F T : Al Int) (K : Al Nat) : Prop where
  C : Cert rows cp m k d u p
  kn : k < rows.length
  B0 : 0 ≤ B
  wB : ∀ a t w, look (row rows a) t = some w → 0 ≤ w ∧ w ≤ B
  wM : ∀ t w, look (row rows k) t = some w → w ≤ M + p t
  M0 : 0 ≤ M
  nF : (keys F).Nodup
  nT : (keys T).Nodup
  f0 : look F k = some 0
  f1 : ∀ a x, look F a = some x → a = k ∨ ∃ t w y, got d a = some t ∧ look (row rows a) t = some w ∧ look T t = some y ∧ x ≤ y - w
  fl : ∀ a x, look F a = some x → -(((T.length : Int) + 1) * B) ≤ x
  t1 : ∀ t y, look T t = some y → t < m ∧ ∃ a x w, look K t = some a ∧ look F a = some x ∧ look (row rows a) t = some w ∧ got d a ≠ some t ∧ y ≤ x + w
  tl : ∀ t y, look T t = some y → -((T.length : Int) * B) ≤ y ∧ y ≤ M + p t
  ch : ∀ t, Fin (nxt d K) t
section
variable {rows : List (Al Int)} {cp : Nat → Nat} {m k : Nat} {d : Deal} {u p : Nat → Int} {M B : Int} {F T : Al Int} {K : Al Nat}
theorem RInv.offk (I : RInv rows cp m k d u p M B F T K) : got d k = none := I.C.off k (Nat.le_refl _)
theorem Cert.below (C : Cert rows cp m k d u p) {a t : Nat} (h : got d a = some t) : a < k := by
  by_cases e : a < k
  · exact e
  · rw [C.off a (by omega)] at h; cases h
/-- an asker's gain beside the prices -/
theorem RInv.gain (I : RInv rows cp m k d u p M B F T K) {a : Nat} {x : Int} (h : look F a = some x) (hk : a ≠ k) :
    ∃ t y, got d a = some t ∧ look T t = some y ∧ x + u a ≤ y - p t := by
  rcases I.f1 a x h with e | ⟨t, w, y, h1, h2, h3, h4⟩
  · exact absurd e hk
  · have := I.C.tight a t w h1 h2
    exact ⟨t, y, h1, h3, by omega⟩
theorem RInv.Tlen (I : RInv rows cp m k d u p M B F T K) : T.length ≤ m := by
  have h := nodup_bound m (keys T) I.nT fun t ht => by
    obtain ⟨q, hq, e⟩ := List.mem_map.mp ht
    subst e
    exact (I.t1 q.1 q.2 (mem_look I.nT hq)).1
  rw [length_keys] at h
  exact h
def gap (m : Nat) (p : Nat → Int) (M B : Int) (T : Al Int) (t : Nat) : Int := match look T t with
  | some y => M + p t - y
  | none => M + p t + ((m : Int) + 1) * B + 1
def mu (m : Nat) (p : Nat → Int) (M B : Int) (T : Al Int) : Nat := (sm (gap m p M B T) m).toNat
theorem RInv.gap0 (I : RInv rows cp m k d u p M B F T K) (t : Nat) : 0 ≤ gap m p M B T t := by
  unfold gap
  cases h : look T t with
  | some y => have := (I.tl t y h).2; simp only; omega
  | none =>
    have h1 := I.C.p0 t
    have h2 := I.M0
    have h3 : 0 ≤ ((m : Int) + 1) * B := Int.mul_nonneg (by omega) I.B0
    simp only; omega
theorem sm_nn {f : Nat → Int} (h : ∀ i, 0 ≤ f i) (n : Nat) : 0 ≤ sm f n := by
  have := sm_le (f := fun _ => 0) (g := f) n fun i _ => h i
  rw [sm_zero] at this; exact this
/-- one thing is reached better -/
theorem RInv.step (I : RInv rows cp m k d u p M B F T K) {a t : Nat} {g w : Int} (hF : look F a = some g) (hw : look (row rows a) t = some w) (hd : got d a ≠ some t)
    (hT : ∀ y, look T t = some y → y < g + w) : RInv rows cp m k d u p M B F (put T t (g + w)) (put K t a) ∧ mu m p M B (put T t (g + w)) < mu m p M B T := by
  have hB := I.B0
  have tm : t < m := I.C.keys a t w hw
  have w0 := (I.wB a t w hw).1
  have hlen : ((put T t (g + w)).length : Int) = T.length ∨ ((put T t (g + w)).length : Int) = T.length + 1 := by
    cases h : look T t with
    | some y => left; rw [length_put_old _ h]
    | none => right; rw [length_put_new _ h]; rfl
  have mulB : ∀ n : Int, (n + 1) * B = n * B + B := fun n => by rw [Int.add_mul, Int.one_mul]
  have hup : g + w ≤ M + p t := by
    by_cases e : a = k
    · subst e
      rw [I.f0] at hF; cases hF
      have := I.wM t w hw; omega
    · obtain ⟨s, y, h1, h2, h3⟩ := I.gain hF e
      have h4 := (I.tl s y h2).2
      have h5 := I.C.cov a t w (I.C.below h1) hw
      omega
  have hlow := I.fl a g hF
  have hlow2 : -(((put T t (g + w)).length : Int) * B) ≤ g + w := by
    cases h : look T t with
    | some y =>
      rw [length_put_old _ h]
      have h1 := (I.tl t y h).1
      have h2 := hT y h; omega
    | none =>
      rw [length_put_new _ h]
      have : (((T.length + 1 : Nat) : Int)) = (T.length : Int) + 1 := rfl
      rw [this]; omega
  have I' : RInv rows cp m k d u p M B F (put T t (g + w)) (put K t a) := by
    refine ⟨I.C, I.kn, I.B0, I.wB, I.wM, I.M0, I.nF, nodup_put I.nT _ _, I.f0, ?_, ?_, ?_, ?_, ?_⟩
    · intro b x hb
      rcases I.f1 b x hb with e | ⟨s, w', y, h1, h2, h3, h4⟩
      · exact .inl e
      · by_cases e : s = t
        · subst e
          exact .inr ⟨s, w', g + w, h1, h2, look_put_same _ _ _, by have := hT y h3; omega⟩
        · exact .inr ⟨s, w', y, h1, h2, by rw [look_put_ne _ _ e]; exact h3, h4⟩
    · intro b x hb
      have h1 := I.fl b x hb
      rw [mulB] at h1 ⊢
      rcases hlen with e | e <;> rw [e]
      · exact h1
      · rw [mulB]; omega
    · intro s y hs
      by_cases e : s = t
      · subst e
        rw [look_put_same] at hs; cases hs
        exact ⟨tm, a, g, w, look_put_same _ _ _, hF, hw, hd, Int.le_refl _⟩
      · rw [look_put_ne _ _ e] at hs
        obtain ⟨h1, b, x, w', h2, h3, h4, h5, h6⟩ := I.t1 s y hs
        exact ⟨h1, b, x, w', by rw [look_put_ne _ _ e]; exact h2, h3, h4, h5, h6⟩
    · intro s y hs
      by_cases e : s = t
      · subst e
        rw [look_put_same] at hs; cases hs
        exact ⟨hlow2, hup⟩
      · rw [look_put_ne _ _ e] at hs
        obtain ⟨h1, h2⟩ := I.tl s y hs
        refine ⟨?_, h2⟩
        rcases hlen with e | e <;> rw [e]
        · exact h1
        · rw [mulB]; omega
    · have en : nxt d (put K t a) = npt (nxt d K) t (got d a) := by
        funext y
        unfold nxt npt
        rw [look_put]
        by_cases e : y = t
        · rw [if_pos e, if_pos e]; rfl
        · rw [if_neg e, if_neg e]
      rw [en]
      refine fin_npt (fun y => ∃ v, look T y = some v ∧ g + w - p t ≤ v - p y) ?_ ?_ ?_ I.ch
      · rintro y s ⟨v, hv, hle⟩ hn
        obtain ⟨_, b, x, w', h2, h3, h4, h5, h6⟩ := I.t1 y v hv
        have hb : got d b = some s := by
          unfold nxt at hn
          rw [h2] at hn; exact hn
        have hbk : b ≠ k := fun e => by rw [e, I.offk] at hb; cases hb
        obtain ⟨s', v', h7, h8, h9⟩ := I.gain h3 hbk
        rw [hb] at h7; cases h7
        have h10 := I.C.cov b y w' (I.C.below hb) h4
        exact ⟨v', h8, by omega⟩
      · rintro ⟨v, hv, hle⟩
        have := hT v hv; omega
      · intro s hs
        have hak : a ≠ k := fun e => by rw [e, I.offk] at hs; cases hs
        obtain ⟨s', v', h7, h8, h9⟩ := I.gain hF hak
        rw [hs] at h7; cases h7
        have h10 := I.C.cov a t w (I.C.below hs) hw
        exact ⟨v', h8, by omega⟩
  refine ⟨I', ?_⟩
  unfold mu
  have hlt : sm (gap m p M B (put T t (g + w))) m < sm (gap m p M B T) m := by
    refine sm_lt m (fun s _ => ?_) ⟨t, tm, ?_⟩
    · by_cases e : s = t
      · subst e
        unfold gap
        rw [look_put_same]
        cases h : look T s with
        | some y => have := hT y h; simp only; omega
        | none =>
          have h1 := I.Tlen
          have h2 : ((T.length : Int) + 1) * B ≤ ((m : Int) + 1) * B := Int.mul_le_mul_of_nonneg_right (by omega) hB
          simp only; omega
      · unfold gap
        rw [look_put_ne _ _ e]; exact Int.le_refl _
    · unfold gap
      rw [look_put_same]
      cases h : look T t with
      | some y => have := hT y h; simp only; omega
      | none =>
        have h1 := I.Tlen
        have h2 : ((T.length : Int) + 1) * B ≤ ((m : Int) + 1) * B := Int.mul_le_mul_of_nonneg_right (by omega) hB
        simp only; omega
  have h0 := sm_nn I'.gap0 m
  omega

/-! ### to_things -/
abbrev TS3 := Al Int × Al Nat × Bool
/-- one wish of an asker that is reached -/
def stepT (d : Deal) (a : Nat) (g : Int) (q : Nat × Int) (s : TS3) : TS3 :=
  if got d a = some q.1 then s else
  match look s.1 q.1 with
  | none => (put s.1 q.1 (g + q.2), put s.2.1 q.1 a, true)
  | some y => if y < g + q.2 then (put s.1 q.1 (g + q.2), put s.2.1 q.1 a, true) else s
def rowT (rows : List (Al Int)) (d : Deal) (a : Nat) (g : Int) (n : Nat) (s : TS3) : TS3 :=
  iter (fun j s => match (row rows a)[j]? with | some q => stepT d a g q s | none => s) n s
def thingsT (rows : List (Al Int)) (d : Deal) (F : Al Int) (n : Nat) (s : TS3) : TS3 :=
  iter (fun i s => match F[i]? with | some q => rowT rows d q.1 q.2 (row rows q.1).length s | none => s) n s
def Clo (d : Deal) (T : Al Int) (a : Nat) (g : Int) (q : Nat × Int) : Prop := got d a = some q.1 ∨ ∃ y, look T q.1 = some y ∧ g + q.2 ≤ y
structure TInv (rows : List (Al Int)) (cp : Nat → Nat) (m k : Nat) (d : Deal) (u p : Nat → Int) (M B : Int) (F T₀ : Al Int) (K₀ : Al Nat) (s : TS3) : Prop where
  I : RInv rows cp m k d u p M B F s.1 s.2.1
  same : s.2.2 = false → s.1 = T₀ ∧ s.2.1 = K₀
  le : mu m p M B s.1 ≤ mu m p M B T₀
  lt : s.2.2 = true → mu m p M B s.1 < mu m p M B T₀
theorem TInv.step {T₀ : Al Int} {K₀ : Al Nat} {s : TS3} (J : TInv rows cp m k d u p M B F T₀ K₀ s) {a : Nat} {g : Int} {q : Nat × Int} (hF : look F a = some g) (hw : look (row rows a) q.1 = some q.2) :
    TInv rows cp m k d u p M B F T₀ K₀ (stepT d a g q s) ∧ ((stepT d a g q s).2.2 = false → s.2.2 = false ∧ Clo d T₀ a g q) := by
  unfold stepT
  by_cases hd : got d a = some q.1
  · rw [if_pos hd]
    exact ⟨J, fun h => ⟨h, .inl hd⟩⟩
  · rw [if_neg hd]
    cases h : look s.1 q.1 with
    | none =>
      obtain ⟨I', hl2⟩ := J.I.step hF hw hd (fun y hy => by rw [h] at hy; cases hy)
      exact ⟨TInv.mk I' (fun e => by cases e) (Nat.le_trans (Nat.le_of_lt hl2) J.le) (fun _ => Nat.lt_of_lt_of_le hl2 J.le), fun e => by cases e⟩
    | some y =>
      by_cases hl : y < g + q.2
      · simp only [hl, if_true]
        obtain ⟨I', hl2⟩ := J.I.step hF hw hd (fun y' hy => by rw [h] at hy; cases hy; exact hl)
        exact ⟨TInv.mk I' (fun e => by cases e) (Nat.le_trans (Nat.le_of_lt hl2) J.le) (fun _ => Nat.lt_of_lt_of_le hl2 J.le), fun e => by cases e⟩
      · simp only [hl, if_false]
        refine ⟨J, fun e => ⟨e, .inr ⟨y, ?_, by omega⟩⟩⟩
        rw [← (J.same e).1]; exact h
theorem rowT_inv {T₀ : Al Int} {K₀ : Al Nat} {s : TS3} (nr : ∀ a, (keys (row rows a)).Nodup) (J : TInv rows cp m k d u p M B F T₀ K₀ s) {a : Nat} {g : Int} (hF : look F a = some g) (n : Nat) :
    TInv rows cp m k d u p M B F T₀ K₀ (rowT rows d a g n s) ∧ ((rowT rows d a g n s).2.2 = false → s.2.2 = false ∧ ∀ j q, j < n → (row rows a)[j]? = some q → Clo d T₀ a g q) := by
  unfold rowT
  refine iter_inv (fun n s' => TInv rows cp m k d u p M B F T₀ K₀ s' ∧ (s'.2.2 = false → s.2.2 = false ∧ ∀ j q, j < n → (row rows a)[j]? = some q → Clo d T₀ a g q)) ⟨J, fun h => ⟨h, fun j _ hj => absurd hj (Nat.not_lt_zero _)⟩⟩ n ?_
  rintro i s' _ ⟨J', h'⟩
  cases hq : (row rows a)[i]? with
  | none =>
    refine ⟨J', fun e => ⟨(h' e).1, fun j q hj hjq => ?_⟩⟩
    rcases Nat.lt_succ_iff_lt_or_eq.mp hj with hj | hj
    · exact (h' e).2 j q hj hjq
    · subst hj; rw [hq] at hjq; cases hjq
  | some q =>
    have hw : look (row rows a) q.1 = some q.2 := mem_look (nr a) (List.mem_of_getElem? hq)
    obtain ⟨J2, h2⟩ := J'.step hF hw
    refine ⟨J2, fun e => ⟨(h' (h2 e).1).1, fun j q' hj hjq => ?_⟩⟩
    rcases Nat.lt_succ_iff_lt_or_eq.mp hj with hj | hj
    · exact (h' (h2 e).1).2 j q' hj hjq
    · subst hj; rw [hq] at hjq; cases hjq; exact (h2 e).2
theorem thingsT_inv {K₀ : Al Nat} (nr : ∀ a, (keys (row rows a)).Nodup) (I : RInv rows cp m k d u p M B F T K₀) (n : Nat) :
    TInv rows cp m k d u p M B F T K₀ (thingsT rows d F n (T, K₀, false)) ∧ ((thingsT rows d F n (T, K₀, false)).2.2 = false → ∀ (i : Nat) (b : Nat × Int), i < n → F[i]? = some b → ∀ (j : Nat) (q : Nat × Int), (row rows b.1)[j]? = some q → Clo d T b.1 b.2 q) := by
  unfold thingsT
  refine iter_inv (fun n s' => TInv rows cp m k d u p M B F T K₀ s' ∧ (s'.2.2 = false → ∀ (i : Nat) (b : Nat × Int), i < n → F[i]? = some b → ∀ (j : Nat) (q : Nat × Int), (row rows b.1)[j]? = some q → Clo d T b.1 b.2 q)) ⟨⟨I, fun _ => ⟨rfl, rfl⟩, Nat.le_refl _, fun e => by cases e⟩, fun _ i _ hi => absurd hi (Nat.not_lt_zero _)⟩ n ?_
  rintro i s' _ ⟨J', h'⟩
  cases hq : F[i]? with
  | none =>
    refine ⟨J', fun e i' b hi hb => ?_⟩
    rcases Nat.lt_succ_iff_lt_or_eq.mp hi with hi | hi
    · exact h' e i' b hi hb
    · subst hi; rw [hq] at hb; cases hb
  | some q =>
    have hF : look F q.1 = some q.2 := mem_look I.nF (List.mem_of_getElem? hq)
    obtain ⟨J2, h2⟩ := rowT_inv nr J' hF (row rows q.1).length
    refine ⟨J2, fun e i' b hi hb => ?_⟩
    rcases Nat.lt_succ_iff_lt_or_eq.mp hi with hi | hi
    · exact h' (h2 e).1 i' b hi hb
    · subst hi; rw [hq] at hb; cases hb
      intro j q' hjq
      exact (h2 e).2 j q' (List.getElem?_eq_some_iff.mp hjq).1 hjq

/-! ### to_askers -/
def stepA (rows : List (Al Int)) (d : Deal) (T : Al Int) (a : Nat) (F : Al Int) : Al Int := match got d a with
  | none => F
  | some t => match look T t with
    | none => F
    | some y => put F a (y - (look (row rows a) t).getD 0)
def askersT (rows : List (Al Int)) (d : Deal) (T : Al Int) (n : Nat) (F : Al Int) : Al Int := iter (stepA rows d T) n F
/-- each asker is reached just as its thing is -/
def Exact (rows : List (Al Int)) (d : Deal) (F T : Al Int) : Prop := ∀ a t y w, got d a = some t → look T t = some y → look (row rows a) t = some w → look F a = some (y - w)
theorem askersT_look (rows : List (Al Int)) (d : Deal) (T F : Al Int) (b : Nat) : ∀ n, look (askersT rows d T n F) b = if b < n then (match got d b with
    | none => look F b
    | some t => match look T t with
      | none => look F b
      | some y => some (y - (look (row rows b) t).getD 0)) else look F b
  | 0 => by rw [if_neg (Nat.not_lt_zero _)]; rfl
  | n + 1 => by
    have ih := askersT_look rows d T F b n
    show look (stepA rows d T n (askersT rows d T n F)) b = _
    unfold stepA
    by_cases e : b = n
    · subst e
      rw [if_neg (Nat.lt_irrefl _)] at ih
      rw [if_pos (Nat.lt_succ_self _)]
      cases h1 : got d b with
      | none => exact ih
      | some t =>
        cases h2 : look T t with
        | none => simp only [h2]; exact ih
        | some y => simp only [h2]; exact look_put_same _ _ _
    · have e1 : (if b < n + 1 then (match got d b with
        | none => look F b
        | some t => match look T t with
          | none => look F b
          | some y => some (y - (look (row rows b) t).getD 0)) else look F b) = look (askersT rows d T n F) b := by
        rw [ih]
        by_cases q : b < n
        · rw [if_pos q, if_pos (by omega)]
        · rw [if_neg q, if_neg (by omega)]
      rw [e1]
      cases h1 : got d n with
      | none => rfl
      | some t =>
        cases h2 : look T t with
        | none => simp only [h2]
        | some y => simp only [h2]; exact look_put_ne _ _ e
theorem askersT_nodup (rows : List (Al Int)) (d : Deal) (T : Al Int) {F : Al Int} (nF : (keys F).Nodup) (n : Nat) : (keys (askersT rows d T n F)).Nodup := by
  unfold askersT
  refine iter_inv (fun _ F => (keys F).Nodup) nF n fun i s _ h => ?_
  unfold stepA
  cases h1 : got d i with
  | none => exact h
  | some t =>
    cases h2 : look T t with
    | none => simp only [h2]; exact h
    | some y => simp only [h2]; exact nodup_put h _ _
theorem RInv.askers (I : RInv rows cp m k d u p M B F T K) : RInv rows cp m k d u p M B (askersT rows d T d.length F) T K ∧ Exact rows d (askersT rows d T d.length F) T := by
  have hx : Exact rows d (askersT rows d T d.length F) T := fun a t y w h1 h2 h3 => by
    rw [askersT_look, if_pos (got_lt h1), h1]
    simp only [h2, h3, Option.getD_some]
  have hold : ∀ a x, look (askersT rows d T d.length F) a = some x → look F a = some x ∨ ∃ t y w, got d a = some t ∧ look T t = some y ∧ look (row rows a) t = some w ∧ x = y - w := by
    intro a x h
    rw [askersT_look] at h
    split at h
    · cases h1 : got d a with
      | none => rw [h1] at h; exact .inl h
      | some t =>
        rw [h1] at h
        cases h2 : look T t with
        | none => simp only [h2] at h; exact .inl h
        | some y =>
          simp only [h2] at h
          obtain ⟨w, hw⟩ := I.C.feas.wish a t h1
          rw [hw] at h
          exact .inr ⟨t, y, w, rfl, h2, hw, (Option.some.inj h).symm⟩
    · exact .inl h
  refine ⟨⟨I.C, I.kn, I.B0, I.wB, I.wM, I.M0, askersT_nodup rows d T I.nF _, I.nT, ?_, ?_, ?_, ?_, I.tl, I.ch⟩, hx⟩
  · rw [askersT_look, I.offk]
    split <;> exact I.f0
  · intro a x h
    rcases hold a x h with h | ⟨t, y, w, h1, h2, h3, h4⟩
    · exact I.f1 a x h
    · exact .inr ⟨t, w, y, h1, h3, h2, by omega⟩
  · intro a x h
    rcases hold a x h with h | ⟨t, y, w, h1, h2, h3, h4⟩
    · exact I.fl a x h
    · have h5 := (I.tl t y h2).1
      have h6 := (I.wB a t w h3).2
      rw [Int.add_mul, Int.one_mul]; omega
  · intro t y h
    obtain ⟨h1, a, x, w, h2, h3, h4, h5, h6⟩ := I.t1 t y h
    refine ⟨h1, a, ?_⟩
    by_cases e : a = k
    · subst e
      refine ⟨x, w, h2, ?_, h4, h5, h6⟩
      rw [askersT_look, I.offk]
      split <;> exact h3
    · rcases I.f1 a x h3 with e' | ⟨t', w', y', g1, g2, g3, g4⟩
      · exact absurd e' e
      · exact ⟨y' - w', w, h2, hx a t' y' w' g1 g3 g2, h4, h5, by omega⟩

/-- nothing is reached better any more -/
structure Done (rows : List (Al Int)) (cp : Nat → Nat) (m k : Nat) (d : Deal) (u p : Nat → Int) (M B : Int) (F T : Al Int) (K : Al Nat) : Prop where
  I : RInv rows cp m k d u p M B F T K
  ex : Exact rows d F T
  cl : ∀ a g t w, look F a = some g → look (row rows a) t = some w → got d a = some t ∨ ∃ y, look T t = some y ∧ g + w ≤ y
theorem done_of {s : TS3} (nr : ∀ a, (keys (row rows a)).Nodup) (I : RInv rows cp m k d u p M B F T K) (ex : Exact rows d F T) (e : thingsT rows d F F.length (T, K, false) = s) (h : s.2.2 = false) :
    s.1 = T ∧ s.2.1 = K ∧ Done rows cp m k d u p M B F T K := by
  subst e
  obtain ⟨J, hc⟩ := thingsT_inv nr I F.length
  obtain ⟨e1, e2⟩ := J.same h
  refine ⟨e1, e2, I, ex, fun a g t w hF hw => ?_⟩
  obtain ⟨i, hi, e3⟩ := List.mem_iff_getElem.mp (look_mem hF)
  obtain ⟨j, hj, e4⟩ := List.mem_iff_getElem.mp (look_mem hw)
  exact hc h i (a, g) hi (by rw [List.getElem?_eq_getElem hi, e3]) j (t, w) (by rw [List.getElem?_eq_getElem hj, e4])
/-- one more round -/
theorem round_of {s : TS3} (nr : ∀ a, (keys (row rows a)).Nodup) (I : RInv rows cp m k d u p M B F T K) (e : thingsT rows d F F.length (T, K, false) = s) (h : s.2.2 = true) :
    RInv rows cp m k d u p M B (askersT rows d s.1 d.length F) s.1 s.2.1 ∧ Exact rows d (askersT rows d s.1 d.length F) s.1 ∧ mu m p M B s.1 < mu m p M B T := by
  subst e
  obtain ⟨J, _⟩ := thingsT_inv nr I F.length
  obtain ⟨I2, ex⟩ := J.I.askers
  exact ⟨I2, ex, J.lt h⟩
end
end WD

namespace WD
set_option linter.all false
/-! ### end_by -/
abbrev End := Nat × Option Nat
def stepF (q : Nat × Int) (s : Int × Option End) : Int × Option End := if s.1 < q.2 then (q.2, some (q.1, none)) else s
def endF (F : Al Int) (n : Nat) (s : Int × Option End) : Int × Option End := iter (fun i s => match F[i]? with | some q => stepF q s | none => s) n s
def stepE (left : Nat → Int) (K : Al Nat) (q : Nat × Int) (s : Int × Option End) : Int × Option End :=
  if 0 < left q.1 ∧ s.1 < q.2 then (q.2, some ((look K q.1).getD 0, some q.1)) else s
def endT (left : Nat → Int) (K : Al Nat) (T : Al Int) (n : Nat) (s : Int × Option End) : Int × Option End := iter (fun i s => match T[i]? with | some q => stepE left K q s | none => s) n s
/-- how a way ends that gains most -/
structure EndOk (F T : Al Int) (K : Al Nat) (left : Nat → Int) (s : Int × Option End) : Prop where
  pos : 0 ≤ s.1
  none_ : s.2 = none → s.1 = 0
  some_ : ∀ e, s.2 = some e → 0 < s.1 ∧ ((e.2 = none ∧ look F e.1 = some s.1) ∨ ∃ t, e.2 = some t ∧ look T t = some s.1 ∧ 0 < left t ∧ e.1 = (look K t).getD 0)
  hF : ∀ a g, look F a = some g → g ≤ s.1
  hT : ∀ t g, look T t = some g → 0 < left t → g ≤ s.1
theorem end_ok {F T : Al Int} {K : Al Nat} (left : Nat → Int) (nF : (keys F).Nodup) (nT : (keys T).Nodup) : EndOk F T K left (endT left K T T.length (endF F F.length (0, none))) := by
  have h1 : ∀ n, 0 ≤ (endF F n (0, none)).1 ∧ ((endF F n (0, none)).2 = none → (endF F n (0, none)).1 = 0) ∧ (∀ e, (endF F n (0, none)).2 = some e → 0 < (endF F n (0, none)).1 ∧ e.2 = none ∧ look F e.1 = some (endF F n (0, none)).1) ∧
      ∀ (i : Nat) (q : Nat × Int), i < n → F[i]? = some q → q.2 ≤ (endF F n (0, none)).1 := by
    intro n
    unfold endF
    refine iter_inv (fun n (s : Int × Option End) => 0 ≤ s.1 ∧ (s.2 = none → s.1 = 0) ∧ (∀ e, s.2 = some e → 0 < s.1 ∧ e.2 = none ∧ look F e.1 = some s.1) ∧ ∀ (i : Nat) (q : Nat × Int), i < n → F[i]? = some q → q.2 ≤ s.1)
      ⟨Int.le_refl _, fun _ => rfl, fun e h => (by cases h), fun i q h => absurd h (Nat.not_lt_zero _)⟩ n ?_
    rintro i s hi ⟨g1, g2, g3, g4⟩
    cases hq : F[i]? with
    | none =>
      refine ⟨g1, g2, g3, fun j q hj hjq => ?_⟩
      rcases Nat.lt_succ_iff_lt_or_eq.mp hj with hj | hj
      · exact g4 j q hj hjq
      · subst hj; rw [hq] at hjq; cases hjq
    | some b =>
      have hb : look F b.1 = some b.2 := mem_look nF (List.mem_of_getElem? hq)
      dsimp only
      unfold stepF
      by_cases hl : s.1 < b.2
      · rw [if_pos hl]
        refine ⟨by show (0 : Int) ≤ b.2; omega, (fun e => by cases e), fun e he => ?_, fun j q hj hjq => ?_⟩
        · cases he; exact ⟨by show (0 : Int) < b.2; omega, rfl, hb⟩
        · rcases Nat.lt_succ_iff_lt_or_eq.mp hj with hj | hj
          · have := g4 j q hj hjq; show q.2 ≤ b.2; omega
          · subst hj; rw [hq] at hjq; cases hjq; exact Int.le_refl _
      · rw [if_neg hl]
        refine ⟨g1, g2, g3, fun j q hj hjq => ?_⟩
        rcases Nat.lt_succ_iff_lt_or_eq.mp hj with hj | hj
        · exact g4 j q hj hjq
        · subst hj; rw [hq] at hjq; cases hjq; omega
  obtain ⟨g1, g2, g3, g4⟩ := h1 F.length
  have hFa : ∀ a g, look F a = some g → g ≤ (endF F F.length (0, none)).1 := fun a g h => by
    obtain ⟨i, hi, e⟩ := List.mem_iff_getElem.mp (look_mem h)
    exact g4 i (a, g) hi (by rw [List.getElem?_eq_getElem hi, e])
  generalize endF F F.length (0, none) = s₀ at g1 g2 g3 hFa
  have h2 : ∀ n, EndOk F T K left (endT left K T n s₀) → True := fun _ _ => trivial
  have h3 : ∀ n, 0 ≤ (endT left K T n s₀).1 ∧ ((endT left K T n s₀).2 = none → (endT left K T n s₀).1 = 0) ∧
      (∀ e, (endT left K T n s₀).2 = some e → 0 < (endT left K T n s₀).1 ∧ ((e.2 = none ∧ look F e.1 = some (endT left K T n s₀).1) ∨ ∃ t, e.2 = some t ∧ look T t = some (endT left K T n s₀).1 ∧ 0 < left t ∧ e.1 = (look K t).getD 0)) ∧
      (∀ a g, look F a = some g → g ≤ (endT left K T n s₀).1) ∧ ∀ (i : Nat) (q : Nat × Int), i < n → T[i]? = some q → 0 < left q.1 → q.2 ≤ (endT left K T n s₀).1 := by
    intro n
    unfold endT
    refine iter_inv (fun n (s : Int × Option End) => 0 ≤ s.1 ∧ (s.2 = none → s.1 = 0) ∧
      (∀ e, s.2 = some e → 0 < s.1 ∧ ((e.2 = none ∧ look F e.1 = some s.1) ∨ ∃ t, e.2 = some t ∧ look T t = some s.1 ∧ 0 < left t ∧ e.1 = (look K t).getD 0)) ∧
      (∀ a g, look F a = some g → g ≤ s.1) ∧ ∀ (i : Nat) (q : Nat × Int), i < n → T[i]? = some q → 0 < left q.1 → q.2 ≤ s.1) ⟨g1, g2, fun e he => ⟨(g3 e he).1, .inl (g3 e he).2⟩, hFa, fun i q h => absurd h (Nat.not_lt_zero _)⟩ n ?_
    rintro i s hi ⟨g1, g2, g3, g4, g5⟩
    cases hq : T[i]? with
    | none =>
      refine ⟨g1, g2, g3, g4, fun j q hj hjq => ?_⟩
      rcases Nat.lt_succ_iff_lt_or_eq.mp hj with hj | hj
      · exact g5 j q hj hjq
      · subst hj; rw [hq] at hjq; cases hjq
    | some b =>
      have hb : look T b.1 = some b.2 := mem_look nT (List.mem_of_getElem? hq)
      dsimp only
      unfold stepE
      by_cases hl : 0 < left b.1 ∧ s.1 < b.2
      · rw [if_pos hl]
        refine ⟨by show (0 : Int) ≤ b.2; omega, (fun e => by cases e), fun e he => ?_, fun a g h => ?_, fun j q hj hjq hlq => ?_⟩
        · cases he; exact ⟨by show (0 : Int) < b.2; omega, .inr ⟨b.1, rfl, hb, hl.1, rfl⟩⟩
        · have := g4 a g h; show g ≤ b.2; omega
        · rcases Nat.lt_succ_iff_lt_or_eq.mp hj with hj | hj
          · have := g5 j q hj hjq hlq; show q.2 ≤ b.2; omega
          · subst hj; rw [hq] at hjq; cases hjq; exact Int.le_refl _
      · rw [if_neg hl]
        refine ⟨g1, g2, g3, g4, fun j q hj hjq hlq => ?_⟩
        rcases Nat.lt_succ_iff_lt_or_eq.mp hj with hj | hj
        · exact g5 j q hj hjq hlq
        · subst hj; rw [hq] at hjq; cases hjq; omega
  obtain ⟨k1, k2, k3, k4, k5⟩ := h3 T.length
  refine ⟨k1, k2, k3, k4, fun t g h hl => ?_⟩
  obtain ⟨i, hi, e⟩ := List.mem_iff_getElem.mp (look_mem h)
  exact k5 i (t, g) hi (by rw [List.getElem?_eq_getElem hi, e]) hl

/-! ### the way, told back from its end -/
/-- the steps ahead of asker a, the last one first -/
inductive RPath (d : Deal) (K : Al Nat) (k : Nat) : Nat → List (Nat × Nat) → Prop where
  | base : RPath d K k k []
  | step {a t b : Nat} {l : List (Nat × Nat)} : a ≠ k → got d a = some t → look K t = some b → RPath d K k b l → RPath d K k a ((b, t) :: l)
def app (d : Deal) : List (Nat × Nat) → Deal
  | [] => d
  | x :: l => (app d l).set x.1 (some x.2)
section
variable {rows : List (Al Int)} {cp : Nat → Nat} {m k : Nat} {d : Deal} {u p : Nat → Int} {M B : Int} {F T : Al Int} {K : Al Nat}
theorem RPath.one {a : Nat} {l : List (Nat × Nat)} (h : RPath d K k a l) : ∀ {l'}, RPath d K k a l' → l = l' := by
  induction h with
  | base =>
    intro l' h'
    cases h' with
    | base => rfl
    | step h1 => exact absurd rfl h1
  | step h1 h2 h3 h4 ih =>
    intro l' h'
    cases h' with
    | base => exact absurd rfl h1
    | step g1 g2 g3 g4 =>
      rw [h2] at g2; cases g2
      rw [h3] at g3; cases g3
      rw [ih g4]
theorem RPath.within {a : Nat} {l : List (Nat × Nat)} (h : RPath d K k a l) : ∀ b ∈ l.map (·.1), ∃ l', RPath d K k b l' ∧ l'.length < l.length := by
  induction h with
  | base => intro b hb; simp at hb
  | @step a t b l h1 h2 h3 h4 ih =>
    intro c hc
    rcases List.mem_cons.mp hc with e | hc
    · subst e; exact ⟨l, h4, by simp⟩
    · obtain ⟨l', h5, h6⟩ := ih c hc
      exact ⟨l', h5, by simp; omega⟩
theorem RPath.out {a : Nat} {l : List (Nat × Nat)} (h : RPath d K k a l) : a ∉ l.map (·.1) := fun hm => by
  obtain ⟨l', h1, h2⟩ := h.within a hm
  rw [h.one h1] at h2
  omega
theorem RPath.len {d' : Deal} : ∀ l : List (Nat × Nat), (app d' l).length = d'.length
  | [] => rfl
  | x :: l => by simp only [app, List.length_set]; exact RPath.len l
theorem app_out {b : Nat} : ∀ l : List (Nat × Nat), b ∉ l.map (·.1) → got (app d l) b = got d b
  | [], _ => rfl
  | x :: l, h => by
    have h1 : b ≠ x.1 := fun e => h (by rw [e]; exact List.mem_cons_self)
    have h2 : b ∉ l.map (·.1) := fun e => h (List.mem_cons_of_mem _ e)
    simp only [app]
    rw [got_set, if_neg fun e => h1 e.1]
    exact app_out l h2
/-- each reached asker has a path -/
theorem RInv.path (I : RInv rows cp m k d u p M B F T K) {a : Nat} {x : Int} (h : look F a = some x) : ∃ l, RPath d K k a l := by
  have key : ∀ t, Fin (nxt d K) t → ∀ y, look T t = some y → ∃ b l, look K t = some b ∧ RPath d K k b l := by
    intro t f
    induction f with
    | @end_ t hn =>
      intro y hy
      obtain ⟨_, b, x, w, h2, h3, h4, h5, h6⟩ := I.t1 t y hy
      by_cases e : b = k
      · subst e; exact ⟨_, [], h2, .base⟩
      · obtain ⟨s, y', g1, _, _⟩ := I.gain h3 e
        have : nxt d K t = some s := by unfold nxt; rw [h2]; exact g1
        rw [hn] at this; cases this
    | @go t s hn f ih =>
      intro y hy
      obtain ⟨_, b, x, w, h2, h3, h4, h5, h6⟩ := I.t1 t y hy
      have e1 : got d b = some s := by
        unfold nxt at hn
        rw [h2] at hn; exact hn
      have e : b ≠ k := fun e => by rw [e, I.offk] at e1; cases e1
      obtain ⟨s', y', g1, g2, _⟩ := I.gain h3 e
      rw [e1] at g1; cases g1
      obtain ⟨c, l, g3, g4⟩ := ih y' g2
      exact ⟨b, (c, s) :: l, h2, .step e e1 g3 g4⟩
  by_cases e : a = k
  · subst e; exact ⟨[], .base⟩
  · obtain ⟨t, y, g1, g2, _⟩ := I.gain h e
    obtain ⟨b, l, g3, g4⟩ := key t (I.ch t) y g2
    exact ⟨(b, t) :: l, .step e g1 g3 g4⟩

/-! ### the paper behind the way -/
def nu (k : Nat) (u : Nat → Int) (F : Al Int) (D : Int) (a : Nat) : Int := if a = k then D else match look F a with
  | none => u a
  | some x => if D < x + u a then D - x else u a
def np (p : Nat → Int) (T : Al Int) (D : Int) (t : Nat) : Int := match look T t with
  | none => p t
  | some y => if D < y - p t then y - D else p t
theorem np_ge (T : Al Int) (D : Int) (t : Nat) : p t ≤ np p T D t := by
  unfold np
  cases look T t with
  | none => exact Int.le_refl _
  | some y => simp only; split <;> omega
theorem np_ge2 {D : Int} {t : Nat} {y : Int} (h : look T t = some y) : y - D ≤ np p T D t := by
  unfold np
  rw [h]; simp only; split <;> omega
def Tg (rows : List (Al Int)) (k : Nat) (u p : Nat → Int) (F T : Al Int) (D : Int) (b t : Nat) : Prop := ∃ w, look (row rows b) t = some w ∧ w = nu k u F D b + np p T D t
/-- a reached thing is reached just by its taker -/
theorem Done.taker (Q : Done rows cp m k d u p M B F T K) {t : Nat} {y : Int} (h : look T t = some y) : ∃ b x w, look K t = some b ∧ look F b = some x ∧ look (row rows b) t = some w ∧ got d b ≠ some t ∧ y = x + w := by
  obtain ⟨_, b, x, w, h2, h3, h4, h5, h6⟩ := Q.I.t1 t y h
  rcases Q.cl b x t w h3 h4 with e | ⟨y', e1, e2⟩
  · exact absurd e h5
  · rw [h] at e1; cases e1
    exact ⟨b, x, w, h2, h3, h4, h5, by omega⟩
theorem Done.fx (Q : Done rows cp m k d u p M B F T K) {a : Nat} {x : Int} (h : look F a = some x) (hk : a ≠ k) : ∃ t y w, got d a = some t ∧ look T t = some y ∧ look (row rows a) t = some w ∧ x = y - w ∧ w = u a + p t := by
  rcases Q.I.f1 a x h with e | ⟨t, w, y, h1, h2, h3, h4⟩
  · exact absurd e hk
  · have := Q.ex a t y w h1 h3 h2
    rw [h] at this; cases this
    exact ⟨t, y, w, h1, h3, h2, rfl, Q.I.C.tight a t w h1 h2⟩
/-- a step of a way: its taker may have it by the new paper -/
theorem Done.stepOk (Q : Done rows cp m k d u p M B F T K) {D : Int} {t : Nat} {y : Int} (h : look T t = some y) (hD : D ≤ y - p t) :
    ∃ b x, look K t = some b ∧ look F b = some x ∧ Tg rows k u p F T D b t ∧ (b = k ∨ D ≤ x + u b) := by
  obtain ⟨b, x, w, h2, h3, h4, h5, h6⟩ := Q.taker h
  refine ⟨b, x, h2, h3, ⟨w, h4, ?_⟩, ?_⟩
  · have e1 : np p T D t = y - D := by
      unfold np
      rw [h]; simp only; split <;> omega
    rw [e1]
    unfold nu
    by_cases e : b = k
    · subst e
      rw [Q.I.f0] at h3; cases h3
      rw [if_pos rfl]; omega
    · rw [if_neg e, h3]
      obtain ⟨s, y', w', g1, g2, g3, g4, g5⟩ := Q.fx h3 e
      have := Q.I.C.cov b t w (Q.I.C.below g1) h4
      simp only; split <;> omega
  · by_cases e : b = k
    · exact .inl e
    · obtain ⟨s, y', w', g1, g2, g3, g4, g5⟩ := Q.fx h3 e
      have := Q.I.C.cov b t w (Q.I.C.below g1) h4
      exact .inr (by omega)
/-- the dealing along a path: counts, who is in it, what is tight -/
theorem Done.along (Q : Done rows cp m k d u p M B F T K) {D : Int} {a : Nat} {l : List (Nat × Nat)} (P : RPath d K k a l) : ∀ {x : Int}, look F a = some x → (a = k ∨ D ≤ x + u a) →
    (∀ t, cnt (app d l) t = cnt d t + if got d a = some t then 1 else 0) ∧ (∀ b t, got (app d l) b = some t → got d b = some t ∨ Tg rows k u p F T D b t) ∧ (∀ b ∈ l.map (·.1), b ≤ k) ∧
      (∀ b t, got d b = some t → ∃ s, got (app d l) b = some s) ∧ (a ≠ k → ∃ s, got (app d l) k = some s) := by
  induction P with
  | base =>
    intro x hx hd
    refine ⟨fun t => ?_, fun b t h => .inl h, fun b hb => by simp at hb, fun b t h => ⟨t, h⟩, fun h => absurd rfl h⟩
    rw [Q.I.offk]; simp [app]
  | @step a t b l h1 h2 h3 h4 ih =>
    intro x hx hd
    obtain ⟨s, y, w, g1, g2, g3, g4, g5⟩ := Q.fx hx h1
    rw [h2] at g1; cases g1
    have hd' : D ≤ y - p t := by
      rcases hd with e | e
      · exact absurd e h1
      · omega
    obtain ⟨b', x', e1, e2, e3, e4⟩ := Q.stepOk g2 hd'
    rw [h3] at e1; cases e1
    obtain ⟨i1, i2, i3, i4, i5⟩ := ih e2 e4
    have hout : got (app d l) b = got d b := app_out l h4.out
    have hbk : b ≤ k := by
      by_cases e : b = k
      · omega
      · obtain ⟨s', y', w', g1, _⟩ := Q.fx e2 e
        exact Nat.le_of_lt (Q.I.C.below g1)
    have hbl : b < (app d l).length := by rw [RPath.len, Q.I.C.feas.len]; have := Q.I.kn; omega
    refine ⟨fun t' => ?_, fun c t' hc => ?_, fun c hc => ?_, fun c t' hc => ?_, fun _ => ?_⟩
    · have := cnt_set (app d l) hbl (some t) t'
      rw [i1 t', hout] at this
      simp only [app]
      rw [h2]
      omega
    · simp only [app] at hc
      rw [got_set] at hc
      by_cases e : c = b ∧ b < (app d l).length
      · rw [if_pos e] at hc
        cases hc
        rw [e.1]; exact .inr e3
      · rw [if_neg e] at hc
        exact i2 c t' hc
    · rcases List.mem_cons.mp hc with e | hc
      · subst e; exact hbk
      · exact i3 c hc
    · simp only [app]
      rw [got_set]
      split
      · exact ⟨t, rfl⟩
      · exact i4 c t' hc
    · simp only [app]
      rw [got_set]
      split
      · exact ⟨t, rfl⟩
      · rename_i hne
        by_cases e : b = k
        · exact absurd ⟨e.symm, hbl⟩ hne
        · exact i5 e
/-- the dealing behind the way -/
def dealtBy (d : Deal) (l : List (Nat × Nat)) (e : End) : Deal := (app d l).set e.1 e.2
/-- a certificate for one asker more, behind the way that gains most -/
theorem Done.cert (Q : Done rows cp m k d u p M B F T K) {s : Int × Option End} (E : EndOk F T K (fun t => (cp t : Int) - cnt d t) s) (d' : Deal)
    (hd : (s.2 = none ∧ d' = d) ∨ ∃ e l, s.2 = some e ∧ RPath d K k e.1 l ∧ d' = dealtBy d l e) : ∃ u' p', Cert rows cp m (k + 1) d' u' p' := by
  have C := Q.I.C
  -- what the new dealing is
  have key : d'.length = d.length ∧ (∀ b t, got d' b = some t → got d b = some t ∨ Tg rows k u p F T s.1 b t) ∧ (∀ b, k < b → got d' b = none) ∧ (∀ t, cnt d t ≤ cnt d' t) ∧ (∀ t, cnt d' t ≤ cp t) ∧
      (∀ b t, got d b = some t → (∃ s, got d' b = some s) ∨ look F b = some s.1) ∧ (0 < s.1 → ∃ t, got d' k = some t) := by
    rcases hd with ⟨hn, rfl⟩ | ⟨e, l, he, P, rfl⟩
    · refine ⟨rfl, fun b t h => .inl h, fun b hb => C.off b (by omega), fun t => Nat.le_refl _, C.feas.fits, fun b t h => .inl ⟨t, h⟩, fun h => ?_⟩
      have := E.none_ hn; omega
    · obtain ⟨hpos, hcase⟩ := E.some_ e he
      rcases hcase with ⟨e2, hFe⟩ | ⟨t, e2, hTe, hleft, hKe⟩
      · -- the last asker ends with nothing
        have hak : e.1 ≠ k := fun q => by
          rw [q, Q.I.f0] at hFe
          have := Option.some.inj hFe; omega
        obtain ⟨t, y, w, g1, g2, g3, g4, g5⟩ := Q.fx hFe hak
        have hu := C.u0 e.1
        obtain ⟨i1, i2, i3, i4, i5⟩ := Q.along (D := s.1) P hFe (.inr (by omega))
        have hout : got (app d l) e.1 = got d e.1 := app_out l P.out
        have hel : e.1 < (app d l).length := by rw [RPath.len]; exact got_lt g1
        have hbk := C.below g1
        refine ⟨by unfold dealtBy; rw [List.length_set, RPath.len], fun b t' h => ?_, fun b hb => ?_, fun t' => ?_, fun t' => ?_, fun b t' h => ?_, fun _ => ?_⟩
        · unfold dealtBy at h
          rw [got_set] at h
          split at h
          · rw [e2] at h; cases h
          · exact i2 b t' h
        · unfold dealtBy
          rw [got_set, if_neg fun q => by omega]
          rw [app_out l fun q => by have := i3 b q; omega]
          exact C.off b (by omega)
        · have := cnt_set (app d l) hel e.2 t'
          unfold dealtBy
          rw [i1 t', hout, e2] at this
          rw [e2]
          simp at this
          omega
        · have := cnt_set (app d l) hel e.2 t'
          unfold dealtBy
          rw [i1 t', hout, e2] at this
          rw [e2]
          have h3 := C.feas.fits t'
          simp at this
          omega
        · unfold dealtBy
          rw [got_set]
          by_cases q : b = e.1
          · right; rw [q]; exact hFe
          · left
            rw [if_neg fun z => q z.1]
            exact i4 b t' h
        · unfold dealtBy
          rw [got_set, if_neg fun z => hak z.1.symm]
          exact i5 hak
      · -- the last asker takes what is left
        obtain ⟨tm, _⟩ := Q.I.t1 t _ hTe
        have hp0 : p t = 0 := by
          have h1 := C.p0 t
          by_cases q : 0 < p t
          · have := C.full t tm q
            have h9 : 0 < (cp t : Int) - cnt d t := hleft
            omega
          · omega
        obtain ⟨b', x', e1, e3, e4, e5⟩ := Q.stepOk (D := s.1) hTe (by omega)
        have ee : e.1 = b' := by rw [hKe, e1]; rfl
        rw [ee] at P
        obtain ⟨i1, i2, i3, i4, i5⟩ := Q.along (D := s.1) P e3 e5
        have hout : got (app d l) b' = got d b' := app_out l P.out
        have hbk : b' ≤ k := by
          by_cases q : b' = k
          · omega
          · obtain ⟨s', y', w', g1, _⟩ := Q.fx e3 q
            exact Nat.le_of_lt (C.below g1)
        have hel : b' < (app d l).length := by rw [RPath.len, C.feas.len]; have := Q.I.kn; omega
        have hcnt : ∀ t', cnt (dealtBy d l e) t' = cnt d t' + if t = t' then 1 else 0 := fun t' => by
          have := cnt_set (app d l) hel (some t) t'
          rw [i1 t', hout] at this
          unfold dealtBy
          rw [ee, e2]
          simp at this ⊢
          omega
        refine ⟨by unfold dealtBy; rw [List.length_set, RPath.len], fun b t' h => ?_, fun b hb => ?_, fun t' => ?_, fun t' => ?_, fun b t' h => .inl ?_, fun _ => ?_⟩
        · unfold dealtBy at h
          rw [got_set, ee] at h
          by_cases q : b = b' ∧ b' < (app d l).length
          · rw [if_pos q, e2] at h
            cases h
            rw [q.1]; exact .inr e4
          · rw [if_neg q] at h
            exact i2 b t' h
        · unfold dealtBy
          rw [got_set, ee, if_neg fun q => by omega]
          rw [app_out l fun q => by have := i3 b q; omega]
          exact C.off b (by omega)
        · rw [hcnt]; omega
        · rw [hcnt]
          have h3 := C.feas.fits t'
          by_cases q : t = t'
          · subst q
            have h9 : 0 < (cp t : Int) - cnt d t := hleft
            rw [if_pos rfl]; omega
          · rw [if_neg q]; omega
        · unfold dealtBy
          rw [got_set, ee]
          split
          · exact ⟨t, e2⟩
          · exact i4 b t' h
        · unfold dealtBy
          rw [got_set, ee]
          split
          · exact ⟨t, e2⟩
          · rename_i hne
            by_cases q : b' = k
            · exact absurd ⟨q.symm, hel⟩ hne
            · exact i5 q
  obtain ⟨hlen, htg, hoff, hge, hfit, hsome, hk⟩ := key
  have hD := E.pos
  -- what was tight stays so
  have hold : ∀ b t w, got d b = some t → look (row rows b) t = some w → w = nu k u F s.1 b + np p T s.1 t := by
    intro b t w h1 h2
    have h3 := C.tight b t w h1 h2
    have hbk : b ≠ k := fun q => by rw [q, Q.I.offk] at h1; cases h1
    unfold nu np
    rw [if_neg hbk]
    cases hT : look T t with
    | some y =>
      rw [Q.ex b t y w h1 hT h2]
      simp only
      split <;> split <;> omega
    | none =>
      have : look F b = none := by
        cases hF : look F b with
        | none => rfl
        | some x =>
          obtain ⟨t', y', w', g1, g2, _⟩ := Q.fx hF hbk
          rw [h1] at g1; cases g1
          rw [hT] at g2; cases g2
      rw [this]; exact h3
  refine ⟨nu k u F s.1, np p T s.1, ⟨⟨by rw [hlen]; exact C.feas.len, fun b t h => ?_, hfit⟩, C.keys, fun b hb => hoff b (by omega), fun a => ?_, fun t => Int.le_trans (C.p0 t) (np_ge T s.1 t), fun a t w ha hw => ?_, fun b t w h hw => ?_, fun a ha hu => ?_, fun t tm ht => ?_⟩⟩
  · rcases htg b t h with h | ⟨w, hw, _⟩
    · exact C.feas.wish b t h
    · exact ⟨w, hw⟩
  · unfold nu
    split
    · exact hD
    · cases hF : look F a with
      | none => exact C.u0 a
      | some x =>
        have h1 := E.hF a x hF
        have h2 := C.u0 a
        simp only; split <;> omega
  · by_cases e : a = k
    · subst e
      rcases Q.cl a 0 t w Q.I.f0 hw with q | ⟨y, q1, q2⟩
      · rw [Q.I.offk] at q; cases q
      · have := np_ge2 (p := p) (D := s.1) q1
        unfold nu
        rw [if_pos rfl]; omega
    · have h1 := C.cov a t w (by omega) hw
      have h2 := np_ge (p := p) T s.1 t
      unfold nu
      rw [if_neg e]
      cases hF : look F a with
      | none => simp only; omega
      | some x =>
        simp only
        split
        · rcases Q.cl a x t w hF hw with q | ⟨y, q1, q2⟩
          · obtain ⟨t', y', w', g1, g2, g3, g4, g5⟩ := Q.fx hF e
            rw [q] at g1; cases g1
            rw [hw] at g3; cases g3
            have := np_ge2 (p := p) (D := s.1) g2
            omega
          · have := np_ge2 (p := p) (D := s.1) q1
            omega
        · omega
  · rcases htg b t h with h | ⟨w', hw', e⟩
    · exact hold b t w h hw
    · rw [hw] at hw'; cases hw'; exact e
  · by_cases e : a = k
    · subst e
      unfold nu at hu
      rw [if_pos rfl] at hu
      exact hk hu
    · unfold nu at hu
      rw [if_neg e] at hu
      have hua : 0 < u a := by
        cases hF : look F a with
        | none => rw [hF] at hu; exact hu
        | some x => rw [hF] at hu; simp only at hu; split at hu <;> omega
      obtain ⟨t, ht⟩ := C.some_ a (by omega) hua
      rcases hsome a t ht with h | h
      · exact h
      · rw [h] at hu
        simp only at hu
        split at hu <;> omega
  · have h1 := hge t
    have h2 := hfit t
    by_cases hp : 0 < p t
    · have := C.full t tm hp; omega
    · have hp0 := C.p0 t
      unfold np at ht
      cases hT : look T t with
      | none => rw [hT] at ht; simp only at ht; omega
      | some y =>
        rw [hT] at ht
        simp only at ht
        split at ht
        · by_cases q : 0 < (cp t : Int) - cnt d t
          · have := E.hT t y hT q; omega
          · omega
        · omega
end
end WD

namespace WD
set_option linter.all false
section
variable {rows : List (Al Int)} {cp : Nat → Nat} {m k : Nat} {d : Deal} {u p : Nat → Int} {M B : Int} {F T : Al Int} {K : Al Nat}
/-! ### the start: nobody has anything; one asker more -/
theorem got_rep (n a : Nat) : got (List.replicate n (none : Option Nat)) a = none := by
  unfold got
  rw [List.getD_eq_getElem?_getD, List.getElem?_replicate]
  split <;> rfl
theorem cnt_rep (n t : Nat) : cnt (List.replicate n (none : Option Nat)) t = 0 := by
  unfold cnt
  rw [List.count_replicate]; simp
theorem cert_start (cp : Nat → Nat) (hk : ∀ a t w, look (row rows a) t = some w → t < m) : Cert rows cp m 0 (List.replicate rows.length none) (fun _ => 0) (fun _ => 0) :=
  ⟨⟨List.length_replicate, (fun a t h => by rw [got_rep] at h; cases h), (fun t => by rw [cnt_rep]; omega)⟩, hk, fun a _ => got_rep _ a, fun _ => Int.le_refl _, fun _ => Int.le_refl _, fun a t w h => absurd h (Nat.not_lt_zero _),
    (fun a t w h => by rw [got_rep] at h; cases h), fun a h => absurd h (Nat.not_lt_zero _), fun t _ h => absurd h (Int.lt_irrefl _)⟩
theorem rinv_start (C : Cert rows cp m k d u p) (hk : k < rows.length) (B0 : 0 ≤ B) (wB : ∀ a t w, look (row rows a) t = some w → 0 ≤ w ∧ w ≤ B) : RInv rows cp m k d u p B B [(k, 0)] [] [] ∧ Exact rows d [(k, 0)] [] := by
  refine ⟨⟨C, hk, B0, wB, fun t w h => ?_, B0, by simp [keys], by simp [keys], by simp [look], fun a x h => ?_, fun a x h => ?_, fun t y h => by simp [look] at h, fun t y h => by simp [look] at h, fun t => .end_ (by simp [nxt, look])⟩, fun a t y w h1 h2 => by simp [look] at h2⟩
  · have h1 := (wB k t w h).2
    have h2 := C.p0 t
    omega
  · left
    by_cases e : k = a
    · exact e.symm
    · simp [look, e] at h
  · by_cases e : k = a
    · simp [look, e] at h
      subst h
      simp; exact B0
    · simp [look, e] at h

/-! ### prices -/
def pAt (q : List Int) (t : Nat) : Int := q.getD t 0
theorem pAt_set (q : List Int) (t s : Nat) (v : Int) (h : t < q.length) : pAt (q.set t v) s = if s = t then v else pAt q s := by
  unfold pAt
  rw [List.getD_eq_getElem?_getD, List.getElem?_set, List.getD_eq_getElem?_getD]
  by_cases e : t = s
  · subst e; simp [h]
  · have : ¬ s = t := fun q => e q.symm
    simp [e, this]
def rest (rows : List (Al Int)) (d : Deal) (q : List Int) (a : Nat) : Int := match got d a with
  | none => 0
  | some t => (look (row rows a) t).getD 0 - pAt q t
def pn (d r : Deal) (t : Nat) : Option Nat := (got r t).bind (got d)
structure PInv (rows : List (Al Int)) (cp : Nat → Nat) (m : Nat) (d : Deal) (u p : Nat → Int) (q : List Int) (r : Deal) : Prop where
  C : Cert rows cp m rows.length d u p
  lq : q.length = m
  lr : r.length = m
  le : ∀ t, pAt q t ≤ p t
  r1 : ∀ t a, got r t = some a → a < rows.length ∧ ∃ w, look (row rows a) t = some w ∧ pAt q t ≤ w - rest rows d q a
  ch : ∀ t, Fin (pn d r) t
def nuP (m : Nat) (p : Nat → Int) (q : List Int) : Nat := (sm (fun t => p t - pAt q t) m).toNat
theorem PInv.rest_ge (J : PInv rows cp m d u p q r) {a : Nat} (ha : a < rows.length) : u a ≤ rest rows d q a := by
  unfold rest
  cases h : got d a with
  | none =>
    have h1 := J.C.u0 a
    by_cases e : 0 < u a
    · obtain ⟨t, ht⟩ := J.C.some_ a ha e
      rw [h] at ht; cases ht
    · simp only; omega
  | some t =>
    obtain ⟨w, hw⟩ := J.C.feas.wish a t h
    have h1 := J.C.tight a t w h hw
    have h2 := J.le t
    simp only [hw, Option.getD_some]; omega
theorem pinv_start (C : Cert rows cp m rows.length d u p) : PInv rows cp m d u p (List.replicate m 0) (List.replicate m none) := by
  refine ⟨C, List.length_replicate, List.length_replicate, fun t => ?_, (fun t a h => by rw [got_rep] at h; cases h), fun t => .end_ (by unfold pn; rw [got_rep]; rfl)⟩
  have : pAt (List.replicate m 0) t = 0 := by
    unfold pAt
    rw [List.getD_eq_getElem?_getD, List.getElem?_replicate]
    split <;> rfl
  rw [this]; exact C.p0 t
/-- one price is raised -/
theorem PInv.raise {q : List Int} {r : Deal} (J : PInv rows cp m d u p q r) {a t : Nat} {w : Int} (hw : look (row rows a) t = some w) (hl : pAt q t < w - rest rows d q a) :
    PInv rows cp m d u p (q.set t (w - rest rows d q a)) (r.set t (some a)) ∧ nuP m p (q.set t (w - rest rows d q a)) < nuP m p q := by
  have ha := row_lt hw
  have tm := J.C.keys a t w hw
  have tq : t < q.length := by rw [J.lq]; exact tm
  have hu := J.rest_ge ha
  have hc := J.C.cov a t w ha hw
  have hset : ∀ s, pAt q s ≤ pAt (q.set t (w - rest rows d q a)) s := fun s => by
    rw [pAt_set _ _ _ _ tq]
    split
    · rename_i e; subst e; omega
    · exact Int.le_refl _
  have hrest : ∀ b, rest rows d (q.set t (w - rest rows d q a)) b ≤ rest rows d q b := fun b => by
    unfold rest
    cases got d b with
    | none => exact Int.le_refl _
    | some s => have := hset s; simp only; unfold rest at this; omega
  have hda : got d a ≠ some t := fun e => by
    unfold rest at hl
    rw [e] at hl
    simp only [hw, Option.getD_some] at hl; omega
  have hra : rest rows d (q.set t (w - rest rows d q a)) a = rest rows d q a := by
    have e1 : ∀ q', rest rows d q' a = match got d a with | none => 0 | some s => (look (row rows a) s).getD 0 - pAt q' s := fun _ => rfl
    rw [e1, e1 q]
    cases h : got d a with
    | none => rfl
    | some s =>
      have hst : s ≠ t := fun e => hda (by rw [h, e])
      simp only
      rw [pAt_set _ _ _ _ tq, if_neg hst]
  refine ⟨⟨J.C, by rw [List.length_set]; exact J.lq, by rw [List.length_set]; exact J.lr, fun s => ?_, fun s b hb => ?_, ?_⟩, ?_⟩
  · rw [pAt_set _ _ _ _ tq]
    split
    · rename_i e; subst e; omega
    · exact J.le s
  · rw [got_set] at hb
    by_cases e : s = t ∧ t < r.length
    · rw [if_pos e] at hb
      cases hb
      rw [e.1]
      refine ⟨ha, w, hw, ?_⟩
      rw [pAt_set _ _ _ _ tq, if_pos rfl, hra]; exact Int.le_refl _
    · rw [if_neg e] at hb
      obtain ⟨h1, w', h2, h3⟩ := J.r1 s b hb
      have hst : s ≠ t := fun q => e ⟨q, by rw [J.lr]; exact tm⟩
      refine ⟨h1, w', h2, ?_⟩
      rw [pAt_set _ _ _ _ tq, if_neg hst]
      have := hrest b
      omega
  · have en : pn d (r.set t (some a)) = npt (pn d r) t (got d a) := by
      funext y
      unfold pn npt
      rw [got_set]
      by_cases e : y = t
      · rw [if_pos ⟨e, by rw [J.lr]; exact tm⟩, if_pos e]; rfl
      · rw [if_neg fun q => e q.1, if_neg e]
    rw [en]
    refine fin_npt (fun y => w - rest rows d q a - p t ≤ pAt q y - p y) ?_ (fun h => by omega) ?_ J.ch
    · intro y s hy hn
      unfold pn at hn
      cases hr : got r y with
      | none => rw [hr] at hn; cases hn
      | some b =>
        rw [hr] at hn
        have hb : got d b = some s := hn
        obtain ⟨h1, w', h2, h3⟩ := J.r1 y b hr
        obtain ⟨ws, hws⟩ := J.C.feas.wish b s hb
        have h4 := J.C.tight b s ws hb hws
        have h5 := J.C.cov b y w' h1 h2
        have h6 : rest rows d q b = ws - pAt q s := by unfold rest; rw [hb]; simp only [hws, Option.getD_some]
        omega
    · intro s hs
      obtain ⟨ws, hws⟩ := J.C.feas.wish a s hs
      have h4 := J.C.tight a s ws hs hws
      have h6 : rest rows d q a = ws - pAt q s := by unfold rest; rw [hs]; simp only [hws, Option.getD_some]
      omega
  · unfold nuP
    have hlt : sm (fun s => p s - pAt (q.set t (w - rest rows d q a)) s) m < sm (fun s => p s - pAt q s) m := by
      refine sm_lt m (fun s _ => by have := hset s; omega) ⟨t, tm, ?_⟩
      rw [pAt_set _ _ _ _ tq, if_pos rfl]; omega
    have h0 : 0 ≤ sm (fun s => p s - pAt (q.set t (w - rest rows d q a)) s) m := by
      have := sm_le (f := fun _ => 0) (g := fun s => p s - pAt (q.set t (w - rest rows d q a)) s) m fun s _ => by
        rw [pAt_set _ _ _ _ tq]
        split
        · rename_i e; subst e; omega
        · have := J.le s; omega
      rw [sm_zero] at this; exact this
    omega
/-- how many steps a chain has -/
inductive Len (nx : Nat → Option Nat) : Nat → Nat → Prop where
  | end_ {t : Nat} : nx t = none → Len nx t 0
  | go {t s n : Nat} : nx t = some s → Len nx s n → Len nx t (n + 1)
theorem Fin.len {nx : Nat → Option Nat} {t : Nat} (f : Fin nx t) : ∃ n, Len nx t n := by
  induction f with
  | end_ h => exact ⟨0, .end_ h⟩
  | go h _ ih => obtain ⟨n, hn⟩ := ih; exact ⟨n + 1, .go h hn⟩
end
end WD

set_option Elab.async false
set_option linter.all false
set_option maxRecDepth 100000
namespace WD
open PySem PySem.Spec PyProof.Rows L2
/-! ### the text by places -/
def top (i : Nat) : Stmt := PySem.Challenge.pw_wishdeal_k75_whole_fewest_moved.main.body.getD i (.Pass ⟨0, 0, 0, 0⟩)
abbrev s_is_whole : Stmt := top 1
abbrev s_need_row : Stmt := top 12
abbrev s_is_many : Stmt := top 13
abbrev s_is_thing : Stmt := top 14
abbrev s_are_ranks : Stmt := top 15
abbrev s_look_at_wishes : Stmt := top 16
abbrev s_longest : Stmt := top 17
abbrev s_is_order : Stmt := top 19
abbrev s_is_old : Stmt := top 20
abbrev s_are_turns : Stmt := top 21
abbrev s_fault_of : Stmt := top 22
abbrev s_look_at_aim : Stmt := top 23
abbrev s_powers_of : Stmt := top 25
abbrev s_Scale_init : Stmt := inClass (top 26) 0
abbrev s_Scale_by_order : Stmt := inClass (top 26) 1
abbrev s_Scale_pick_of : Stmt := inClass (top 26) 2
abbrev s_Scale_of : Stmt := inClass (top 26) 3
abbrev s_worths_of : Stmt := top 27
abbrev s_all_worths : Stmt := top 28
abbrev s_rows_by : Stmt := top 30
abbrev s_left_by : Stmt := top 31
abbrev s_Reach_init : Stmt := inClass (top 32) 0
abbrev s_Reach_to_things : Stmt := inClass (top 32) 1
abbrev s_Reach_to_askers : Stmt := inClass (top 32) 2
abbrev s_Reach_go_on : Stmt := inClass (top 32) 3
abbrev s_Reach_end_by : Stmt := inClass (top 32) 4
abbrev s_Reach_way_to : Stmt := inClass (top 32) 5
abbrev s_best_way : Stmt := top 33
abbrev s_dealt_best : Stmt := top 34
abbrev s_Prices_init : Stmt := inClass (top 36) 0
abbrev s_Prices_rest : Stmt := inClass (top 36) 1
abbrev s_Prices_chain : Stmt := inClass (top 36) 2
abbrev s_Prices_way_by : Stmt := inClass (top 36) 3
abbrev s_Prices_raised_by : Stmt := inClass (top 36) 4
abbrev s_Prices_settle : Stmt := inClass (top 36) 5
abbrev s_Prices_told : Stmt := inClass (top 36) 6
abbrev s_best_dealing : Stmt := top 37
abbrev s_copied : Stmt := top 39
abbrev s_is_there : Stmt := top 40
abbrev s_put : Stmt := top 41
abbrev s_grown : Stmt := top 42
abbrev s_changed : Stmt := top 43
abbrev s_carried : Stmt := top 44
abbrev s_mended : Stmt := top 46
abbrev s_law_cell_at : Stmt := top 48
abbrev s_law_numbers : Stmt := top 49
abbrev s_law_wishes : Stmt := top 50
abbrev s_law_rank : Stmt := top 51
abbrev s_law_longest : Stmt := top 52
abbrev s_law_wished : Stmt := top 53
abbrev s_law_dealt : Stmt := top 54
abbrev s_law_worth : Stmt := top 55
abbrev s_law_bests : Stmt := top 56
abbrev s_law_ranks : Stmt := top 57
abbrev s_law_change : Stmt := top 58
abbrev s_law_good : Stmt := top 59
abbrev s_law_behind : Stmt := top 60
abbrev s_law_carried : Stmt := top 61
abbrev s_law_moved : Stmt := top 62
abbrev s_law_block : Stmt := top 63
abbrev s_law : Stmt := top 64
/-- a def of the top, a method: where it stands -/
structure FnA (K : PySem.W.Frag) (x qual : Str) (st : Stmt) (f : Addr) : Prop where
  ex : ∃ fd, FunD K x qual (defArgs st) (defBody st) (defScope st) [] [] f fd
structure DefA (K : PySem.W.Frag) (mg : Str → Option Value) (x : Str) (st : Stmt) : Prop where
  ex : ∃ f, mg x = some (.ref f) ∧ FnA K x x st f
structure MetA (K : PySem.W.Frag) (C : Addr) (m qual : Str) (st : Stmt) : Prop where
  ex : ∃ f, Meth K C m f ∧ FnA K m qual st f
structure IniA (K : PySem.W.Frag) (C : Addr) (qual : Str) (st : Stmt) : Prop where
  ex : ∃ f, Mk K C f ∧ FnA K "__init__" qual st f
/-- what the top has left: the defs, the classes at cS, cR, cP, the built-in names -/
structure Tx (K : PySem.W.Frag) (mg : Str → Option Value) (cS cR cP : Addr) : Prop where
  d_is_whole : DefA K mg "is_whole" s_is_whole
  d_need_row : DefA K mg "need_row" s_need_row
  d_is_many : DefA K mg "is_many" s_is_many
  d_is_thing : DefA K mg "is_thing" s_is_thing
  d_are_ranks : DefA K mg "are_ranks" s_are_ranks
  d_look_at_wishes : DefA K mg "look_at_wishes" s_look_at_wishes
  d_longest : DefA K mg "longest" s_longest
  d_is_order : DefA K mg "is_order" s_is_order
  d_is_old : DefA K mg "is_old" s_is_old
  d_are_turns : DefA K mg "are_turns" s_are_turns
  d_fault_of : DefA K mg "fault_of" s_fault_of
  d_look_at_aim : DefA K mg "look_at_aim" s_look_at_aim
  d_powers_of : DefA K mg "powers_of" s_powers_of
  d_worths_of : DefA K mg "worths_of" s_worths_of
  d_all_worths : DefA K mg "all_worths" s_all_worths
  d_rows_by : DefA K mg "rows_by" s_rows_by
  d_left_by : DefA K mg "left_by" s_left_by
  d_best_way : DefA K mg "best_way" s_best_way
  d_dealt_best : DefA K mg "dealt_best" s_dealt_best
  d_best_dealing : DefA K mg "best_dealing" s_best_dealing
  d_copied : DefA K mg "copied" s_copied
  d_is_there : DefA K mg "is_there" s_is_there
  d_put : DefA K mg "put" s_put
  d_grown : DefA K mg "grown" s_grown
  d_changed : DefA K mg "changed" s_changed
  d_carried : DefA K mg "carried" s_carried
  d_mended : DefA K mg "mended" s_mended
  d_law_cell_at : DefA K mg "_law_cell_at" s_law_cell_at
  d_law_numbers : DefA K mg "_law_numbers" s_law_numbers
  d_law_wishes : DefA K mg "_law_wishes" s_law_wishes
  d_law_rank : DefA K mg "_law_rank" s_law_rank
  d_law_longest : DefA K mg "_law_longest" s_law_longest
  d_law_wished : DefA K mg "_law_wished" s_law_wished
  d_law_dealt : DefA K mg "_law_dealt" s_law_dealt
  d_law_worth : DefA K mg "_law_worth" s_law_worth
  d_law_bests : DefA K mg "_law_bests" s_law_bests
  d_law_ranks : DefA K mg "_law_ranks" s_law_ranks
  d_law_change : DefA K mg "_law_change" s_law_change
  d_law_good : DefA K mg "_law_good" s_law_good
  d_law_behind : DefA K mg "_law_behind" s_law_behind
  d_law_carried : DefA K mg "_law_carried" s_law_carried
  d_law_moved : DefA K mg "_law_moved" s_law_moved
  d_law_block : DefA K mg "_law_block" s_law_block
  d_law : DefA K mg "law" s_law
  g_Scale : mg "Scale" = some (.ref cS)
  c_Scale : Cls K cS
  n_Scale_order : NoAttr K cS "order"
  n_Scale_old : NoAttr K cS "old"
  n_Scale_turns : NoAttr K cS "turns"
  n_Scale_base : NoAttr K cS "base"
  n_Scale_ranks : NoAttr K cS "ranks"
  n_Scale_steps : NoAttr K cS "steps"
  n_Scale_picks : NoAttr K cS "picks"
  i_Scale : IniA K cS "Scale.__init__" s_Scale_init
  m_Scale_by_order : MetA K cS "by_order" "Scale.by_order" s_Scale_by_order
  m_Scale_pick_of : MetA K cS "pick_of" "Scale.pick_of" s_Scale_pick_of
  m_Scale_of : MetA K cS "of" "Scale.of" s_Scale_of
  g_Reach : mg "Reach" = some (.ref cR)
  c_Reach : Cls K cR
  n_Reach_rows : NoAttr K cR "rows"
  n_Reach_dealt : NoAttr K cR "dealt"
  n_Reach_start : NoAttr K cR "start"
  n_Reach_freed : NoAttr K cR "freed"
  n_Reach_taken : NoAttr K cR "taken"
  n_Reach_takers : NoAttr K cR "takers"
  i_Reach : IniA K cR "Reach.__init__" s_Reach_init
  m_Reach_to_things : MetA K cR "to_things" "Reach.to_things" s_Reach_to_things
  m_Reach_to_askers : MetA K cR "to_askers" "Reach.to_askers" s_Reach_to_askers
  m_Reach_go_on : MetA K cR "go_on" "Reach.go_on" s_Reach_go_on
  m_Reach_end_by : MetA K cR "end_by" "Reach.end_by" s_Reach_end_by
  m_Reach_way_to : MetA K cR "way_to" "Reach.way_to" s_Reach_way_to
  g_Prices : mg "Prices" = some (.ref cP)
  c_Prices : Cls K cP
  n_Prices_rows : NoAttr K cP "rows"
  n_Prices_dealt : NoAttr K cP "dealt"
  n_Prices_left : NoAttr K cP "left"
  n_Prices_prices : NoAttr K cP "prices"
  n_Prices_raisers : NoAttr K cP "raisers"
  i_Prices : IniA K cP "Prices.__init__" s_Prices_init
  m_Prices_rest : MetA K cP "rest" "Prices.rest" s_Prices_rest
  m_Prices_chain : MetA K cP "chain" "Prices.chain" s_Prices_chain
  m_Prices_way_by : MetA K cP "way_by" "Prices.way_by" s_Prices_way_by
  m_Prices_raised_by : MetA K cP "raised_by" "Prices.raised_by" s_Prices_raised_by
  m_Prices_settle : MetA K cP "settle" "Prices.settle" s_Prices_settle
  m_Prices_told : MetA K cP "told" "Prices.told" s_Prices_told
  b_isinstance : mg "isinstance" = none
  b_int : mg "int" = none
  b_bool : mg "bool" = none
  b_list : mg "list" = none
  b_len : mg "len" = none
  b_tuple : mg "tuple" = none
  b_enumerate : mg "enumerate" = none
  b_max : mg "max" = none
  b_str : mg "str" = none
  b_sorted : mg "sorted" = none
  b_range : mg "range" = none
  b_sum : mg "sum" = none
  b_min : mg "min" = none
  b_all : mg "all" = none
  k_MOST_THINGS : ∃ t, mg "MOST_THINGS" = some (.int 6 t)
  k_MOST_COPIES : ∃ t, mg "MOST_COPIES" = some (.int 7 t)
  k_MOST_ASKERS : ∃ t, mg "MOST_ASKERS" = some (.int 7 t)
  k_MOST_RANKS : ∃ t, mg "MOST_RANKS" = some (.int 5 t)
end WD

set_option Elab.async false
set_option linter.all false
set_option maxRecDepth 100000
set_option maxHeartbeats 4000000
namespace WD
open PySem PySem.Spec PyProof.Rows L2
/-! ### the built-in names -/
theorem bo_isinstance : bootBuiltins "isinstance" = some (.builtin "isinstance") := by decide +kernel
theorem bo_int : bootBuiltins "int" = some (.type "int") := by decide +kernel
theorem bo_bool : bootBuiltins "bool" = some (.type "bool") := by decide +kernel
theorem bo_list : bootBuiltins "list" = some (.type "list") := by decide +kernel
theorem bo_tuple : bootBuiltins "tuple" = some (.type "tuple") := by decide +kernel
theorem bo_str : bootBuiltins "str" = some (.type "str") := by decide +kernel
theorem bo_len : bootBuiltins "len" = some (.builtin "len") := by decide +kernel
theorem bo_max : bootBuiltins "max" = some (.builtin "max") := by decide +kernel
theorem bo_min : bootBuiltins "min" = some (.builtin "min") := by decide +kernel
theorem bo_sum : bootBuiltins "sum" = some (.builtin "sum") := by decide +kernel
theorem bo_all : bootBuiltins "all" = some (.builtin "all") := by decide +kernel
theorem bo_sorted : bootBuiltins "sorted" = some (.builtin "sorted") := by decide +kernel
section
variable {P : Program} {w : World} {K : PySem.W.Frag} {mg : Str → Option Value} {base : Heap}
abbrev BindsBy (x qual : Str) (st : Stmt) (ps : List Str) : Prop := ∀ (kV doc pm : Value) (an : Option Addr) (cdv ct : Value) (us : List Value), us.length = ps.length →
  bindArgs (PySem.W.fnOf x qual (defArgs st) (defBody st) (defScope st) .none kV doc pm an cdv ct) ⟨us, []⟩ = pure (ps.zip us)
/-- what the proof of a def shows of its body -/
abbrev BodyOk (P : Program) (w : World) (K : PySem.W.Frag) (mg : Str → Option Value) (base : Heap) (k : Nat) (N : List Str) (qual : Str) (st : Stmt) (sp : Sp) : Prop :=
  ∀ (f : Addr) (cdv : Value) (A : Around) (outer : List Env) (s : Shared) (H : Hp) (vs : List V) (Q : VK) (E : XK), Room k (A.deeper (envOfC qual (defScope st) s.heap.objs.size f cdv)) → sp vs H Q E →
    ∃ t, PSs (cxOf C8.CX0 P w K mg base N qual (defScope st) f cdv A outer s H E).nox (defBody st) t ∧ t { nx := fun _ H' => Q .non H', rt := Q } (start N vs) H
theorem fn_ofA {k : Nat} {x qual : Str} {st : Stmt} {N ps : List Str} {sp : Sp} {f : Addr} {fd : FuncData} (F : FunD K x qual (defArgs st) (defBody st) (defScope st) [] [] f fd) (S : FnScope N ps (defScope st))
    (len : ∀ vs H Q E, sp vs H Q E → vs.length = ps.length) (hb : BodyOk P w K mg base k N qual st sp) : FnOk P w K mg base C8.CX0 (k + 1) f fd ps sp :=
  F.ok S len fun cdv A outer s H vs Q E hr hs => by
    obtain ⟨t, h, q⟩ := hb f cdv A outer s H vs Q E hr hs
    exact ⟨t, h.nox, q⟩
theorem cal_of {k : Nat} {x : Str} {st : Stmt} {N ps : List Str} {sp : Sp} (D : DefA K mg x st) (S : FnScope N ps (defScope st)) (b : BindsBy x x st ps) (len : ∀ vs H Q E, sp vs H Q E → vs.length = ps.length)
    (hb : BodyOk P w K mg base k N x st sp) : C8.Cal P w K mg base (k + 1) x sp [] := by
  obtain ⟨f, hm, fd, F⟩ := D.ex
  exact ⟨f, fd, ps, [], fn_ofA F S len hb, hm, F.kp, F.bindsN b, .nil⟩
theorem met_of {k : Nat} {C : Addr} {m qual : Str} {st : Stmt} {N ps : List Str} {sp : Sp} (c : Cls K C) (D : MetA K C m qual st) (S : FnScope N ps (defScope st)) (b : BindsBy m qual st ps) (len : ∀ vs H Q E, sp vs H Q E → vs.length = ps.length)
    (hb : BodyOk P w K mg base k N qual st sp) : C8.Met P w K mg base (k + 1) C m sp [] := by
  obtain ⟨f, hm, fd, F⟩ := D.ex
  exact ⟨f, fd, ps, [], c, hm, fn_ofA F S len hb, F.bindsN b, .nil⟩
theorem mak_of {k : Nat} {C : Addr} {x qual : Str} {st : Stmt} {N ps : List Str} {sp : Sp} (hx : mg x = some (.ref C)) (D : IniA K C qual st) (S : FnScope N ps (defScope st)) (b : BindsBy "__init__" qual st ps) (len : ∀ vs H Q E, sp vs H Q E → vs.length = ps.length)
    (hb : BodyOk P w K mg base k N qual st sp) : C8.Mak P w K mg base (k + 1) x C sp [] := by
  obtain ⟨f, hm, fd, F⟩ := D.ex
  exact ⟨f, fd, ps, [], hm, fn_ofA F S len hb, hx, F.bindsN b, .nil⟩
/-- a constant of the module -/
theorem gcI {x : Str} {i : Int} (h : ∃ t, mg x = some (.int i t)) : ∃ u, mg x = some u ∧ RelV (.int i) u := let ⟨t, e⟩ := h; ⟨_, e, t, rfl⟩
end
theorem pe_gcw {X : Cx} {x : Str} {v : V} {pos : Pos} (hg : Gl X x) (h : ∃ u, X.mg x = some u ∧ RelV v u) (hd : (x == ("__debug__" : Str)) = false := by decide) : PE X (.Name x pos) (tC v) := by
  obtain ⟨u, hm, r⟩ := h
  exact pe_glob hg hm r hd
end WD

set_option Elab.async false
set_option linter.all false
set_option maxRecDepth 100000
set_option maxHeartbeats 4000000
/-! Three rules that the hand layer has no row for: xs[i] -= e (a list), xs.count(y) of ints and Nones, sum(lists, []). -/
namespace WD
open PySem PySem.Spec PyProof.Rows L2
/-- what len, list(x) ask (written out, so that they go within a comprehension) -/
abbrev rLenS (K : PySem.W.Frag) : List V → Hp → VK → Prop := fun xs H Q => ∃ p ys, xs = [.ref p] ∧ (SqL K H p ys ∨ SqT K H p ys) ∧ Q (.int ys.length) H
abbrev rListOf (K : PySem.W.Frag) : List V → Hp → VK → Prop := fun xs H Q => ∃ p ys, xs = [.ref p] ∧ (SqL K H p ys ∨ SqT K H p ys) ∧ ∀ l, H l = none → Q (.ref l) (upd H l (.lst ys))
section
variable {X : Cx}
theorem hu65 {A : Around} {k : Nat} (hr : Room (k + 1) A) : A.units + 65 < cLine := by
  have h := (Room.in1 hr).units
  have e : A.in1.units = A.units + 1 := by rfl
  rw [e] at h
  omega
/-! ### o[i] of a list, as a value -/
def rGetL (K : PySem.W.Frag) : V → V → Hp → VK → Prop := fun o i H Q => ∃ p xs k v, o = .ref p ∧ i = .int k ∧ SqL K H p xs ∧ 0 ≤ k ∧ xs[k.toNat]? = some v ∧ Q v H
theorem get_list : PGet X (rGetL X.K) := by
  intro pins s σ H o i ov iv Q I ro ri h
  obtain ⟨p, xs, k, z, rfl, rfl, hq, h0, he, q⟩ := h
  cases ro
  obtain ⟨t, rfl⟩ := ri
  obtain ⟨its, r, pl, hz⟩ := I.list hq
  obtain ⟨w, ew, rw'⟩ := r.get he
  have hl := r.length
  have hn := line63
  have hk : k.toNat < xs.length := (List.getElem?_eq_some_iff.mp he).1
  exact wpAny_getItem_list pl.isList h0 (by omega) (by simpa using ew) ⟨z, H, I, rw', q⟩
/-! ### xs.count(y) of flat values -/
def rCntV (K : PySem.W.Frag) : V → List V → Hp → VK → Prop := fun x vs H Q => ∃ (p : Addr) (xs : List V) (y : V), x = .ref p ∧ vs = [y] ∧ SqL K H p xs ∧ flatV y = true ∧ xs.all flatV = true ∧ Q (.int (xs.countP fun z => eqV z y : Nat)) H
theorem countP_eqU {x : V} : ∀ {xs : List V} {us : List Value}, Vals xs us → xs.all flatV = true → us.countP (eqU x) = xs.countP fun y => eqV y x
  | _, _, .nil, _ => rfl
  | y :: xs, u :: us, .cons r t, f => by
    rw [List.all_cons, Bool.and_eq_true] at f
    rw [List.countP_cons, List.countP_cons, eqU_of r f.1, countP_eqU t f.2]
theorem mt_countV : MtR X "list.count" (rCntV X.K) := by
  intro pins s σ H x xs v us Q I rx rxs h
  obtain ⟨p, ys, y, rfl, rfl, hs, fy, fs, q⟩ := h
  cases rx
  obtain ⟨u, rfl, ru⟩ := rxs.one
  obtain ⟨its, rv, ⟨⟨cls, dd, data, sl⟩, n, ho, hc, hdn, hd⟩, hlen⟩ := I.list hs
  simp only at hc hd
  subst hc hd
  refine call_meets PySem.F.slot_list_count ⟨_, ho, rfl⟩ PySem.F.entry_list_count (PySem.F.args_list_count_2 _ _)
    (SeqAt.list_countAt p its.toArray n dd sl u (eqU y)) ⟨ho, fun z hz => mem_eqAt ru fy rv fs z (by simpa using hz), ?_⟩
  have ec : its.toArray.toList.countP (eqU y) = ys.countP fun z => eqV z y := countP_eqU rv fs
  refine ⟨.int (ys.countP fun z => eqV z y : Nat), H, I.tok _, ⟨s.toks, ?_⟩, q⟩
  show Value.int ((its.toArray.toList.countP (eqU y) : Nat) : Int) s.toks = Value.int _ s.toks
  rw [ec]
end
/-! ### sum(xs, []) of lists -/
theorem nA {a b : Nat} (e : b = a + 1) : b ≠ a := by omega
theorem nB {x a b : Nat} (h : x < a) (e : b = a + 1) : b ≠ x := by omega
theorem nC {x a : Nat} (h : x < a) : x ≠ a := by omega
theorem nD {a b q : Nat} (e : b = a + 1) (h : b + 1 ≤ q) : a ≤ q := by omega
theorem args_sum2 (a b : Value) : argsOk "sum" ⟨[a, b], []⟩ := by unfold argsOk; kernel_rfl
def accV (L : Nat → List Value) : Nat → List Value
  | 0 => []
  | i + 1 => accV L i ++ L i
theorem accV_take (L : Nat → List Value) (n i : Nat) (h : i ≤ n) : (accV L i).length ≤ (accV L n).length := by
  induction n with
  | zero =>
    have e : i = 0 := by omega
    subst e; exact Nat.le_refl _
  | succ n ih =>
    by_cases e : i = n + 1
    · subst e; exact Nat.le_refl _
    · have := ih (by omega)
      show _ ≤ (accV L n ++ L n).length
      rw [List.length_append]; omega
section
variable {prog : Program} {w : World} {A : Around}
theorem sum_lists_loop {R : Result → Shared → Prop} {I ax : Addr} {items : Array Value} (hh : A.in1.handled = none) (L : Nat → List Value) (h0 : Heap) (S : Addr) (hSI : S ≠ I) (hSx : S ≠ ax) (hxI : ax ≠ I)
    (hval : ∀ i v, items[i]? = some v → ∃ l m, v = .ref l ∧ l ≠ I ∧ l ≠ S ∧ h0.get? l = some { cls := .type "list", data := .seq (L i).toArray m }) (hz : (accV L items.size).length ≤ sizeLine) :
    ∀ (k i : Nat) (s : Shared) (cur : Addr) (c m : Nat), items.size - i = k → i ≤ items.size → s.heap.IsListIter I ax i → s.heap.IsList ax items → s.heap.get? S = some { cls := .type "list", dict := none, data := .seq #[.ref cur] c, slots := #[] } →
    cur ≠ I → cur ≠ S → s.heap.get? cur = some { cls := .type "list", data := .seq (accV L i).toArray m } → (∀ b o, b ≠ I → b ≠ S → h0.get? b = some o → s.heap.get? b = some o) →
    (∀ h' tk q m', (∀ b o, b ≠ I → b ≠ S → s.heap.get? b = some o → h'.get? b = some o) → h'.get? q = some { cls := .type "list", data := .seq (accV L items.size).toArray m' } → (q = cur ∨ s.heap.objs.size ≤ q) → R (.ok (.ret (.ref q))) { s with heap := h', toks := tk }) →
    codeAny (model prog w) A (.builtin "sum.loop" ⟨[.ref I, .ref S, rawInt 2, rawInt 0], []⟩) R s := by
  intro k
  induction k with
  | zero =>
    intro i s cur c m hk hi hit hax hS hcI hcS hcur hold hR
    have hin : i = items.size := by omega
    subst hin
    refine codeAny_builtin F.entry_sum_loop ?_
    rw [Around.under_plainId F.plain_sum_loop _]
    show wpAny _ A.in1 (seqItems? (.ref S) >>= _) _ _ s
    refine wpAny_bind (wpAny_seqItems hS rfl ?_)
    show wpAny _ A.in1 (tryCatch (pyNext (.ref I)) _ >>= _) _ _ s
    refine wpAny_bind (wpAny_tryCatch (wpAny_pyNext_list_end hh hit hax (by simp) fun h' he' => ?_))
    exact wpAny_pure (hR h' s.toks cur m (fun b o hb _ e => he' b o hb e) (he' _ _ hcI hcur) (.inl rfl))
  | succ k ih =>
    intro i s cur c m hk hi hit hax hS hcI hcS hcur hold hR
    have hlt : i < items.size := by omega
    refine codeAny_builtin F.entry_sum_loop ?_
    rw [Around.under_plainId F.plain_sum_loop _]
    show wpAny _ A.in1 (seqItems? (.ref S) >>= _) _ _ s
    refine wpAny_bind (wpAny_seqItems hS rfl ?_)
    show wpAny _ A.in1 (tryCatch (pyNext (.ref I)) _ >>= _) _ _ s
    refine wpAny_bind (wpAny_tryCatch (wpAny_pyNext_list_item (x := items[i]) hit hax (by simp [hlt]) fun h' hit' hsb => ?_))
    have hk' : ∀ b o, b ≠ I → s.heap.get? b = some o → h'.get? b = some o := fun b o hb e => (hsb.2 b hb).trans e
    have hsz : h'.objs.size = s.heap.objs.size := hsb.1
    obtain ⟨l, ml, e1, hlI, hlS, hl⟩ := hval i items[i] (by simp [hlt])
    rw [e1]
    have hS' := hk' S _ hSI hS
    have hc' := hk' _ _ hcI hcur
    have hl' := hk' _ _ hlI (hold _ _ hlI hlS hl)
    have hax' : h'.IsList ax items := hax.at fun o e => hk' ax o hxI e
    have hzz : (accV L (i + 1)).length ≤ sizeLine := Nat.le_trans (accV_take L _ _ hlt) hz
    have eacc : (accV L i).toArray ++ (L i).toArray = (accV L (i + 1)).toArray := by simp [accV]
    have elen : (accV L (i + 1)).length = (accV L i).length + (L i).length := by
      show (accV L i ++ L i).length = _
      rw [List.length_append]
    show wpAny _ A.in1 ((holding [Value.ref l] (binaryOp .Add (.ref cur) (.ref l))).attempt >>= _) _ _ _
    refine wpAny_bind (wpAny_attempt (wpAny_holding (PySem.P.add_list hc' hl' ?_ (by rw [List.size_toArray, List.size_toArray]; omega))))
    have hSp : ({ cls := .type "list", data := .seq ((accV L i).toArray ++ (L i).toArray) } : Obj) = { cls := .type "list", data := .seq (accV L (i + 1)).toArray } := by rw [eacc]
    rw [hSp]
    have hnew : (h'.push { cls := .type "list", data := .seq (accV L (i + 1)).toArray }).get? h'.objs.size = some { cls := .type "list", data := .seq (accV L (i + 1)).toArray } := Heap.get?_push_size _ rfl
    have hpo : ∀ b o, h'.get? b = some o → (h'.push { cls := .type "list", data := .seq (accV L (i + 1)).toArray }).get? b = some o := fun b o e => Heap.get?_push_of_some _ e
    have hsz2 : (h'.push { cls := .type "list", data := .seq (accV L (i + 1)).toArray }).objs.size = h'.objs.size + 1 := Heap.size_push ..
    have hS2 := hpo _ _ hS'
    have nwS : h'.objs.size ≠ S := fun e => absurd (Heap.lt_size hS') (by rw [e]; exact Nat.lt_irrefl _)
    have nwI : h'.objs.size ≠ I := fun e => by
      obtain ⟨o, ho, _⟩ := hit'
      exact absurd (Heap.lt_size ho) (by rw [e]; exact Nat.lt_irrefl _)
    show wpAny _ A.in1 (updateSeq S (fun _ => #[.ref h'.objs.size]) >>= _) _ _ _
    refine wpAny_bind ?_
    refine wpAny_updateSeq hS2 rfl ?_
    have hS3 := Heap.get?_update_self (Obj.mapSeq fun _ => #[Value.ref h'.objs.size]) hS2 rfl
    refine wpAny_bind (wpAny_letGo ?_)
    refine wpAny_bind ?_
    have hot : ∀ b o, b ≠ S → h'.get? b = some o → (((h'.push { cls := .type "list", data := .seq (accV L (i + 1)).toArray }).update S (Obj.mapSeq fun _ => #[Value.ref h'.objs.size])).update S (Obj.mapSeq fun _ => #[Value.ref h'.objs.size])).get? b = some o := fun b o hb e =>
      (Heap.get?_update_other _ _ (Ne.symm hb)).trans ((Heap.get?_update_other _ _ (Ne.symm hb)).trans (hpo b o e))
    refine wpAny_updateSeq hS3 rfl (wpAny_pure ⟨plainId_quiet F.plain_sum_loop _, ih (i + 1) _ h'.objs.size _ 0 (by omega) hlt (hit'.at fun o e => hot I o (Ne.symm hSI) e) (hax'.at fun o e => hot ax o (Ne.symm hSx) e) (Heap.get?_update_self _ hS3 rfl) nwI nwS ?_ (fun b o hbI hbS e => hot b o hbS (hk' b o hbI (hold b o hbI hbS e))) fun h'' tk'' q m' hk'' hq hqq => ?_⟩)
    · exact (Heap.get?_update_other _ _ (Ne.symm nwS)).trans ((Heap.get?_update_other _ _ (Ne.symm nwS)).trans hnew)
    · refine hR h'' tk'' q m' (fun b o hbI hbS e => hk'' b o hbI hbS (hot b o hbS (hk' b o hbI e))) hq (.inr ?_)
      rcases hqq with e | e
      · rw [e, hsz]; exact Nat.le_refl _
      · have e' : (((h'.push { cls := .type "list", data := .seq (accV L (i + 1)).toArray }).update S (Obj.mapSeq fun _ => #[Value.ref h'.objs.size])).update S (Obj.mapSeq fun _ => #[Value.ref h'.objs.size])).objs.size ≤ q := e
        rw [Heap.size_update, Heap.size_update, hsz2] at e'
        omega
theorem sum_lists {E : Value → Shared → Prop} {s : Shared} {ax b : Addr} {items : Array Value} {mb : Nat} {Q : Value → Shared → Prop} (hh : A.handled = none) (hax : s.heap.IsList ax items) (hb : s.heap.get? b = some { cls := .type "list", data := .seq #[] mb })
    (L : Nat → List Value) (hval : ∀ i v, items[i]? = some v → ∃ l m, v = .ref l ∧ s.heap.get? l = some { cls := .type "list", data := .seq (L i).toArray m }) (hz : (accV L items.size).length ≤ sizeLine)
    (h : ∀ h' tk q m', (∀ b o, s.heap.get? b = some o → h'.get? b = some o) → h'.get? q = some { cls := .type "list", data := .seq (accV L items.size).toArray m' } → (q = b ∨ s.heap.objs.size ≤ q) → Q (.ref q) { s with heap := h', toks := tk }) :
    wpAny (model prog w) A (call (.builtin "sum") [.ref ax, .ref b]) Q E s := by
  refine call_function_tree F.kind_sum F.plain_sum F.entry_sum (args_sum2 _ _) ?_
  unfold Builtin.«sum»
  simp only [List.length_cons, List.length_nil]
  rw [if_neg (by decide)]
  refine wpAny_bind (wpAny_of_eq (show Builtin.Builtins.bindParams "sum" ["start"] 0 ⟨[.ref b], []⟩ = pure [some (.ref b)] from rfl) ?_)
  refine wpAny_bind (iter_any hax fun s₂ e st hne => ?_)
  have hsz2 : s₂.heap.objs.size = s.heap.objs.size + 1 := by rw [e]; exact Heap.size_push ..
  have hpo : ∀ c o, s.heap.get? c = some o → s₂.heap.get? c = some o := fun c o q => by rw [e]; exact Heap.get?_push_of_some _ q
  have eos : s₂ = { s with heap := s₂.heap } := by rw [e]
  have tb : s₂.TypeIs (.ref b) "list" := ⟨_, hpo _ _ hb, rfl⟩
  refine wpAny_bind (wpAny_pure ?_)
  simp only [List.forIn_cons, List.forIn_nil]
  refine wpAny_bind (wpAny_bind (wpAny_bind (wpAny_isInstance (T := "list") (b := false) tb F.sub_list_str ?_)))
  simp only [Bool.false_eq_true, if_false]
  refine wpAny_pure (wpAny_bind (wpAny_bind (wpAny_isInstance (T := "list") (b := false) tb F.sub_list_bytes ?_)))
  simp only [Bool.false_eq_true, if_false]
  refine wpAny_pure (wpAny_bind (wpAny_bind (wpAny_isInstance (T := "list") (b := false) tb F.sub_list_bytearray ?_)))
  simp only [Bool.false_eq_true, if_false]
  refine wpAny_pure (wpAny_pure ?_)
  refine wpAny_bind (wpAny_newObj_type ?_)
  have hlt : ∀ c o, s.heap.get? c = some o → c < s.heap.objs.size := fun c o q => Heap.lt_size q
  have hax' : ax < s.heap.objs.size := by obtain ⟨o, q, _⟩ := hax; exact hlt _ _ q
  have hb' := hlt _ _ hb
  have hp2 : ∀ c o, s₂.heap.get? c = some o → (s₂.heap.push { cls := .type "list", data := .seq #[Value.ref b] }).get? c = some o := fun c o q => Heap.get?_push_of_some _ q
  refine wpAny_pure ⟨plainId_quiet F.plain_sum_loop _, sum_lists_loop (ax := ax) (items := items) hh L s.heap s₂.heap.objs.size (nA hsz2) (nB hax' hsz2) hne (fun i v hv => ?_) hz items.size 0 _ b 0 mb rfl (Nat.zero_le _)
    (st.1.at fun o q => hp2 _ o q) (st.2.at fun o q => hp2 _ o q) (Heap.get?_push_size _ rfl) (nC hb') (Ne.symm (nB hb' hsz2)) (hp2 _ _ (hpo _ _ hb)) (fun c o _ _ q => hp2 c o (hpo c o q)) fun h' tk q m' hk hq hqq => ?_⟩
  · obtain ⟨l, m, e1, e2⟩ := hval i v hv
    have := hlt _ _ e2
    exact ⟨l, m, e1, nC this, Ne.symm (nB this hsz2), e2⟩
  · have hfin := h h' tk q m' (fun c o hc => hk c o (nC (hlt _ _ hc)) (Ne.symm (nB (hlt _ _ hc) hsz2)) (hp2 _ _ (hpo _ _ hc))) hq (by
      rcases hqq with e | e
      · exact .inl e
      · right
        have e' : (s₂.heap.push { cls := .type "list", data := .seq #[Value.ref b] }).objs.size ≤ q := e
        rw [Heap.size_push] at e'
        exact nD hsz2 e')
    rw [eos]
    exact hfin
end
section
variable {X : Cx}
/-- sum(xs, []): xs a list of lists -/
def rSumL (K : PySem.W.Frag) : List V → Hp → VK → Prop := fun vs H Q => ∃ (a b : Addr) (ls : List Addr) (xss : List (List V)), vs = [V.ref a, V.ref b] ∧ SqL K H a (ls.map V.ref) ∧ H b = some (.lst []) ∧ ls.length = xss.length ∧
  (∀ (i : Nat) (l : Addr) (xs : List V), ls[i]? = some l → xss[i]? = some xs → H l = some (.lst xs)) ∧ xss.flatten.length ≤ sizeLine ∧
  ∀ (H' : Hp) (q : Addr), Same H H' → H' q = some (.lst xss.flatten) → Q (.ref q) H'
theorem flat_vals : ∀ {xss : List (List V)} {uss : List (List Value)}, Paired Vals xss uss → Vals xss.flatten uss.flatten
  | _, _, .nil => .nil
  | _, _, .cons r t => by
    rw [List.flatten_cons, List.flatten_cons]
    exact r.append (flat_vals t)
theorem accV_flat : ∀ (uss : List (List Value)) (n : Nat), n ≤ uss.length → accV (fun i => uss.getD i []) n = (uss.take n).flatten
  | uss, 0, _ => by simp [accV]
  | uss, n + 1, h => by
    show accV (fun i => uss.getD i []) n ++ uss.getD n [] = _
    rw [accV_flat uss n (by omega)]
    have hn : n < uss.length := by omega
    rw [List.take_succ_eq_append_getElem hn, List.flatten_append, List.getD_eq_getElem?_getD, List.getElem?_eq_getElem hn]
    simp
theorem cr_sumL (hc : X.calm = true) : CallR X (.builtin "sum") (rSumL X.K) := by
  intro pins s σ H vs us Q I r h
  obtain ⟨a, b, ls, xss, rfl, hS, hb, hl, hx, hz, q⟩ := h
  obtain ⟨u1, u2, rfl, r1, r2⟩ := vals2 r
  cases (show u1 = Value.ref a from r1)
  cases (show u2 = Value.ref b from r2)
  obtain ⟨its, rv, pl, hz0⟩ := I.list hS
  obtain ⟨_, itb, mb, rb, eb⟩ : ([] : List V).length ≤ sizeLine ∧ ∃ (its : List Value) (n : Nat), Vals ([] : List V) its ∧ s.heap.get? b = some { cls := .type "list", data := .seq its.toArray n } := I.hok b _ hb
  cases rb
  -- the values of each list
  have hex : ∀ i, ∃ us, i < xss.length → ∃ l m, ls[i]? = some l ∧ its.toArray[i]? = some (.ref l) ∧ Vals (xss.getD i []) us ∧ s.heap.get? l = some { cls := .type "list", data := .seq us.toArray m } := by
    intro i
    by_cases hi : i < xss.length
    · have hil : i < ls.length := by omega
      have e1 : ls[i]? = some ls[i] := List.getElem?_eq_getElem hil
      have e2 : xss[i]? = some xss[i] := List.getElem?_eq_getElem hi
      obtain ⟨_, ui, m, ri, ei⟩ : xss[i].length ≤ sizeLine ∧ ∃ (its : List Value) (n : Nat), Vals xss[i] its ∧ s.heap.get? ls[i] = some { cls := .type "list", data := .seq its.toArray n } := I.hok _ _ (hx i _ _ e1 e2)
      refine ⟨ui, fun _ => ⟨ls[i], m, e1, ?_, ?_, ei⟩⟩
      · obtain ⟨u, hu, ru⟩ := rv.get (i := i) (x := V.ref ls[i]) (by rw [List.getElem?_map, e1]; rfl)
        cases (show u = Value.ref ls[i] from ru)
        simpa using hu
      · rw [List.getD_eq_getElem?_getD, e2]; exact ri
    · exact ⟨[], fun h => absurd h hi⟩
  obtain ⟨L, hL⟩ := Classical.axiomOfChoice hex
  have hsz : its.toArray.size = xss.length := by
    have := rv.length
    rw [List.length_map] at this
    rw [List.size_toArray]; omega
  have hpair : Paired Vals xss ((List.range xss.length).map L) := by
    have key : ∀ (n : Nat), n ≤ xss.length → Paired Vals (xss.take n) ((List.range n).map L) := by
      intro n
      induction n with
      | zero => intro _; simp; exact .nil
      | succ n ih =>
        intro hn
        rw [List.take_succ_eq_append_getElem hn, List.range_succ, List.map_append]
        have h1 := ih (by omega)
        obtain ⟨l, m, _, _, h2, _⟩ := hL n hn
        rw [List.getD_eq_getElem?_getD, List.getElem?_eq_getElem hn] at h2
        have happ : ∀ {as : List (List V)} {bs : List (List Value)} {x : List V} {u : List Value}, Paired Vals as bs → Vals x u → Paired Vals (as ++ [x]) (bs ++ [u]) := by
          intro as bs x u p v
          induction p with
          | nil => exact .cons v .nil
          | cons r _ ih => exact .cons r ih
        exact happ h1 h2
    have := key xss.length (Nat.le_refl _)
    rwa [List.take_length] at this
  have hacc : accV L its.toArray.size = ((List.range xss.length).map L).flatten := by
    rw [hsz]
    have e : ∀ n, n ≤ xss.length → accV L n = accV (fun i => ((List.range xss.length).map L).getD i []) n := by
      intro n
      induction n with
      | zero => intro _; rfl
      | succ n ih =>
        intro hn
        show accV L n ++ L n = accV _ n ++ _
        rw [ih (by omega)]
        congr 1
        show L n = ((List.range xss.length).map L).getD n []
        rw [List.getD_eq_getElem?_getD, List.getElem?_map, List.getElem?_range hn]
        rfl
    rw [e _ (Nat.le_refl _), accV_flat _ _ (by simp)]
    rw [List.take_of_length_le (by simp)]
  have hflat := flat_vals hpair
  have hfl : (accV L its.toArray.size).length ≤ sizeLine := by
    rw [hacc, ← hflat.length]; exact hz
  refine sum_lists (mb := mb) (I.ok.hd hc) pl.isList eb L (fun i v hv => ?_) hfl fun h' tk p m' hk hp hpp => ?_
  · have hi : i < xss.length := by
      rw [← hsz]
      exact (Array.getElem?_eq_some_iff.mp hv).1
    obtain ⟨l, m, _, e2, _, e4⟩ := hL i hi
    rw [hv] at e2
    exact ⟨l, m, Option.some.inj e2, e4⟩
  · rw [hacc] at hp
    have hob : ∀ H' : Hp, ObjOk X.prog X.w H' h' p (.lst xss.flatten) := fun H' => ⟨hz, _, m', hflat, hp⟩
    rcases hpp with e | e
    · -- the start itself: nothing was added
      subst e
      have hp2 := hk _ _ eb
      rw [hp] at hp2
      have e3 : ((List.range xss.length).map L).flatten = [] := by
        have := congrArg Obj.data (Option.some.inj hp2)
        simp at this
        simpa using this.1
      have e4 : xss.flatten = [] := by
        have h1 := hflat.length
        rw [e3] at h1
        exact List.length_eq_zero_iff.mp h1
      refine ⟨.ref p, H, I.kept hk, rfl, q H p (Same.refl _) (by rw [e4]; exact hb)⟩
    · have hn : H p = none := I.hok.fresh e
      refine ⟨.ref p, upd H p (.lst xss.flatten), I.laid hk e (hob _), rfl, q _ p (fun c o hc => ?_) upd_same⟩
      rw [upd_ne (ne_of_none hc hn)]; exact hc
end
end WD

set_option Elab.async false
set_option linter.all false
set_option maxRecDepth 100000
set_option maxHeartbeats 4000000
/-! How the data lies in the heap; loops. -/
namespace WD
open PySem PySem.Spec PyProof.Rows L2
/-! ### values -/
def nV (ns : List Nat) : List V := ns.map fun (n : Nat) => V.int (n : Int)
def oV : Option Nat → V
  | none => .non
  | some t => .int t
def dV (d : List (Option Nat)) : List V := d.map oV
def iV (ns : List Int) : List V := ns.map .int
def rV (as : List Addr) : List V := as.map .ref
theorem nV_len (ns : List Nat) : (nV ns).length = ns.length := List.length_map ..
theorem dV_len (ns : List (Option Nat)) : (dV ns).length = ns.length := List.length_map ..
theorem iV_len (ns : List Int) : (iV ns).length = ns.length := List.length_map ..
theorem rV_len (ns : List Addr) : (rV ns).length = ns.length := List.length_map ..
theorem nV_get {ns : List Nat} {i : Nat} {x : V} (h : (nV ns)[i]? = some x) : ∃ n, ns[i]? = some n ∧ x = .int n := by
  unfold nV at h
  rw [List.getElem?_map] at h
  obtain ⟨n, h1, h2⟩ := Option.map_eq_some_iff.mp h
  exact ⟨n, h1, h2.symm⟩
theorem dV_get {ns : List (Option Nat)} {i : Nat} {x : V} (h : (dV ns)[i]? = some x) : ∃ n, ns[i]? = some n ∧ x = oV n := by
  unfold dV at h
  rw [List.getElem?_map] at h
  obtain ⟨n, h1, h2⟩ := Option.map_eq_some_iff.mp h
  exact ⟨n, h1, h2.symm⟩
theorem iV_get {ns : List Int} {i : Nat} {x : V} (h : (iV ns)[i]? = some x) : ∃ n, ns[i]? = some n ∧ x = .int n := by
  unfold iV at h
  rw [List.getElem?_map] at h
  obtain ⟨n, h1, h2⟩ := Option.map_eq_some_iff.mp h
  exact ⟨n, h1, h2.symm⟩
theorem rV_get {ns : List Addr} {i : Nat} {x : V} (h : (rV ns)[i]? = some x) : ∃ n, ns[i]? = some n ∧ x = .ref n := by
  unfold rV at h
  rw [List.getElem?_map] at h
  obtain ⟨n, h1, h2⟩ := Option.map_eq_some_iff.mp h
  exact ⟨n, h1, h2.symm⟩
theorem nV_at {ns : List Nat} {i n : Nat} (h : ns[i]? = some n) : (nV ns)[i]? = some (.int n) := by unfold nV; rw [List.getElem?_map, h]; rfl
theorem dV_at {ns : List (Option Nat)} {i : Nat} {n : Option Nat} (h : ns[i]? = some n) : (dV ns)[i]? = some (oV n) := by unfold dV; rw [List.getElem?_map, h]; rfl
theorem iV_at {ns : List Int} {i : Nat} {n : Int} (h : ns[i]? = some n) : (iV ns)[i]? = some (.int n) := by unfold iV; rw [List.getElem?_map, h]; rfl
theorem rV_at {ns : List Addr} {i : Nat} {n : Addr} (h : ns[i]? = some n) : (rV ns)[i]? = some (.ref n) := by unfold rV; rw [List.getElem?_map, h]; rfl
theorem nV_snoc (ns : List Nat) (n : Nat) : nV ns ++ [.int n] = nV (ns ++ [n]) := by simp [nV]
theorem dV_snoc (ns : List (Option Nat)) (n : Option Nat) : dV ns ++ [oV n] = dV (ns ++ [n]) := by simp [dV]
theorem iV_snoc (ns : List Int) (n : Int) : iV ns ++ [.int n] = iV (ns ++ [n]) := by simp [iV]
theorem rV_snoc (ns : List Addr) (n : Addr) : rV ns ++ [.ref n] = rV (ns ++ [n]) := by simp [rV]
theorem nV_flat (ns : List Nat) : (nV ns).all flatV = true := by
  unfold nV; rw [List.all_map]; exact List.all_eq_true.mpr fun _ _ => rfl
theorem dV_flat (ns : List (Option Nat)) : (dV ns).all flatV = true := by
  unfold dV; rw [List.all_map]; exact List.all_eq_true.mpr fun x _ => by cases x <;> rfl
theorem oV_inj {a b : Option Nat} (h : oV a = oV b) : a = b := by
  cases a <;> cases b <;> simp [oV] at h ⊢
  omega
theorem inV_nV (n : Nat) (ns : List Nat) : inV (.int n) (nV ns) = decide (n ∈ ns) := by
  unfold inV nV
  rw [List.any_map]
  rw [Bool.eq_iff_iff, List.any_eq_true, decide_eq_true_eq]
  constructor
  · rintro ⟨x, hx, e⟩
    have e1 : ((x : Int) == (n : Int)) = true := e
    have e2 : x = n := by have := eq_of_beq e1; omega
    rw [← e2]; exact hx
  · intro h
    exact ⟨n, h, by show ((n : Int) == (n : Int)) = true; simp⟩
/-! ### heaps -/
theorem same_upd {H : Hp} {p : Addr} {o : HO} (h : H p = none) : Same H (upd H p o) := fun b x e => by
  rw [upd_ne (ne_of_none e h)]
  exact e
/-- H' is H but for the objects at M -/
def SameBut (M : List Addr) (H H' : Hp) : Prop := ∀ b o, H b = some o → b ∉ M → H' b = some o
theorem SameBut.of {H H' : Hp} (h : Same H H') (M : List Addr) : SameBut M H H' := fun b o e _ => h b o e
theorem SameBut.trans {M : List Addr} {H H1 H2 : Hp} (a : SameBut M H H1) (b : SameBut M H1 H2) : SameBut M H H2 := fun c o e hm => b c o (a c o e hm) hm
theorem sameBut_upd {M : List Addr} {H : Hp} {p : Addr} {o : HO} (h : p ∈ M) : SameBut M H (upd H p o) := fun b x e hb => by
  rw [upd_ne (fun q => hb (by rw [q]; exact h))]
  exact e
/-- what of H is new beside H0, but for M -/
def rg (H0 : Hp) (M : List Addr) (H : Hp) : Hp := fun b => if (H0 b).isSome = true ∨ b ∈ M then none else H b
theorem rg_some {H0 H : Hp} {M : List Addr} {b : Addr} {o : HO} : rg H0 M H b = some o ↔ H0 b = none ∧ b ∉ M ∧ H b = some o := by
  unfold rg
  by_cases h : (H0 b).isSome = true ∨ b ∈ M
  · rw [if_pos h]
    constructor
    · intro e; cases e
    · rintro ⟨h1, h2, _⟩
      rcases h with h | h
      · rw [h1] at h; cases h
      · exact absurd h h2
  · rw [if_neg h]
    constructor
    · intro e
      refine ⟨?_, fun q => h (.inr q), e⟩
      cases q : H0 b with
      | none => rfl
      | some x => exact absurd (.inl (by rw [q]; rfl)) h
    · exact fun h => h.2.2
theorem rg_same {H0 H : Hp} {M : List Addr} : Same (rg H0 M H) H := fun _ _ e => (rg_some.mp e).2.2
theorem rg_mono {H0 H H' : Hp} {M : List Addr} (h : SameBut M H H') : Same (rg H0 M H) (rg H0 M H') := fun b o e => by
  obtain ⟨h1, h2, h3⟩ := rg_some.mp e
  exact rg_some.mpr ⟨h1, h2, h b o h3 h2⟩
/-- a new thing that is to change is set apart -/
theorem rg_apart {H0 H H' : Hp} {M M' : List Addr} (h : SameBut M H H') (hM : ∀ b ∈ M', b ∈ M ∨ H b = none) : Same (rg H0 M H) (rg H0 M' H') := fun b o e => by
  obtain ⟨h1, h2, h3⟩ := rg_some.mp e
  refine rg_some.mpr ⟨h1, fun q => ?_, h b o h3 h2⟩
  rcases hM b q with q | q
  · exact h2 q
  · rw [h3] at q; cases q
/-- what a callee made -/
theorem rg_made {H0 H H' : Hp} {M : List Addr} (h : Same H0 H) (hM : ∀ b ∈ M, H b ≠ none) : Same (rg H [] H') (rg H0 M H') := fun b o e => by
  obtain ⟨h1, _, h3⟩ := rg_some.mp e
  refine rg_some.mpr ⟨?_, fun q => hM b q h1, h3⟩
  cases q : H0 b with
  | none => rfl
  | some x => rw [h b x q] at h1; cases h1
theorem rg_self {H0 H : Hp} {M : List Addr} : Same (rg H0 M H) (rg H0 [] H) := fun b o e => by
  obtain ⟨h1, _, h3⟩ := rg_some.mp e
  exact rg_some.mpr ⟨h1, by simp, h3⟩
/-! ### lists of addresses, place by place -/
def AllAt {α : Type} (F : Addr → α → Prop) (as : List Addr) (xs : List α) : Prop := as.length = xs.length ∧ ∀ (i : Nat) (a : Addr) (x : α), as[i]? = some a → xs[i]? = some x → F a x
theorem AllAt.nil {α : Type} {F : Addr → α → Prop} : AllAt F [] ([] : List α) := ⟨rfl, fun i a x h => by simp at h⟩
theorem AllAt.mono {α : Type} {F G : Addr → α → Prop} {as : List Addr} {xs : List α} (h : AllAt F as xs) (f : ∀ a x, F a x → G a x) : AllAt G as xs := ⟨h.1, fun i a x h1 h2 => f a x (h.2 i a x h1 h2)⟩
theorem AllAt.snoc {α : Type} {F : Addr → α → Prop} {as : List Addr} {xs : List α} {a : Addr} {x : α} (h : AllAt F as xs) (hx : F a x) : AllAt F (as ++ [a]) (xs ++ [x]) := by
  refine ⟨by rw [List.length_append, List.length_append, h.1]; rfl, fun i b y h1 h2 => ?_⟩
  by_cases e : i < as.length
  · rw [List.getElem?_append_left e] at h1
    rw [List.getElem?_append_left (by rw [← h.1]; exact e)] at h2
    exact h.2 i b y h1 h2
  · rw [List.getElem?_append_right (by omega)] at h1
    rw [List.getElem?_append_right (by rw [← h.1]; omega)] at h2
    by_cases e2 : i - as.length = 0
    · rw [e2] at h1
      rw [← h.1, e2] at h2
      have q1 : a = b := by simpa using h1
      have q2 : x = y := by simpa using h2
      rw [← q1, ← q2]; exact hx
    · rw [List.getElem?_eq_none (by simp; omega)] at h1; cases h1
theorem allAt_append {α : Type} {F : Addr → α → Prop} {as bs : List Addr} {xs ys : List α} (h : AllAt F as xs) (g : AllAt F bs ys) : AllAt F (as ++ bs) (xs ++ ys) := by
  refine ⟨by rw [List.length_append, List.length_append, h.1, g.1], fun i b y h1 h2 => ?_⟩
  by_cases e : i < as.length
  · rw [List.getElem?_append_left e] at h1
    rw [List.getElem?_append_left (by rw [← h.1]; exact e)] at h2
    exact h.2 i b y h1 h2
  · rw [List.getElem?_append_right (by omega)] at h1
    rw [List.getElem?_append_right (by rw [← h.1]; omega), ← h.1] at h2
    exact g.2 _ b y h1 h2
theorem AllAt.set {α : Type} {F G : Addr → α → Prop} {as : List Addr} {xs : List α} (h : AllAt F as xs) (nd : as.Nodup) {i : Nat} {a : Addr} {x : α} (ha : as[i]? = some a) (hx : G a x) (hm : ∀ b y, b ≠ a → F b y → G b y) : AllAt G as (xs.set i x) := by
  refine ⟨by rw [List.length_set]; exact h.1, fun j b y h1 h2 => ?_⟩
  rw [List.getElem?_set] at h2
  by_cases e : i = j
  · subst e
    rw [ha] at h1; cases h1
    rw [if_pos rfl] at h2
    split at h2
    · cases h2; exact hx
    · cases h2
  · rw [if_neg e] at h2
    refine hm b y (fun q => ?_) (h.2 j b y h1 h2)
    subst q
    obtain ⟨g1, e1⟩ := List.getElem?_eq_some_iff.mp ha
    obtain ⟨g2, e2⟩ := List.getElem?_eq_some_iff.mp h1
    exact e ((List.getElem_inj nd).mp (e1.trans e2.symm))
theorem AllAt.at {α : Type} {F : Addr → α → Prop} {as : List Addr} {xs : List α} (h : AllAt F as xs) {i : Nat} {a : Addr} (ha : as[i]? = some a) : ∃ x, xs[i]? = some x ∧ F a x := by
  have hi := (List.getElem?_eq_some_iff.mp ha).1
  have hx : xs[i]? = some (xs[i]'(by rw [← h.1]; exact hi)) := List.getElem?_eq_getElem _
  exact ⟨_, hx, h.2 i a _ ha hx⟩
theorem AllAt.at' {α : Type} {F : Addr → α → Prop} {as : List Addr} {xs : List α} (h : AllAt F as xs) {i : Nat} {x : α} (hx : xs[i]? = some x) : ∃ a, as[i]? = some a ∧ F a x := by
  have hi := (List.getElem?_eq_some_iff.mp hx).1
  have ha : as[i]? = some (as[i]'(by rw [h.1]; exact hi)) := List.getElem?_eq_getElem _
  exact ⟨_, ha, h.2 i _ x ha hx⟩
/-! ### wishes -/
def RowAt (H : Hp) (a : Addr) (r : List Nat) : Prop := H a = some (.lst (nV r))
def RksAt (H : Hp) (a : Addr) (rs : List (List Nat)) : Prop := ∃ bs, H a = some (.lst (rV bs)) ∧ AllAt (RowAt H) bs rs
def LstsAt (H : Hp) (a : Addr) (ls : List (List (List Nat))) : Prop := ∃ bs, H a = some (.lst (rV bs)) ∧ AllAt (RksAt H) bs ls
abbrev Wish := List Nat × List (List (List Nat))
def WAt (H : Hp) (p : Addr) (W : Wish) : Prop := ∃ c l, H p = some (.tup [.ref c, .ref l]) ∧ H c = some (.lst (nV W.1)) ∧ LstsAt H l W.2
theorem RowAt.same {H H' : Hp} {a : Addr} {r : List Nat} (e : Same H H') (h : RowAt H a r) : RowAt H' a r := e _ _ h
theorem RksAt.same {H H' : Hp} {a : Addr} {r : List (List Nat)} (e : Same H H') (h : RksAt H a r) : RksAt H' a r :=
  let ⟨bs, h1, h2⟩ := h; ⟨bs, e _ _ h1, h2.mono fun _ _ x => x.same e⟩
theorem LstsAt.same {H H' : Hp} {a : Addr} {r : List (List (List Nat))} (e : Same H H') (h : LstsAt H a r) : LstsAt H' a r :=
  let ⟨bs, h1, h2⟩ := h; ⟨bs, e _ _ h1, h2.mono fun _ _ x => x.same e⟩
theorem WAt.same {H H' : Hp} {a : Addr} {r : Wish} (e : Same H H') (h : WAt H a r) : WAt H' a r :=
  let ⟨c, l, h1, h2, h3⟩ := h; ⟨c, l, e _ _ h1, e _ _ h2, h3.same e⟩
/-- an asker's list -/
structure VR (m : Nat) (rs : List (List Nat)) : Prop where
  few : rs.length ≤ 5
  ne : ∀ r ∈ rs, r ≠ []
  nd : rs.flatten.Nodup
  lt : ∀ t ∈ rs.flatten, t < m
structure VW (W : Wish) : Prop where
  c1 : 1 ≤ W.1.length
  c6 : W.1.length ≤ 6
  c7 : ∀ c ∈ W.1, c ≤ 7
  l1 : 1 ≤ W.2.length
  l7 : W.2.length ≤ 7
  rs : ∀ rs ∈ W.2, VR W.1.length rs
/-! ### loops -/
section
variable {K : PySem.W.Frag} {g : TG} {tb : TS} {D : Ends} {σ : L2.St} {H : Hp}
/-- for i, x in enumerate(xs) -/
theorem for_enum {a : Addr} {xs : List V} (Pv : Nat → L2.St → Hp → Prop) (h0 : Pv 0 σ H) (hl : ∀ i σ H, i ≤ xs.length → Pv i σ H → SqL K H a xs)
    (hs : ∀ (i : Nat) (x : V) (T : Addr) (σ : L2.St) (H : Hp), xs[i]? = some x → H T = none → Pv i σ H → g (.ref T) σ (upd H T (.tup [.int (i : Nat), x])) fun σ2 H2 => tb { D with nx := Pv (i + 1), ct := Pv (i + 1), bk := D.nx } σ2 H2)
    (hd : ∀ σ H, Pv xs.length σ H → D.nx σ H) : ∃ W : Nat → Nat → L2.St → Hp → Prop, (∃ m, W 0 m σ H) ∧ ∀ i m σ H, W i m σ H →
      ((Ite K a).stop i H ∧ D.nx σ H) ∨ ((Ite K a).go i H ∧ ∃ N : L2.St → Hp → Prop, (∀ σ' H', N σ' H' → ∃ m', m' < m ∧ W (i + 1) m' σ' H') ∧ ∀ x H', (Ite K a).yld i H x H' → g x σ H' fun σ2 H2 => tb { D with nx := N, ct := N, bk := D.nx } σ2 H2) := by
  refine ⟨fun i m σ H => m = xs.length - i ∧ i ≤ xs.length ∧ Pv i σ H, ⟨xs.length, by simp, Nat.zero_le _, h0⟩, ?_⟩
  rintro i m σ H ⟨rfl, hi, p⟩
  have q := hl i σ H hi p
  by_cases hlt : i < xs.length
  · refine .inr ⟨⟨xs, xs[i], q, by simp [hlt]⟩, Pv (i + 1), fun σ' H' p' => ⟨xs.length - (i + 1), by omega, rfl, hlt, p'⟩, fun x H' y => ?_⟩
    obtain ⟨T, z, e1, hT, e2, y⟩ := y
    subst e1 e2
    exact hs i z T σ H (y xs q) hT p
  · have e : i = xs.length := by omega
    subst e
    exact .inl ⟨⟨xs, q, Nat.le_refl _⟩, hd σ H p⟩
/-- for k, v in d.items(), the dict locked -/
theorem for_items {d : Addr} {od : Obj} {kvs : List (Key × V)} (Pv : Nat → L2.St → Hp → Prop) (h0 : Pv 0 σ H) (hl : ∀ i σ H, i ≤ kvs.length → Pv i σ H → H d = some (.frz od (.dK kvs)))
    (hs : ∀ (i : Nat) (k : Key) (v : V) (T : Addr) (σ : L2.St) (H : Hp), kvs[i]? = some (k, v) → H T = none → Pv i σ H → g (.ref T) σ (upd H T (.tup [kV k, v])) fun σ2 H2 => tb { D with nx := Pv (i + 1), ct := Pv (i + 1), bk := D.nx } σ2 H2)
    (hd : ∀ σ H, Pv kvs.length σ H → D.nx σ H) : ∃ W : Nat → Nat → L2.St → Hp → Prop, (∃ m, W 0 m σ H) ∧ ∀ i m σ H, W i m σ H →
      ((Iti d od kvs).stop i H ∧ D.nx σ H) ∨ ((Iti d od kvs).go i H ∧ ∃ N : L2.St → Hp → Prop, (∀ σ' H', N σ' H' → ∃ m', m' < m ∧ W (i + 1) m' σ' H') ∧ ∀ x H', (Iti d od kvs).yld i H x H' → g x σ H' fun σ2 H2 => tb { D with nx := N, ct := N, bk := D.nx } σ2 H2) := by
  refine ⟨fun i m σ H => m = kvs.length - i ∧ i ≤ kvs.length ∧ Pv i σ H, ⟨kvs.length, by simp, Nat.zero_le _, h0⟩, ?_⟩
  rintro i m σ H ⟨rfl, hi, p⟩
  have q := hl i σ H hi p
  by_cases hlt : i < kvs.length
  · refine .inr ⟨⟨q, hlt⟩, Pv (i + 1), fun σ' H' p' => ⟨kvs.length - (i + 1), by omega, rfl, hlt, p'⟩, fun x H' y => ?_⟩
    obtain ⟨T, k, v, e0, e1, hT, e2⟩ := y
    subst e1 e2
    exact hs i k v T σ H e0 hT p
  · have e : i = kvs.length := by omega
    subst e
    exact .inl ⟨⟨q, Nat.le_refl _⟩, hd σ H p⟩
end
theorem iteB {c : Bool} {A B : Prop} (hc : c = true) (h : A) : if c = true then A else B := by rw [if_pos hc]; exact h
theorem iteBF {c : Bool} {A B : Prop} (hc : c = false) (h : B) : if c = true then A else B := by rw [if_neg (by rw [hc]; exact Bool.false_ne_true)]; exact h
theorem ite2B {c : Bool} {A B : Prop} (h1 : c = true → A) (h2 : c = false → B) : if c = true then A else B := by
  cases c
  · exact iteF (h2 rfl)
  · exact iteT (h1 rfl)

/-! ### data as PyData -/
def natsD (ns : List Nat) : PyData := .list (ns.map fun (n : Nat) => PyData.int n)
def optD : Option Nat → PyData
  | none => .none
  | some t => .int t
def dealD (d : List (Option Nat)) : PyData := .list (d.map optD)
def ranksD (rs : List (List Nat)) : PyData := .list (rs.map natsD)
def listsD (ls : List (List (List Nat))) : PyData := .list (ls.map ranksD)
def wishD (W : Wish) : PyData := .tuple [natsD W.1, listsD W.2]
section
variable {α : Type} (f : α → PyData)
theorem lay_map (h : ∀ x, (f x).canLay0 = true) : ∀ xs : List α, PyData.canLayAll0 (xs.map f) = true
  | [] => by simp [PyData.canLayAll0]
  | x :: xs => by simp [PyData.canLayAll0, h x, lay_map h xs]
theorem depth_map {n : Nat} (h : ∀ x, (f x).depth ≤ n) : ∀ xs : List α, PyData.depthAll (xs.map f) ≤ n
  | [] => by simp [PyData.depthAll]
  | x :: xs => by
    have h1 := depth_map h xs
    have h2 := h x
    simp only [List.map_cons, PyData.depthAll]
    omega
theorem eqv_map [DecidableEq α] (h : ∀ x y, PyData.eqv (f x) (f y) = decide (x = y)) : ∀ xs ys : List α, PyData.eqvAll (xs.map f) (ys.map f) = decide (xs = ys)
  | [], [] => by simp [PyData.eqvAll]
  | [], _ :: _ => by simp [PyData.eqvAll]
  | _ :: _, [] => by simp [PyData.eqvAll]
  | x :: xs, y :: ys => by
    simp only [List.map_cons, PyData.eqvAll, h x y, eqv_map h xs ys]
    by_cases e : x = y
    · subst e; simp
    · simp [e]
end
theorem int_lay (n : Nat) : (PyData.int n).canLay0 = true := by simp [PyData.canLay0]
theorem int_depth (n : Nat) : (PyData.int n).depth ≤ 0 := by simp [PyData.depth]
theorem opt_lay (n : Option Nat) : (optD n).canLay0 = true := by cases n <;> simp [optD, PyData.canLay0]
theorem opt_depth (n : Option Nat) : (optD n).depth ≤ 0 := by cases n <;> simp [optD, PyData.depth]
theorem nats_lay (ns : List Nat) : (natsD ns).canLay0 = true := by
  unfold natsD; simp only [PyData.canLay0]; exact lay_map _ int_lay ns
theorem nats_depth (ns : List Nat) : (natsD ns).depth ≤ 1 := by
  have := depth_map _ int_depth ns
  unfold natsD; simp only [PyData.depth]; omega
theorem deal_lay (d : List (Option Nat)) : (dealD d).canLay0 = true := by
  unfold dealD; simp only [PyData.canLay0]; exact lay_map _ opt_lay d
theorem deal_depth (d : List (Option Nat)) : (dealD d).depth ≤ 1 := by
  have := depth_map _ opt_depth d
  unfold dealD; simp only [PyData.depth]; omega
theorem ranks_lay (rs : List (List Nat)) : (ranksD rs).canLay0 = true := by
  unfold ranksD; simp only [PyData.canLay0]; exact lay_map _ nats_lay rs
theorem ranks_depth (rs : List (List Nat)) : (ranksD rs).depth ≤ 2 := by
  have := depth_map _ nats_depth rs
  unfold ranksD; simp only [PyData.depth]; omega
theorem lists_lay (ls : List (List (List Nat))) : (listsD ls).canLay0 = true := by
  unfold listsD; simp only [PyData.canLay0]; exact lay_map _ ranks_lay ls
theorem lists_depth (ls : List (List (List Nat))) : (listsD ls).depth ≤ 3 := by
  have := depth_map _ ranks_depth ls
  unfold listsD; simp only [PyData.depth]; omega
theorem wish_lay (W : Wish) : (wishD W).canLay0 = true := by
  unfold wishD; simp [PyData.canLay0, PyData.canLayAll0, nats_lay, lists_lay]
theorem wish_depth (W : Wish) : (wishD W).depth ≤ 5 := by
  have h1 := nats_depth W.1
  have h2 := lists_depth W.2
  unfold wishD; simp only [PyData.depth, PyData.depthAll]; omega
theorem shaped_by {d : PyData} {n : Nat} (h : d.canLay0 = true) (h2 : d.depth ≤ n) (hn : n ≤ 64) : SeqAt.shaped d = true := by
  show (d.canLay0 && decide (d.depth ≤ 64)) = true
  rw [h, decide_eq_true (by omega)]; rfl
theorem nats_shaped (ns : List Nat) : SeqAt.shaped (natsD ns) = true := shaped_by (nats_lay ns) (nats_depth ns) (by decide)
theorem deal_shaped (d : List (Option Nat)) : SeqAt.shaped (dealD d) = true := shaped_by (deal_lay d) (deal_depth d) (by decide)
theorem wish_shaped (W : Wish) : SeqAt.shaped (wishD W) = true := shaped_by (wish_lay W) (wish_depth W) (by decide)
theorem deals_shaped (ds : List (List (Option Nat))) : SeqAt.shaped (.list (ds.map dealD)) = true := by
  have := depth_map _ deal_depth ds
  exact shaped_by (n := 2) (by simp only [PyData.canLay0]; exact lay_map _ deal_lay ds) (by simp only [PyData.depth]; omega) (by decide)
theorem opt_eqv (x y : Option Nat) : PyData.eqv (optD x) (optD y) = decide (x = y) := by
  cases x <;> cases y <;> simp [optD, PyData.eqv]
  rename_i a b
  rw [Bool.eq_iff_iff]; simp; omega
theorem int_eqv (x y : Nat) : PyData.eqv (.int x) (.int y) = decide (x = y) := by
  rw [Bool.eq_iff_iff]; simp [PyData.eqv]; omega
theorem nats_eqv (xs ys : List Nat) : PyData.eqv (natsD xs) (natsD ys) = decide (xs = ys) := by
  unfold natsD; simp only [PyData.eqv]; exact eqv_map _ int_eqv xs ys
theorem deal_eqv (xs ys : List (Option Nat)) : PyData.eqv (dealD xs) (dealD ys) = decide (xs = ys) := by
  unfold dealD; simp only [PyData.eqv]; exact eqv_map _ opt_eqv xs ys
theorem wish_eqv (W : Wish) : PyData.eqv (wishD W) (wishD W) = true := SeqAt.eqv_refl _ (wish_lay W)
section
variable {K : PySem.W.Frag} {H : Hp}
theorem dpAll_map {α : Type} {f : α → PyData} {v : α → V} (h : ∀ x, Dp K H (v x) (f x)) : ∀ xs : List α, DpAll K H (xs.map v) (xs.map f)
  | [] => .nil
  | x :: xs => .cons (h x) (dpAll_map h xs)
theorem dpAll_at {α : Type} {f : α → PyData} {F : Addr → α → Prop} (h : ∀ a x, F a x → Dp K H (.ref a) (f x)) : ∀ (as : List Addr) (xs : List α), AllAt F as xs → DpAll K H (rV as) (xs.map f)
  | [], [], _ => .nil
  | [], _ :: _, A => by have := A.1; simp at this
  | _ :: _, [], A => by have := A.1; simp at this
  | a :: as, x :: xs, A => .cons (h a x (A.2 0 a x rfl rfl)) (dpAll_at h as xs ⟨by have := A.1; simpa using this, fun i b y h1 h2 => A.2 (i + 1) b y (by simpa using h1) (by simpa using h2)⟩)
theorem opt_dp (x : Option Nat) : Dp K H (oV x) (optD x) := by
  cases x with
  | none => exact .non
  | some t => exact .int t
theorem row_dp {b : Addr} {r : List Nat} (h : H b = some (.lst (nV r))) : Dp K H (.ref b) (natsD r) := .lst (SqL.of h) (dpAll_map (fun n => .int _) r)
theorem deal_dp {b : Addr} {r : List (Option Nat)} (h : H b = some (.lst (dV r))) : Dp K H (.ref b) (dealD r) := .lst (SqL.of h) (dpAll_map opt_dp r)
theorem ranks_dp {b : Addr} {r : List (List Nat)} (h : RksAt H b r) : Dp K H (.ref b) (ranksD r) := let ⟨bs, h1, h2⟩ := h; .lst (SqL.of h1) (dpAll_at (fun _ _ x => row_dp x) bs r h2)
theorem lists_dp {b : Addr} {r : List (List (List Nat))} (h : LstsAt H b r) : Dp K H (.ref b) (listsD r) := let ⟨bs, h1, h2⟩ := h; .lst (SqL.of h1) (dpAll_at (fun _ _ x => ranks_dp x) bs r h2)
theorem wish_dp {b : Addr} {W : Wish} (h : WAt H b W) : Dp K H (.ref b) (wishD W) := let ⟨c, l, h1, h2, h3⟩ := h; .tup (SqT.of h1) (.cons (row_dp h2) (.cons (lists_dp h3) .nil))
end
theorem vb {Q : VK} {H : Hp} {b c : Bool} (h : b = c) (q : Q (.bl c) H) : Q (.bl b) H := by rw [h]; exact q
theorem vi {Q : VK} {H : Hp} {b c : Int} (h : b = c) (q : Q (.int c) H) : Q (.int b) H := by rw [h]; exact q
end WD

set_option Elab.async false
set_option linter.all false
set_option maxRecDepth 100000
set_option maxHeartbeats 4000000
namespace WD
open PySem PySem.Spec PyProof.Rows L2
section
variable {P : Program} {w : World} {K : PySem.W.Frag} {mg : Str → Option Value} {base : Heap} {cS cR cP : Addr}
/-! ### is_whole -/
def sp_is_whole : Sp := fun vs H Q _ => ∃ i : Int, vs = [.int i] ∧ Q (.bl true) H
abbrev nm_is_whole : List Str := ["thing"]
theorem sc_is_whole : FnScope nm_is_whole ["thing"] (defScope s_is_whole) := ⟨rfl, rfl, rfl, by decide +kernel, rfl, by decide +kernel, by decide +kernel⟩
theorem c_is_whole (T : Tx K mg cS cR cP) : C8.Cal P w K mg base 1 "is_whole" sp_is_whole [] := by
  refine cal_of T.d_is_whole sc_is_whole (fun _ _ _ _ _ _ us hl => match us, hl with | [_], _ => rfl) (fun vs H Q E h => ?_) (fun f cdv A outer s H vs Q E hr h => ?_)
  · obtain ⟨i, rfl, q⟩ := h
    rfl
  · obtain ⟨i, rfl, q⟩ := h
    have hu := hu_of hr
    refine ⟨_, 
    (pss_one (ps_ret (pe_and (pe_callB call_isi (by rfl) T.b_isinstance bo_isinstance (pa_cons (pv 0) (pa_cons (pe_bltn (v := .ty "int") (by rfl) T.b_int bo_int rfl) pa_nil))) (pe_one (pe_not (pe_callB call_isi (by rfl) T.b_isinstance bo_isinstance (pa_cons (pv 0) (pa_cons (pe_bltn (v := .ty "bool") (by rfl) T.b_bool bo_bool rfl) pa_nil)))))))), ?_⟩
    refine ⟨_, rfl, _, _, _, _, true, rfl, .ty _, .base (.int _), kit_ty (by decide +kernel), true, rfl, iteT ?_⟩
    exact ⟨_, rfl, _, _, _, _, false, rfl, .ty _, .base (.int _), kit_ty (by decide +kernel), false, rfl, q⟩
/-! ### need_row -/
def sp_need_row : Sp := fun vs H Q _ => ∃ (part : Str) (a : Addr) (most : Int) (xs : List V), vs = [.str part, .ref a, .int most] ∧ H a = some (.lst xs) ∧ 1 ≤ xs.length ∧ (xs.length : Int) ≤ most ∧ Q .non H
abbrev nm_need_row : List Str := ["part", "thing", "most"]
theorem sc_need_row : FnScope nm_need_row ["part", "thing", "most"] (defScope s_need_row) := ⟨rfl, rfl, rfl, by decide +kernel, rfl, by decide +kernel, by decide +kernel⟩
theorem c_need_row (T : Tx K mg cS cR cP) : C8.Cal P w K mg base 1 "need_row" sp_need_row [] := by
  refine cal_of T.d_need_row sc_need_row (fun _ _ _ _ _ _ us hl => match us, hl with | [_, _, _], _ => rfl) (fun vs H Q E h => ?_) (fun f cdv A outer s H vs Q E hr h => ?_)
  · obtain ⟨part, a, most, xs, rfl, ha, h1, h2, q⟩ := h
    rfl
  · obtain ⟨part, a, most, xs, rfl, ha, h1, h2, q⟩ := h
    have hu := hu_of hr
    refine ⟨_, 
    (pss_one (ps_if (PW.pt (pw_or (pt_not (pt_val (pe_callB call_isi (by rfl) T.b_isinstance bo_isinstance (pa_cons (pv 1) (pa_cons (pe_bltn (v := .ty "list") (by rfl) T.b_list bo_list rfl) pa_nil))))) (pw_or1 (pt_not (pt_chain op_le op_le pe_int (pe_callB call_len_seq (by rfl) T.b_len bo_len (pa_cons (pv 1) pa_nil)) (pv 2)))))) 
      (pss_one ps_never) pss_nil)), ?_⟩
    refine ⟨_, rfl, _, _, _, _, true, rfl, .ty _, .base (.lst ha), kit_ty (by decide +kernel), true, rfl, ?_⟩
    refine iteF ⟨_, rfl, _, _, rfl, .inl (SqL.of ha), _, _, rfl, rfl, true, ?_, iteT ⟨_, rfl, _, _, rfl, rfl, true, ?_, iteF q⟩⟩
    · exact congrArg V.bl (decide_eq_true (by omega))
    · exact congrArg V.bl (decide_eq_true h2)
/-! ### is_many, is_thing -/
def sp_is_many : Sp := fun vs H Q _ => ∃ i : Int, vs = [.int i] ∧ 0 ≤ i ∧ i ≤ 7 ∧ Q (.bl true) H
abbrev nm_is_many : List Str := ["thing"]
theorem sc_is_many : FnScope nm_is_many ["thing"] (defScope s_is_many) := ⟨rfl, rfl, rfl, by decide +kernel, rfl, by decide +kernel, by decide +kernel⟩
theorem c_is_many (T : Tx K mg cS cR cP) : C8.Cal P w K mg base 2 "is_many" sp_is_many [] := by
  refine cal_of T.d_is_many sc_is_many (fun _ _ _ _ _ _ us hl => match us, hl with | [_], _ => rfl) (fun vs H Q E h => ?_) (fun f cdv A outer s H vs Q E hr h => ?_)
  · obtain ⟨i, rfl, h1, h2, q⟩ := h
    rfl
  · obtain ⟨i, rfl, h1, h2, q⟩ := h
    have hu := hu_of hr
    refine ⟨_, 
    (pss_one (ps_ret (pe_and (C8.pe_c (c_is_whole T) hr (by decide) rfl (pa_cons (pv 0) pa_nil)) (pe_one (pe_chain op_le op_le pe_int (pv 0) (pe_gcw rfl (gcI T.k_MOST_COPIES))))))), ?_⟩
    refine ⟨_, rfl, _, rfl, true, rfl, iteT ⟨_, rfl, _, _, rfl, rfl, true, congrArg V.bl (decide_eq_true h1), iteT ⟨_, _, rfl, rfl, ?_⟩⟩⟩
    exact vb (decide_eq_true h2) q
def sp_is_thing : Sp := fun vs H Q _ => ∃ i m : Int, vs = [.int i, .int m] ∧ 0 ≤ i ∧ i < m ∧ Q (.bl true) H
abbrev nm_is_thing : List Str := ["thing", "many"]
theorem sc_is_thing : FnScope nm_is_thing ["thing", "many"] (defScope s_is_thing) := ⟨rfl, rfl, rfl, by decide +kernel, rfl, by decide +kernel, by decide +kernel⟩
theorem c_is_thing (T : Tx K mg cS cR cP) : C8.Cal P w K mg base 2 "is_thing" sp_is_thing [] := by
  refine cal_of T.d_is_thing sc_is_thing (fun _ _ _ _ _ _ us hl => match us, hl with | [_, _], _ => rfl) (fun vs H Q E h => ?_) (fun f cdv A outer s H vs Q E hr h => ?_)
  · obtain ⟨i, m, rfl, h1, h2, q⟩ := h
    rfl
  · obtain ⟨i, m, rfl, h1, h2, q⟩ := h
    have hu := hu_of hr
    refine ⟨_, 
    (pss_one (ps_ret (pe_and (C8.pe_c (c_is_whole T) hr (by decide) rfl (pa_cons (pv 0) pa_nil)) (pe_one (pe_chain op_le op_lt pe_int (pv 0) (pv 1)))))), ?_⟩
    refine ⟨_, rfl, _, rfl, true, rfl, iteT ⟨_, rfl, _, _, rfl, rfl, true, congrArg V.bl (decide_eq_true h1), iteT ⟨_, rfl, _, _, rfl, rfl, ?_⟩⟩⟩
    exact vb (decide_eq_true h2) q
/-! ### are_ranks -/
def sp_are_ranks : Sp := fun vs H Q _ => ∃ (a : Addr) (rs : List (List Nat)) (m : Nat), vs = [.ref a, .int m] ∧ RksAt H a rs ∧ VR m rs ∧ m ≤ 6 ∧ ∀ H', Same H H' → Q (.bl true) H'
abbrev nm_are_ranks : List Str := ["thing", "many", "seen", "rank", "one"]
theorem sc_are_ranks : FnScope nm_are_ranks ["thing", "many"] (defScope s_are_ranks) := ⟨rfl, rfl, rfl, by decide +kernel, rfl, by decide +kernel, by decide +kernel⟩
theorem c_are_ranks (T : Tx K mg cS cR cP) : C8.Cal P w K mg base 3 "are_ranks" sp_are_ranks [] := by
  refine cal_of T.d_are_ranks sc_are_ranks (fun _ _ _ _ _ _ us hl => match us, hl with | [_, _], _ => rfl) (fun vs H Q E h => ?_) (fun f cdv A outer s H vs Q E hr h => ?_)
  · obtain ⟨a, rs, m, rfl, hR, hV, hm6, q⟩ := h
    rfl
  · obtain ⟨a, rs, m, rfl, hR, hV, hm6, q⟩ := h
    have hu := hu_of hr
    refine ⟨_, 
    (pss_cons (ps_if (PW.pt (pw_or (pt_not (pt_val (pe_callB call_isi (by rfl) T.b_isinstance bo_isinstance (pa_cons (pv 0) (pa_cons (pe_bltn (v := .ty "list") (by rfl) T.b_list bo_list rfl) pa_nil))))) (pw_or1 (pt_cmpR op_gt (pe_callB call_len_seq (by rfl) T.b_len bo_len (pa_cons (pv 0) pa_nil)) (pe_gcw rfl (gcI T.k_MOST_RANKS)) (nomark _))))) 
      (pss_one (ps_ret pe_bl)) pss_nil)
    (pss_cons (ps_set (i := 2) sc_are_ranks.nd rfl (by first | exact Or.inl rfl | exact Or.inr rfl) (pe_lst pa_nil))
    (pss_cons (ps_for PassesOwn.never rfl (pi_list (pv 0)) (pg_name (i := 3) sc_are_ranks.nd rfl (by first | exact Or.inl rfl | exact Or.inr rfl)) 
      (pss_cons (ps_if (PW.pt (pw_or (pt_not (pt_val (pe_callB call_isi (by rfl) T.b_isinstance bo_isinstance (pa_cons (pv 3) (pa_cons (pe_bltn (v := .ty "list") (by rfl) T.b_list bo_list rfl) pa_nil))))) (pw_or1 (pt_cmpR (op_eqD hr.units) (pv 3) (pe_lst pa_nil) (nomark _))))) 
        (pss_one (ps_ret pe_bl)) pss_nil)
      (pss_one (ps_for PassesOwn.never rfl (pi_list (pv 3)) (pg_name (i := 4) sc_are_ranks.nd rfl (by first | exact Or.inl rfl | exact Or.inr rfl)) 
        (pss_cons (ps_if (PW.pt (pw_or (pt_not (pt_val (C8.pe_c (c_is_thing T) hr (by decide) rfl (pa_cons (pv 4) (pa_cons (pv 1) pa_nil))))) (pw_or1 (pt_cmpR op_in_seq (pv 4) (pv 2) (by rfl))))) 
          (pss_one (ps_ret pe_bl)) pss_nil)
        (pss_one (ps_expr (pe_bm PySem.F.plainAttrs_list PySem.F.slot_list_append PySem.F.type_list_append mt_append (pv 2) (pa_cons (pv 4) pa_nil)))))))))
    (pss_one (ps_ret pe_bl))))), ?_⟩
    obtain ⟨bs, ha, hbs⟩ := id hR
    refine ⟨_, rfl, _, _, _, _, true, rfl, .ty _, .base (.lst ha), kit_ty (by decide +kernel), true, rfl, ?_⟩
    refine iteF ⟨_, rfl, _, _, rfl, .inl (SqL.of ha), _, _, rfl, rfl, false, ?_, iteF ?_⟩
    · have h5 := hV.few
      refine congrArg V.bl (decide_eq_false ?_)
      rw [rV_len, hbs.1]; omega
    -- seen = []
    refine ⟨Nat.zero_le _, fun z nz => ?_⟩
    have s1 : Same H (upd H z (.lst [])) := same_upd nz
    refine ⟨_, rfl, a, rfl, ⟨_, SqL.of (s1 _ _ ha)⟩, for_list (K := K) (a := a) (xs := rV bs) (fun i σ H2 => ∃ v3 v4, σ = [some (.ref a), some (.int m), some (.ref z), v3, v4] ∧ Same H H2 ∧ H2 z = some (.lst (nV (rs.take i).flatten)))
      ⟨none, none, rfl, s1, upd_same⟩ (fun i σ H2 _ ⟨_, _, _, s2, _⟩ => SqL.of (s2 _ _ ha)) ?_ ?_⟩
    · rintro i x σ H2 hx ⟨v3, v4, rfl, s2, hz⟩
      obtain ⟨b, hb, rfl⟩ := rV_get hx
      obtain ⟨r, hr', hrow⟩ := hbs.at hb
      have hrow2 : RowAt H2 b r := hrow.same s2
      have hmem : r ∈ rs := List.mem_of_getElem? hr'
      -- not isinstance(rank, list) or rank == []
      refine ⟨_, rfl, _, _, _, _, true, rfl, .ty _, .base (.lst hrow2), kit_ty (by decide +kernel), true, rfl, ?_⟩
      refine iteF ⟨_, rfl, Nat.zero_le _, fun e ne => ?_⟩
      have s3 : Same H2 (upd H2 e (.lst [])) := same_upd ne
      have hrow3 : RowAt (upd H2 e (.lst [])) b r := hrow2.same s3
      have hz3 := s3 _ _ hz
      refine ⟨_, _, row_dp hrow3, .lst (SqL.of upd_same) .nil, nats_shaped r, nats_shaped [], false, ?_, iteF ?_⟩
      · show V.bl (PyData.eqv (natsD r) (natsD [])) = V.bl false
        rw [nats_eqv]
        exact congrArg V.bl (decide_eq_false (hV.ne r hmem))
      -- for one in rank
      refine ⟨_, rfl, b, rfl, ⟨_, SqL.of hrow3⟩, for_list (K := K) (a := b) (xs := nV r) (fun j σ H4 => ∃ v4, σ = [some (.ref a), some (.int m), some (.ref z), some (.ref b), v4] ∧ Same H H4 ∧ H4 b = some (.lst (nV r)) ∧ H4 z = some (.lst (nV ((rs.take i).flatten ++ r.take j))))
        ⟨v4, rfl, s2.trans s3, hrow3, by rw [List.take_zero, List.append_nil]; exact hz3⟩ (fun j σ H4 _ ⟨_, _, _, h, _⟩ => SqL.of h) ?_ ?_⟩
      · rintro j y σ H4 hy ⟨v4, rfl, s4, hb4, hz4⟩
        obtain ⟨t, ht, rfl⟩ := nV_get hy
        have hjr := (List.getElem?_eq_some_iff.mp ht).1
        have hir := (List.getElem?_eq_some_iff.mp hr').1
        have htm : t ∈ r := List.mem_of_getElem? ht
        have htf : t ∈ rs.flatten := List.mem_flatten.mpr ⟨r, hmem, htm⟩
        have hlt := hV.lt t htf
        -- seen ahead does not hold it
        have esp : rs.flatten = ((rs.take i).flatten ++ r.take j) ++ (t :: (r.drop (j + 1) ++ (rs.drop (i + 1)).flatten)) := by
          have e1 : rs = rs.take i ++ (r :: rs.drop (i + 1)) := by
            rw [← (List.getElem?_eq_some_iff.mp hr').2, List.getElem_cons_drop, List.take_append_drop]
          have e2 : r = r.take j ++ (t :: r.drop (j + 1)) := by
            rw [← (List.getElem?_eq_some_iff.mp ht).2, List.getElem_cons_drop, List.take_append_drop]
          conv => lhs; rw [e1]
          rw [List.flatten_append, List.flatten_cons]
          conv => lhs; rw [e2]
          simp [List.append_assoc]
        have hnin : t ∉ (rs.take i).flatten ++ r.take j := fun hm => by
          have nd := hV.nd
          rw [esp, List.nodup_append] at nd
          exact nd.2.2 t hm t List.mem_cons_self rfl
        refine ⟨_, rfl, _, rfl, (t : Int), (m : Int), rfl, by omega, by omega, true, rfl, ?_⟩
        refine iteF ⟨_, rfl, _, rfl, z, _, rfl, .inl (SqL.of hz4), rfl, nV_flat _, false, ?_, iteF ?_⟩
        · show V.bl (inV (.int t) (nV _)) = V.bl false
          rw [inV_nV, decide_eq_false hnin]
        refine ⟨_, rfl, .inl ⟨rfl, _, SqL.of hz4⟩, _, rfl, z, _, _, rfl, rfl, hz4, ?_, ?_⟩
        · rw [nV_len]
          have hlen : ((rs.take i).flatten ++ r.take j).length ≤ m := by
            have nd := hV.nd
            rw [esp, List.nodup_append] at nd
            refine nodup_bound m _ nd.1 fun x hx => hV.lt x ?_
            rw [esp]; exact List.mem_append_left _ hx
          exact small1000 (by omega)
        · refine ⟨_, rfl, fun c o e => ?_, ?_, ?_⟩
          · rw [upd_ne (ne_of_none e nz)]; exact s4 c o e
          · rw [upd_ne (ne_of_none hrow nz)]; exact hb4
          · rw [upd_same, nV_snoc]
            have e2 : r.take (j + 1) = r.take j ++ [t] := by
              rw [List.take_succ_eq_append_getElem hjr, (List.getElem?_eq_some_iff.mp ht).2]
            rw [e2, List.append_assoc]
      · rintro σ H4 ⟨v4, rfl, s4, hb4, hz4⟩
        refine ⟨_, v4, rfl, s4, ?_⟩
        rw [hz4, nV_len, List.take_of_length_le (Nat.le_refl _)]
        have hir := (List.getElem?_eq_some_iff.mp hr').1
        rw [List.take_succ_eq_append_getElem hir, List.flatten_append, (List.getElem?_eq_some_iff.mp hr').2]
        simp
    · rintro σ H2 ⟨v3, v4, rfl, s2, hz⟩
      exact q H2 s2
/-! ### look_at_wishes -/
def sp_look_at_wishes : Sp := fun vs H Q _ => ∃ (p : Addr) (W : Wish), vs = [.ref p] ∧ WAt H p W ∧ VW W ∧ ∀ H', Same H H' → Q .non H'
abbrev nm_look_at_wishes : List Str := ["thing", "copies", "lists", "number", "many", "ranks"]
theorem sc_look_at_wishes : FnScope nm_look_at_wishes ["thing"] (defScope s_look_at_wishes) := ⟨rfl, rfl, rfl, by decide +kernel, rfl, by decide +kernel, by decide +kernel⟩
theorem c_look_at_wishes (T : Tx K mg cS cR cP) : C8.Cal P w K mg base 4 "look_at_wishes" sp_look_at_wishes [] := by
  refine cal_of T.d_look_at_wishes sc_look_at_wishes (fun _ _ _ _ _ _ us hl => match us, hl with | [_], _ => rfl) (fun vs H Q E h => ?_) (fun f cdv A outer s H vs Q E hr h => ?_)
  · obtain ⟨p, W, rfl, hW, hV, q⟩ := h
    rfl
  · obtain ⟨p, W, rfl, hW, hV, q⟩ := h
    have hu := hu_of hr
    refine ⟨_, 
    (pss_cons (ps_if (PW.pt (pw_or (pt_not (pt_val (pe_callB call_isi (by rfl) T.b_isinstance bo_isinstance (pa_cons (pv 0) (pa_cons (pe_bltn (v := .ty "tuple") (by rfl) T.b_tuple bo_tuple rfl) pa_nil))))) (pw_or1 (pt_cmpR op_ne (pe_callB call_len_seq (by rfl) T.b_len bo_len (pa_cons (pv 0) pa_nil)) pe_int (nomark _))))) 
      (pss_one ps_never) pss_nil)
    (pss_cons (ps_asg (pv 0) (pg_tup rfl (pgs_cons (pg_name (i := 1) sc_look_at_wishes.nd rfl (by first | exact Or.inl rfl | exact Or.inr rfl)) (pgs_cons (pg_name (i := 2) sc_look_at_wishes.nd rfl (by first | exact Or.inl rfl | exact Or.inr rfl)) pgs_nil))))
    (pss_cons (ps_expr (C8.pe_c (c_need_row T) hr (by decide) rfl (pa_cons pe_str (pa_cons (pv 1) (pa_cons (pe_gcw rfl (gcI T.k_MOST_THINGS)) pa_nil)))))
    (pss_cons (ps_for PassesOwn.never rfl (pi_enum (by rfl) T.b_enumerate (pa_cons (pv 1) pa_nil)) (pg_tup rfl (pgs_cons (pg_name (i := 3) sc_look_at_wishes.nd rfl (by first | exact Or.inl rfl | exact Or.inr rfl)) (pgs_cons (pg_name (i := 4) sc_look_at_wishes.nd rfl (by first | exact Or.inl rfl | exact Or.inr rfl)) pgs_nil))) 
      (pss_one (ps_if (pt_not (pt_val (C8.pe_c (c_is_many T) hr (by decide) rfl (pa_cons (pv 4) pa_nil)))) 
        (pss_one ps_never) pss_nil)))
    (pss_cons (ps_expr (C8.pe_c (c_need_row T) hr (by decide) rfl (pa_cons pe_str (pa_cons (pv 2) (pa_cons (pe_gcw rfl (gcI T.k_MOST_ASKERS)) pa_nil)))))
    (pss_one (ps_for PassesOwn.never rfl (pi_enum (by rfl) T.b_enumerate (pa_cons (pv 2) pa_nil)) (pg_tup rfl (pgs_cons (pg_name (i := 3) sc_look_at_wishes.nd rfl (by first | exact Or.inl rfl | exact Or.inr rfl)) (pgs_cons (pg_name (i := 5) sc_look_at_wishes.nd rfl (by first | exact Or.inl rfl | exact Or.inr rfl)) pgs_nil))) 
      (pss_one (ps_if (pt_not (pt_val (C8.pe_c (c_are_ranks T) hr (by decide) rfl (pa_cons (pv 5) (pa_cons (pe_callB call_len_seq (by rfl) T.b_len bo_len (pa_cons (pv 1) pa_nil)) pa_nil))))) 
        (pss_one ps_never) pss_nil))))))))), ?_⟩
    obtain ⟨c, l, hp, hc, bs, hl, hbs⟩ := id hW
    refine ⟨_, rfl, _, _, _, _, true, rfl, .ty _, .base (.tup hp), kit_ty (by decide +kernel), true, rfl, ?_⟩
    refine iteF ⟨_, rfl, _, _, rfl, .inr (SqT.of hp), rfl, _, rfl, iteNS rfl ?_⟩
    refine ⟨_, rfl, p, _, rfl, SqT.of hp, rfl, _, _, rfl, _, _, rfl, rfl, ?_⟩
    refine ⟨_, rfl, _, c, 6, nV W.1, rfl, hc, by rw [nV_len]; exact hV.c1, by rw [nV_len]; have := hV.c6; omega, ?_⟩
    -- for number, many in enumerate(copies)
    refine ⟨_, rfl, c, _, rfl, SqL.of hc, for_enum (K := K) (a := c) (xs := nV W.1) (fun i σ H2 => ∃ v3 v4 v5, σ = [some (.ref p), some (.ref c), some (.ref l), v3, v4, v5] ∧ Same H H2) ⟨none, none, none, rfl, Same.refl H⟩
      (fun i σ H2 _ ⟨_, _, _, _, s2⟩ => SqL.of (s2 _ _ hc)) ?_ ?_⟩
    · rintro i x T' σ H2 hx nT ⟨v3, v4, v5, rfl, s2⟩
      obtain ⟨n, hn, rfl⟩ := nV_get hx
      have s3 := same_upd (o := .tup [.int (i : Nat), .int (n : Int)]) nT
      refine ⟨T', _, rfl, SqT.of upd_same, rfl, _, _, rfl, _, _, rfl, rfl, ?_⟩
      have h7 := hV.c7 n (List.mem_of_getElem? hn)
      refine ⟨_, rfl, (n : Int), rfl, by omega, by omega, true, rfl, ?_⟩
      exact iteF ⟨_, _, v5, rfl, s2.trans s3⟩
    · rintro σ H2 ⟨v3, v4, v5, rfl, s2⟩
      refine ⟨_, rfl, _, l, 7, rV bs, rfl, s2 _ _ hl, by rw [rV_len, hbs.1]; exact hV.l1, by rw [rV_len, hbs.1]; have := hV.l7; omega, ?_⟩
      refine ⟨_, rfl, l, _, rfl, SqL.of (s2 _ _ hl), for_enum (K := K) (a := l) (xs := rV bs) (fun i σ H3 => ∃ v3 v5, σ = [some (.ref p), some (.ref c), some (.ref l), v3, v4, v5] ∧ Same H H3) ⟨v3, v5, rfl, s2⟩
        (fun i σ H3 _ ⟨_, _, _, s3⟩ => SqL.of (s3 _ _ hl)) ?_ ?_⟩
      · rintro i x T' σ H3 hx nT ⟨v3, v5, rfl, s3⟩
        obtain ⟨b, hb, rfl⟩ := rV_get hx
        obtain ⟨rs, hrs, hR⟩ := hbs.at hb
        have s4 := s3.trans (same_upd (o := .tup [.int (i : Nat), .ref b]) nT)
        refine ⟨T', _, rfl, SqT.of upd_same, rfl, _, _, rfl, _, _, rfl, rfl, ?_⟩
        refine ⟨_, rfl, _, rfl, c, nV W.1, rfl, .inl (SqL.of (s4 _ _ hc)), b, rs, W.1.length, ?_, hR.same s4, hV.rs rs (List.mem_of_getElem? hrs), hV.c6, fun H5 s5 => ⟨true, rfl, ?_⟩⟩
        · rw [nV_len]; rfl
        · exact iteF ⟨_, _, rfl, s4.trans s5⟩
      · rintro σ H3 ⟨v3, v5, rfl, s3⟩
        exact q H3 s3
/-! ### longest -/
/-- the longest list's ranks -/
def lg (ls : List (List (List Nat))) : Nat := (ls.map List.length).foldr max 0
theorem foldr_max : ∀ (l : List Nat) (m : Nat), m ∈ l → (∀ x ∈ l, x ≤ m) → l.foldr max 0 = m
  | [], m, h, _ => by simp at h
  | x :: l, m, h, hm => by
    rw [List.foldr_cons]
    have hx := hm x List.mem_cons_self
    by_cases e : m ∈ l
    · rw [foldr_max l m e fun y hy => hm y (List.mem_cons_of_mem _ hy)]; omega
    · have e2 : x = m := by
        rcases List.mem_cons.mp h with h | h
        · exact h.symm
        · exact absurd h e
      have : ∀ l : List Nat, (∀ y ∈ l, y ≤ m) → l.foldr max 0 ≤ m := by
        intro l
        induction l with
        | nil => intro _; simp
        | cons y l ih =>
          intro h
          rw [List.foldr_cons]
          have h1 := h y List.mem_cons_self
          have h2 := ih fun z hz => h z (List.mem_cons_of_mem _ hz)
          omega
      have := this l fun y hy => hm y (List.mem_cons_of_mem _ hy)
      omega
def sp_longest : Sp := fun vs H Q _ => ∃ (p : Addr) (W : Wish), vs = [.ref p] ∧ WAt H p W ∧ VW W ∧ ∀ H', Same H H' → Q (.int (lg W.2 : Nat)) H'
abbrev nm_longest : List Str := ["wishes", "ranks"]
theorem sc_longest : FnScope nm_longest ["wishes"] (defScope s_longest) := ⟨rfl, rfl, rfl, by decide +kernel, rfl, by decide +kernel, by decide +kernel⟩
theorem c_longest (T : Tx K mg cS cR cP) : C8.Cal P w K mg base 5 "longest" sp_longest [] := by
  refine cal_of T.d_longest sc_longest (fun _ _ _ _ _ _ us hl => match us, hl with | [_], _ => rfl) (fun vs H Q E h => ?_) (fun f cdv A outer s H vs Q E hr h => ?_)
  · obtain ⟨p, W, rfl, hW, hV, q⟩ := h
    rfl
  · obtain ⟨p, W, rfl, hW, hV, q⟩ := h
    have hu := hu_of hr
    refine ⟨_, 
    (pss_cons (ps_expr (C8.pe_c (c_look_at_wishes T) hr (by decide) rfl (pa_cons (pv 0) pa_nil)))
    (pss_one (ps_ret (pe_callB (cr_max rfl) (by rfl) T.b_max bo_max (pa_cons (pe_lc (own := [("ranks", 1)]) (g := gName 1) (tt := tYes) rfl sc_longest.nd (pi_list (pe_ix ix_tup (pv 0) pe_int (fun _ _ => rfl))) (blkOk_by (own := [("ranks", 1)]) (N := nm_longest) (sc := defScope s_longest) (by decide +kernel)) (fun _ _ _ _ _ => (pg_name (i := 1) sc_longest.nd rfl (by first | exact Or.inl rfl | exact Or.inr rfl))) (fun _ _ _ _ _ => pts_nil) (fun _ _ _ _ _ => (pe_callB (r := rLenS K) call_len_seq (by rfl) T.b_len bo_len (pa_cons (pv 1) pa_nil)))) pa_nil))))), ?_⟩
    refine ⟨_, rfl, p, W, rfl, hW, hV, fun H1 s1 => ?_⟩
    obtain ⟨c, l, hp, hc, bs, hl, hbs⟩ := hW.same s1
    refine ⟨_, rfl, p, _, _, _, rfl, rfl, SqT.of hp, rfl, l, rfl, ⟨_, SqL.of hl⟩, fun D nD => ?_⟩
    refine lc_list (K := K) (a := l) (xs := rV bs) (fun i H2 => Same H1 H2 ∧ H2 D = some (.lst (nV ((W.2.take i).map List.length)))) ⟨same_upd nD, upd_same⟩ (fun i H2 _ ⟨s2, _⟩ => SqL.of (s2 _ _ hl)) ?_ ?_
    · rintro i x H2 hx ⟨s2, hD⟩
      obtain ⟨b, hb, rfl⟩ := rV_get hx
      obtain ⟨rs, hrs, cs, hb2, hcs⟩ := hbs.at hb
      have hi := (List.getElem?_eq_some_iff.mp hrs).1
      refine ⟨rfl, ?_⟩
      refine ⟨_, rfl, b, _, rfl, .inl (SqL.of (s2 _ _ hb2)), _, hD, ?_, fun d o e => ?_, ?_⟩
      · rw [nV_len, List.length_map, List.length_take]
        exact small1000 (by have := hV.l7; omega)
      · rw [upd_ne (ne_of_none e nD)]; exact s2 d o e
      · rw [upd_same, rV_len, hcs.1]
        show some (HO.lst (nV _ ++ [V.int ((rs.length : Nat) : Int)])) = _
        rw [nV_snoc, List.take_succ_eq_append_getElem hi, (List.getElem?_eq_some_iff.mp hrs).2, List.map_append]; rfl
    · rintro H2 ⟨s2, hD⟩
      rw [rV_len, hbs.1, List.take_length] at hD
      have e1 : nV (W.2.map List.length) = ((W.2.map List.length).map fun (n : Nat) => (n : Int)).map V.int := by simp only [nV, List.map_map]; rfl
      rw [e1] at hD
      refine ⟨D, _, rfl, SqL.of hD, by rw [List.length_map, List.length_map]; exact hV.l1, fun m hm hmax => ?_⟩
      obtain ⟨n, hn, rfl⟩ := List.mem_map.mp hm
      have e2 : lg W.2 = n := foldr_max _ n hn fun x hx => by
        have := hmax (x : Int) (List.mem_map.mpr ⟨x, hx, rfl⟩)
        omega
      have := q H2 (s1.trans s2)
      rw [e2] at this
      exact this
/-! ### aims -/
def Ord (o : Str) : Prop := o = ("firsts" : Str) ∨ o = ("full" : Str) ∨ o = ("lasts" : Str)
def sp_is_order : Sp := fun vs H Q _ => ∃ o : Str, vs = [.str o] ∧ Ord o ∧ ∀ H', Same H H' → Q (.bl true) H'
abbrev nm_is_order : List Str := ["thing"]
theorem sc_is_order : FnScope nm_is_order ["thing"] (defScope s_is_order) := ⟨rfl, rfl, rfl, by decide +kernel, rfl, by decide +kernel, by decide +kernel⟩
theorem c_is_order (T : Tx K mg cS cR cP) : C8.Cal P w K mg base 1 "is_order" sp_is_order [] := by
  refine cal_of T.d_is_order sc_is_order (fun _ _ _ _ _ _ us hl => match us, hl with | [_], _ => rfl) (fun vs H Q E h => ?_) (fun f cdv A outer s H vs Q E hr h => ?_)
  · obtain ⟨o, rfl, ho, q⟩ := h
    rfl
  · obtain ⟨o, rfl, ho, q⟩ := h
    have hu := hu_of hr
    refine ⟨_, 
    (pss_one (ps_ret (pe_and (pe_callB call_isi (by rfl) T.b_isinstance bo_isinstance (pa_cons (pv 0) (pa_cons (pe_bltn (v := .ty "str") (by rfl) T.b_str bo_str rfl) pa_nil))) (pe_one (pe_cmpR op_in_seq (pv 0) (pe_tup (pa_cons pe_str (pa_cons pe_str (pa_cons pe_str pa_nil)))) (by rfl)))))), ?_⟩
    refine ⟨_, rfl, _, _, _, _, true, rfl, .ty _, .base (.str _), kit_ty (by decide +kernel), true, rfl, iteT ?_⟩
    refine ⟨_, rfl, by decide, fun t nt => ⟨t, _, rfl, .inr (SqT.of upd_same), rfl, rfl, ?_⟩⟩
    refine vb (c := true) ?_ (q _ (same_upd nt))
    rcases ho with rfl | rfl | rfl <;> decide +kernel
/-- an elder dealing, or None -/
def OldAt (H : Hp) (v : V) : Option (List (Option Nat)) → Prop
  | none => v = .non
  | some d => ∃ a, v = .ref a ∧ H a = some (.lst (dV d))
theorem OldAt.same {H H' : Hp} {v : V} : ∀ {o : Option (List (Option Nat))}, Same H H' → OldAt H v o → OldAt H' v o
  | none, _, h => h
  | some _, e, ⟨a, h1, h2⟩ => ⟨a, h1, e _ _ h2⟩
def OldOk (W : Wish) : Option (List (Option Nat)) → Prop
  | none => True
  | some d => d.length = W.2.length ∧ ∀ t, some t ∈ d → t < W.1.length
def sp_is_old : Sp := fun vs H Q _ => ∃ (p : Addr) (W : Wish) (v : V) (o : Option (List (Option Nat))), vs = [.ref p, v] ∧ WAt H p W ∧ OldAt H v o ∧ OldOk W o ∧ Q (.bl true) H
abbrev nm_is_old : List Str := ["wishes", "thing", "one"]
theorem sc_is_old : FnScope nm_is_old ["wishes", "thing"] (defScope s_is_old) := ⟨rfl, rfl, rfl, by decide +kernel, rfl, by decide +kernel, by decide +kernel⟩
theorem c_is_old (T : Tx K mg cS cR cP) : C8.Cal P w K mg base 2 "is_old" sp_is_old [] := by
  refine cal_of T.d_is_old sc_is_old (fun _ _ _ _ _ _ us hl => match us, hl with | [_, _], _ => rfl) (fun vs H Q E h => ?_) (fun f cdv A outer s H vs Q E hr h => ?_)
  · obtain ⟨p, W, v, o, rfl, hW, hO, hK, q⟩ := h
    rfl
  · obtain ⟨p, W, v, o, rfl, hW, hO, hK, q⟩ := h
    have hu := hu_of hr
    refine ⟨_, 
    (pss_cons (ps_if (pt_cmpR op_isN (pv 1) pe_non (nomark _)) 
      (pss_one (ps_ret pe_bl)) pss_nil)
    (pss_cons (ps_if (PW.pt (pw_or (pt_not (pt_val (pe_callB call_isi (by rfl) T.b_isinstance bo_isinstance (pa_cons (pv 1) (pa_cons (pe_bltn (v := .ty "list") (by rfl) T.b_list bo_list rfl) pa_nil))))) (pw_or1 (pt_cmpR op_ne (pe_callB call_len_seq (by rfl) T.b_len bo_len (pa_cons (pv 1) pa_nil)) (pe_callB call_len_seq (by rfl) T.b_len bo_len (pa_cons (pe_ix ix_tup (pv 0) pe_int (fun _ _ => rfl)) pa_nil)) (nomark _))))) 
      (pss_one (ps_ret pe_bl)) pss_nil)
    (pss_cons (ps_for PassesOwn.never rfl (pi_list (pv 1)) (pg_name (i := 2) sc_is_old.nd rfl (by first | exact Or.inl rfl | exact Or.inr rfl)) 
      (pss_cons (ps_if (pt_cmpR op_isN (pv 2) pe_non (nomark _)) 
        (pss_one ps_continue) pss_nil)
      (pss_one (ps_if (PW.pt (pw_or (pt_not (pt_val (C8.pe_c (c_is_whole T) hr (by decide) rfl (pa_cons (pv 2) pa_nil)))) (pw_or (pt_cmpR op_lt (pv 2) pe_int (nomark _)) (pw_or1 (pt_cmpR op_ge (pv 2) (pe_callB call_len_seq (by rfl) T.b_len bo_len (pa_cons (pe_ix ix_tup (pv 0) pe_int (fun _ _ => rfl)) pa_nil)) (nomark _)))))) 
        (pss_one (ps_ret pe_bl)) pss_nil))))
    (pss_one (ps_ret pe_bl))))), ?_⟩
    obtain ⟨c, l, hp, hc, bs, hl, hbs⟩ := id hW
    cases o with
    | none =>
      obtain rfl : v = .non := hO
      exact ⟨_, rfl, rfl, true, rfl, iteT q⟩
    | some d =>
      obtain ⟨a, rfl, ha⟩ := hO
      obtain ⟨hlen, hlt⟩ := hK
      refine ⟨_, rfl, rfl, false, rfl, iteF ?_⟩
      refine ⟨_, rfl, _, _, _, _, true, rfl, .ty _, .base (.lst ha), kit_ty (by decide +kernel), true, rfl, ?_⟩
      refine iteF ⟨_, rfl, _, _, rfl, .inl (SqL.of ha), _, rfl, p, _, _, _, rfl, rfl, SqT.of hp, rfl, _, _, rfl, .inl (SqL.of hl), rfl, _, rfl, iteNS ?_ ?_⟩
      · rw [dV_len, rV_len, hbs.1, hlen]
      refine ⟨_, rfl, a, rfl, ⟨_, SqL.of ha⟩, for_list (K := K) (a := a) (xs := dV d) (fun i σ H2 => ∃ v2, σ = [some (.ref p), some (.ref a), v2] ∧ H2 = H) ⟨none, rfl, rfl⟩ (fun i σ H2 _ ⟨_, _, e⟩ => by rw [e]; exact SqL.of ha) ?_ ?_⟩
      · rintro i x σ H2 hx ⟨v2, rfl, rfl⟩
        obtain ⟨n, hn, rfl⟩ := dV_get hx
        cases n with
        | none => exact ⟨_, rfl, rfl, true, rfl, iteT ⟨_, rfl, rfl⟩⟩
        | some t =>
          have ht := hlt t (List.mem_of_getElem? hn)
          refine ⟨_, rfl, rfl, false, rfl, iteF ?_⟩
          refine ⟨_, rfl, (t : Int), rfl, true, rfl, ?_⟩
          refine iteF ⟨_, rfl, _, _, rfl, rfl, false, congrArg V.bl (decide_eq_false (by omega)), ?_⟩
          refine iteF ⟨_, rfl, _, rfl, p, _, _, _, rfl, rfl, SqT.of hp, rfl, _, _, rfl, .inl (SqL.of hc), _, _, rfl, rfl, false, congrArg V.bl (decide_eq_false ?_), ?_⟩
          · rw [nV_len]; omega
          · exact iteF ⟨_, rfl, rfl⟩
      · rintro σ H2 ⟨v2, rfl, rfl⟩
        exact q
def sp_are_turns : Sp := fun vs H Q _ => ∃ (v : V) (a : Addr), vs = [v, .ref a] ∧ H a = some (.lst []) ∧ ∀ H', Same H H' → Q (.bl true) H'
abbrev nm_are_turns : List Str := ["wishes", "thing", "seen", "one"]
theorem sc_are_turns : FnScope nm_are_turns ["wishes", "thing"] (defScope s_are_turns) := ⟨rfl, rfl, rfl, by decide +kernel, rfl, by decide +kernel, by decide +kernel⟩
theorem c_are_turns (T : Tx K mg cS cR cP) : C8.Cal P w K mg base 2 "are_turns" sp_are_turns [] := by
  refine cal_of T.d_are_turns sc_are_turns (fun _ _ _ _ _ _ us hl => match us, hl with | [_, _], _ => rfl) (fun vs H Q E h => ?_) (fun f cdv A outer s H vs Q E hr h => ?_)
  · obtain ⟨v, a, rfl, ha, q⟩ := h
    rfl
  · obtain ⟨v, a, rfl, ha, q⟩ := h
    have hu := hu_of hr
    refine ⟨_, 
    (pss_cons (ps_if (pt_not (pt_val (pe_callB call_isi (by rfl) T.b_isinstance bo_isinstance (pa_cons (pv 1) (pa_cons (pe_bltn (v := .ty "list") (by rfl) T.b_list bo_list rfl) pa_nil))))) 
      (pss_one (ps_ret pe_bl)) pss_nil)
    (pss_cons (ps_set (i := 2) sc_are_turns.nd rfl (by first | exact Or.inl rfl | exact Or.inr rfl) pe_dnewK)
    (pss_cons (ps_for PassesOwn.never rfl (pi_list (pv 1)) (pg_name (i := 3) sc_are_turns.nd rfl (by first | exact Or.inl rfl | exact Or.inr rfl)) 
      (pss_cons (ps_if (PW.pt (pw_or (pt_not (pt_val (C8.pe_c (c_is_whole T) hr (by decide) rfl (pa_cons (pv 3) pa_nil)))) (pw_or (pt_cmpR op_lt (pv 3) pe_int (nomark _)) (pw_or1 (pt_cmpR op_ge (pv 3) (pe_callB call_len_seq (by rfl) T.b_len bo_len (pa_cons (pe_ix ix_tup (pv 0) pe_int (fun _ _ => rfl)) pa_nil)) (nomark _)))))) 
        (pss_one (ps_ret pe_bl)) pss_nil)
      (pss_cons (ps_if (pt_cmpR op_in_seq (pv 3) (pv 2) (by rfl)) 
        (pss_one (ps_ret pe_bl)) pss_nil)
      (pss_one (ps_dput hu (pv 2) (pv 3) pe_bl rfl)))))
    (pss_one (ps_ret pe_bl))))), ?_⟩
    refine ⟨_, rfl, _, _, _, _, true, rfl, .ty _, .base (.lst ha), kit_ty (by decide +kernel), true, rfl, iteF ?_⟩
    intro z nz
    have s1 : Same H (upd H z (.dK [])) := same_upd nz
    refine ⟨_, rfl, a, rfl, ⟨_, SqL.of (s1 _ _ ha)⟩, for_list (K := K) (a := a) (xs := []) (fun i σ H2 => Same H H2 ∧ H2 a = some (.lst [])) ⟨s1, s1 _ _ ha⟩ (fun i σ H2 _ ⟨_, e⟩ => SqL.of e) ?_ ?_⟩
    · intro i x σ H2 hx
      simp at hx
    · rintro σ H2 ⟨s2, _⟩
      exact q H2 s2
/-- an aim (order, old, []) -/
def AimAt (H : Hp) (p : Addr) (o : Str) (old : Option (List (Option Nat))) : Prop := ∃ v t, H p = some (.tup [.str o, v, .ref t]) ∧ OldAt H v old ∧ H t = some (.lst [])
theorem AimAt.same {H H' : Hp} {p : Addr} {o : Str} {old : Option (List (Option Nat))} (e : Same H H') (h : AimAt H p o old) : AimAt H' p o old :=
  let ⟨v, t, h1, h2, h3⟩ := h; ⟨v, t, e _ _ h1, h2.same e, e _ _ h3⟩
def sp_fault_of : Sp := fun vs H Q _ => ∃ (p a : Addr) (W : Wish) (o : Str) (old : Option (List (Option Nat))), vs = [.ref p, .ref a] ∧ WAt H p W ∧ AimAt H a o old ∧ Ord o ∧ OldOk W old ∧ ∀ H', Same H H' → Q .non H'
abbrev nm_fault_of : List Str := ["wishes", "thing"]
theorem sc_fault_of : FnScope nm_fault_of ["wishes", "thing"] (defScope s_fault_of) := ⟨rfl, rfl, rfl, by decide +kernel, rfl, by decide +kernel, by decide +kernel⟩
theorem c_fault_of (T : Tx K mg cS cR cP) : C8.Cal P w K mg base 3 "fault_of" sp_fault_of [] := by
  refine cal_of T.d_fault_of sc_fault_of (fun _ _ _ _ _ _ us hl => match us, hl with | [_, _], _ => rfl) (fun vs H Q E h => ?_) (fun f cdv A outer s H vs Q E hr h => ?_)
  · obtain ⟨p, a, W, o, old, rfl, hW, hA, ho, hK, q⟩ := h
    rfl
  · obtain ⟨p, a, W, o, old, rfl, hW, hA, ho, hK, q⟩ := h
    have hu := hu_of hr
    refine ⟨_, 
    (pss_cons (ps_if (PW.pt (pw_or (pt_not (pt_val (pe_callB call_isi (by rfl) T.b_isinstance bo_isinstance (pa_cons (pv 1) (pa_cons (pe_bltn (v := .ty "tuple") (by rfl) T.b_tuple bo_tuple rfl) pa_nil))))) (pw_or1 (pt_cmpR op_ne (pe_callB call_len_seq (by rfl) T.b_len bo_len (pa_cons (pv 1) pa_nil)) pe_int (nomark _))))) 
      (pss_one (ps_ret pe_str)) pss_nil)
    (pss_cons (ps_if (pt_not (pt_val (C8.pe_c (c_is_order T) hr (by decide) rfl (pa_cons (pe_ix ix_tup (pv 1) pe_int (fun _ _ => rfl)) pa_nil)))) 
      (pss_one (ps_ret pe_str)) pss_nil)
    (pss_cons (ps_if (pt_not (pt_val (C8.pe_c (c_is_old T) hr (by decide) rfl (pa_cons (pv 0) (pa_cons (pe_ix ix_tup (pv 1) pe_int (fun _ _ => rfl)) pa_nil))))) 
      (pss_one (ps_ret pe_str)) pss_nil)
    (pss_cons (ps_if (pt_not (pt_val (C8.pe_c (c_are_turns T) hr (by decide) rfl (pa_cons (pv 0) (pa_cons (pe_ix ix_tup (pv 1) pe_int (fun _ _ => rfl)) pa_nil))))) 
      (pss_one (ps_ret pe_str)) pss_nil)
    (pss_one (ps_ret pe_non)))))), ?_⟩
    obtain ⟨v, t, ha, hO, ht⟩ := id hA
    refine ⟨_, rfl, _, _, _, _, true, rfl, .ty _, .base (.tup ha), kit_ty (by decide +kernel), true, rfl, ?_⟩
    refine iteF ⟨_, rfl, _, _, rfl, .inr (SqT.of ha), rfl, _, rfl, iteNS rfl ?_⟩
    refine ⟨_, rfl, a, _, _, _, rfl, rfl, SqT.of ha, rfl, o, rfl, ho, fun H1 s1 => ⟨true, rfl, iteF ?_⟩⟩
    refine ⟨_, rfl, _, rfl, a, _, _, _, rfl, rfl, SqT.of (s1 _ _ ha), rfl, p, W, v, old, rfl, hW.same s1, hO.same s1, hK, true, rfl, iteF ?_⟩
    refine ⟨_, rfl, _, rfl, a, _, _, _, rfl, rfl, SqT.of (s1 _ _ ha), rfl, .ref p, t, rfl, s1 _ _ ht, fun H2 s2 => ⟨true, rfl, iteF ?_⟩⟩
    exact q H2 (s1.trans s2)
def sp_look_at_aim : Sp := fun vs H Q _ => ∃ (p a : Addr) (W : Wish) (o : Str) (old : Option (List (Option Nat))), vs = [.ref p, .ref a] ∧ WAt H p W ∧ VW W ∧ AimAt H a o old ∧ Ord o ∧ OldOk W old ∧ ∀ H', Same H H' → Q .non H'
abbrev nm_look_at_aim : List Str := ["wishes", "thing", "part"]
theorem sc_look_at_aim : FnScope nm_look_at_aim ["wishes", "thing"] (defScope s_look_at_aim) := ⟨rfl, rfl, rfl, by decide +kernel, rfl, by decide +kernel, by decide +kernel⟩
theorem c_look_at_aim (T : Tx K mg cS cR cP) : C8.Cal P w K mg base 5 "look_at_aim" sp_look_at_aim [] := by
  refine cal_of T.d_look_at_aim sc_look_at_aim (fun _ _ _ _ _ _ us hl => match us, hl with | [_, _], _ => rfl) (fun vs H Q E h => ?_) (fun f cdv A outer s H vs Q E hr h => ?_)
  · obtain ⟨p, a, W, o, old, rfl, hW, hV, hA, ho, hK, q⟩ := h
    rfl
  · obtain ⟨p, a, W, o, old, rfl, hW, hV, hA, ho, hK, q⟩ := h
    have hu := hu_of hr
    refine ⟨_, 
    (pss_cons (ps_expr (C8.pe_c (c_look_at_wishes T) hr (by decide) rfl (pa_cons (pv 0) pa_nil)))
    (pss_cons (ps_set (i := 2) sc_look_at_aim.nd rfl (by first | exact Or.inl rfl | exact Or.inr rfl) (C8.pe_c (c_fault_of T) hr (by decide) rfl (pa_cons (pv 0) (pa_cons (pv 1) pa_nil))))
    (pss_one (ps_if (pt_cmpR op_notN (pv 2) pe_non (nomark _)) 
      (pss_one ps_never) pss_nil)))), ?_⟩
    refine ⟨_, rfl, p, W, rfl, hW, hV, fun H1 s1 => ?_⟩
    refine ⟨_, rfl, _, rfl, p, a, W, o, old, rfl, hW.same s1, hA.same s1, ho, hK, fun H2 s2 => ?_⟩
    exact ⟨_, rfl, rfl, _, rfl, iteNS rfl (q H2 (s1.trans s2))⟩
/-! ### powers_of -/
def pw (b n : Nat) : List Nat := (List.range (n + 1)).map fun i => b ^ i
theorem pw_len (b n : Nat) : (pw b n).length = n + 1 := by simp [pw]
theorem pw_at (b n i : Nat) (h : i ≤ n) : (pw b n)[i]? = some (b ^ i) := by
  unfold pw
  rw [List.getElem?_map, List.getElem?_range (by omega)]; rfl
theorem pow_small (b i : Nat) (hb : b ≤ 8) (hi : i ≤ 8) : b ^ i ≤ 8 ^ 8 := Nat.le_trans (Nat.pow_le_pow_left hb i) (Nat.pow_le_pow_right (by decide) hi)
def sp_powers_of : Sp := fun vs H Q _ => ∃ (b n : Nat), vs = [.int b, .int n] ∧ b ≤ 8 ∧ n ≤ 7 ∧ ∀ H' z, Same H H' → H z = none → H' z = some (.lst (nV (pw b n))) → Q (.ref z) H'
abbrev nm_powers_of : List Str := ["base", "most", "found", "k"]
theorem sc_powers_of : FnScope nm_powers_of ["base", "most"] (defScope s_powers_of) := ⟨rfl, rfl, rfl, by decide +kernel, rfl, by decide +kernel, by decide +kernel⟩
theorem c_powers_of (T : Tx K mg cS cR cP) : C8.Cal P w K mg base 1 "powers_of" sp_powers_of [] := by
  refine cal_of T.d_powers_of sc_powers_of (fun _ _ _ _ _ _ us hl => match us, hl with | [_, _], _ => rfl) (fun vs H Q E h => ?_) (fun f cdv A outer s H vs Q E hr h => ?_)
  · obtain ⟨b, n, rfl, hb, hn, q⟩ := h
    rfl
  · obtain ⟨b, n, rfl, hb, hn, q⟩ := h
    have hu := hu_of hr
    refine ⟨_, 
    (pss_cons (ps_set (i := 2) sc_powers_of.nd rfl (by first | exact Or.inl rfl | exact Or.inr rfl) (pe_lst (pa_cons pe_int pa_nil)))
    (pss_cons (ps_for PassesOwn.never rfl (pi_range1 rfl T.b_range (pa_cons (pv 1) pa_nil)) (pg_name (i := 3) sc_powers_of.nd rfl (by first | exact Or.inl rfl | exact Or.inr rfl)) 
      (pss_one (ps_expr (pe_bm PySem.F.plainAttrs_list PySem.F.slot_list_append PySem.F.type_list_append mt_append (pv 2) (pa_cons (pe_op op_mul (pe_ix ix_list (pv 2) (pe_un un_neg pe_int) (fun _ _ => rfl)) (pv 0)) pa_nil)))))
    (pss_one (ps_ret (pv 2))))), ?_⟩
    refine ⟨by decide, fun z nz => ?_⟩
    refine ⟨_, rfl, (n : Int), rfl, by omega, by omega, for_range (lo := 0) (n := (n : Int).toNat) (fun i σ H2 => ∃ v3, σ = [some (.int b), some (.int n), some (.ref z), v3] ∧ Same H H2 ∧ H2 z = some (.lst (nV (pw b i)))) ⟨none, rfl, same_upd nz, upd_same⟩ ?_ ?_⟩
    · rintro i σ H2 hi ⟨v3, rfl, s2, hz⟩
      have hi' : i < n := by omega
      have e1 : atI (nV (pw b i)) (-1) = some (.int ((b ^ i : Nat) : Int)) := by
        have e2 : nV (pw b i) = nV ((List.range i).map fun j => b ^ j) ++ [V.int ((b ^ i : Nat) : Int)] := by
          unfold pw
          rw [List.range_succ, List.map_append, nV_snoc]; rfl
        rw [e2]; exact atI_last _ _
      have hp := pow_small b i hb (by omega)
      refine ⟨_, rfl, .inl ⟨rfl, _, SqL.of hz⟩, _, rfl, _, rfl, z, _, _, _, rfl, rfl, SqL.of hz, e1, _, rfl, _, _, rfl, rfl, .inl ⟨by omega, by omega⟩, z, _, _, rfl, rfl, hz, ?_, ?_⟩
      · rw [nV_len, pw_len]; exact small1000 (by omega)
      · refine ⟨_, rfl, fun d o e => ?_, ?_⟩
        · rw [upd_ne (ne_of_none e nz)]; exact s2 d o e
        · rw [upd_same]
          have e3 : ((b ^ i : Nat) : Int) * (b : Int) = ((b ^ (i + 1) : Nat) : Int) := by rw [Nat.pow_succ]; exact (Int.natCast_mul _ _).symm
          show some (HO.lst (nV (pw b i) ++ [V.int (((b ^ i : Nat) : Int) * (b : Int))])) = _
          rw [e3, nV_snoc]
          have e4 : pw b i ++ [b ^ (i + 1)] = pw b (i + 1) := by
            unfold pw
            rw [List.range_succ (n := i + 1), List.map_append]; rfl
          rw [e4]
    · rintro σ H2 ⟨v3, rfl, s2, hz⟩
      exact ⟨_, rfl, q H2 z s2 nz (by rw [hz]; rfl)⟩
end
end WD

set_option Elab.async false
set_option linter.all false
set_option maxRecDepth 100000
set_option maxHeartbeats 4000000
/-! Dicts with int keys, hidden parts of the heap, the fields of the three classes. -/
namespace WD
open PySem PySem.Spec PyProof.Rows L2
/-! ### dicts -/
def kvG {α : Type} (f : α → V) (d : Al α) : List (Key × V) := d.map fun p => ((Sum.inl (p.1 : Int) : Key), f p.2)
theorem kvG_len {α : Type} (f : α → V) (d : Al α) : (kvG f d).length = d.length := List.length_map ..
theorem key_eq (a b : Nat) : ((Sum.inl (a : Int) : Key) = Sum.inl (b : Int)) ↔ a = b := by
  constructor
  · intro h
    have := Sum.inl.inj h
    omega
  · intro h; rw [h]
theorem valV_kv {α : Type} (f : α → V) (d : Al α) (k : Nat) : valV (kvG f d) (Sum.inl (k : Int) : Key) = (look d k).map f := by
  induction d with
  | nil => rfl
  | cons p r ih =>
    by_cases e : p.1 = k
    · have h1 : valV (kvG f (p :: r)) (Sum.inl (k : Int) : Key) = some (f p.2) := valV_pos (p := ((Sum.inl (p.1 : Int) : Key), f p.2)) ((key_eq _ _).mpr e)
      rw [h1, look, if_pos e]; rfl
    · have h1 : valV (kvG f (p :: r)) (Sum.inl (k : Int) : Key) = valV (kvG f r) (Sum.inl (k : Int) : Key) := valV_neg (p := ((Sum.inl (p.1 : Int) : Key), f p.2)) fun q => e ((key_eq _ _).mp q)
      rw [h1, ih, look, if_neg e]
theorem any_kv {α : Type} (f : α → V) (d : Al α) (k : Nat) : ((kvG f d).any fun kv => decide (kv.1 = (Sum.inl (k : Int) : Key))) = (look d k).isSome := by
  rw [valV_any, valV_kv]; cases look d k <;> rfl
theorem map_none {α : Type} (f : α → V) (v : V) (d : Al α) (k : Nat) (h : look d k = none) : (kvG f d).map (fun kv => if kv.1 = (Sum.inl (k : Int) : Key) then (kv.1, v) else kv) = kvG f d := by
  induction d with
  | nil => rfl
  | cons p r ih =>
    have e : ¬ p.1 = k := fun e => by rw [look, if_pos e] at h; cases h
    rw [look, if_neg e] at h
    have ih' := ih h
    have e2 : ¬ ((Sum.inl (p.1 : Int) : Key) = Sum.inl (k : Int)) := fun q => e ((key_eq _ _).mp q)
    show (if (Sum.inl (p.1 : Int) : Key) = Sum.inl (k : Int) then _ else ((Sum.inl (p.1 : Int) : Key), f p.2)) :: (kvG f r).map _ = _
    rw [if_neg e2, ih']; rfl
theorem put_eq {α : Type} (d : Al α) (k : Nat) (v : α) (h : look d k = none) : put d k v = d ++ [(k, v)] := by
  induction d with
  | nil => rfl
  | cons p r ih =>
    have e : ¬ p.1 = k := fun e => by rw [look, if_pos e] at h; cases h
    rw [look, if_neg e] at h
    rw [put, if_neg e, ih h]; rfl
theorem map_some {α : Type} (f : α → V) (v : α) : ∀ (d : Al α) (k : Nat) (u : α), (keys d).Nodup → look d k = some u → (kvG f d).map (fun kv => if kv.1 = (Sum.inl (k : Int) : Key) then (kv.1, f v) else kv) = kvG f (put d k v)
  | [], k, u, _, h => by cases h
  | p :: r, k, u, nd, h => by
    rw [keys, List.map_cons, List.nodup_cons] at nd
    show (if (Sum.inl (p.1 : Int) : Key) = Sum.inl (k : Int) then ((Sum.inl (p.1 : Int) : Key), f v) else ((Sum.inl (p.1 : Int) : Key), f p.2)) :: (kvG f r).map _ = _
    by_cases e : p.1 = k
    · have hn : look r k = none := look_none.mpr (by rw [← e]; exact nd.1)
      rw [if_pos ((key_eq _ _).mpr e), map_none f (f v) r k hn, put, if_pos e, e]; rfl
    · rw [look, if_neg e] at h
      rw [if_neg fun q => e ((key_eq _ _).mp q), map_some f v r k u nd.2 h, put, if_neg e]; rfl
theorem putK_kv {α : Type} (f : α → V) {d : Al α} (nd : (keys d).Nodup) (k : Nat) (v : α) : putK (kvG f d) (Sum.inl (k : Int) : Key) (f v) = kvG f (put d k v) := by
  unfold putK
  rw [any_kv]
  cases h : look d k with
  | none =>
    rw [if_neg (by simp), put_eq d k v h]
    simp [kvG]
  | some u =>
    rw [if_pos (by rfl)]
    exact map_some f v d k u nd h
theorem kvG_get {α : Type} {f : α → V} {d : Al α} {i : Nat} {k : Key} {v : V} (h : (kvG f d)[i]? = some (k, v)) : ∃ q, d[i]? = some q ∧ k = Sum.inl (q.1 : Int) ∧ v = f q.2 := by
  unfold kvG at h
  rw [List.getElem?_map] at h
  obtain ⟨q, h1, h2⟩ := Option.map_eq_some_iff.mp h
  cases h2
  exact ⟨q, h1, rfl, rfl⟩
/-- a dict of ints stands at a -/
def DicAt (H : Hp) (a : Addr) (d : Al Int) : Prop := H a = some (.dK (kvG V.int d))
def DicN (H : Hp) (a : Addr) (d : Al Nat) : Prop := H a = some (.dK (kvG (fun (n : Nat) => V.int (n : Int)) d))
theorem DicAt.get {H : Hp} {a : Addr} {d : Al Int} (h : DicAt H a d) (k : Nat) : DGet H a (.int k) ((look d k).map V.int) := by
  have := DGet.k (k := (Sum.inl (k : Int) : Key)) h
  rw [valV_kv] at this
  exact this
theorem DicN.get {H : Hp} {a : Addr} {d : Al Nat} (h : DicN H a d) (k : Nat) : DGet H a (.int k) ((look d k).map fun (n : Nat) => V.int (n : Int)) := by
  have := DGet.k (k := (Sum.inl (k : Int) : Key)) h
  rw [valV_kv] at this
  exact this
theorem DicAt.put {H : Hp} {a : Addr} {d : Al Int} (h : DicAt H a d) (nd : (keys d).Nodup) (hl : d.length < 1000) (k : Nat) (v : Int) : DPut H a (.int k) (.int v) (upd H a (.dK (kvG V.int (put d k v)))) := by
  have := DPut.k (k := (Sum.inl (k : Int) : Key)) (v := V.int v) h (by rw [kvG_len]; exact small1000 (Nat.le_of_lt hl))
  rw [putK_kv V.int nd] at this
  exact this
theorem DicN.put {H : Hp} {a : Addr} {d : Al Nat} (h : DicN H a d) (nd : (keys d).Nodup) (hl : d.length < 1000) (k v : Nat) : DPut H a (.int k) (.int v) (upd H a (.dK (kvG (fun (n : Nat) => V.int (n : Int)) (put d k v)))) := by
  have := DPut.k (k := (Sum.inl (k : Int) : Key)) (v := V.int (v : Int)) h (by rw [kvG_len]; exact small1000 (Nat.le_of_lt hl))
  rw [putK_kv (fun (n : Nat) => V.int (n : Int)) nd] at this
  exact this
/-! ### hidden -/
/-- H without the things at M -/
def hid (M : List Addr) (H : Hp) : Hp := fun b => if b ∈ M then none else H b
theorem hid_some {M : List Addr} {H : Hp} {b : Addr} {o : HO} : hid M H b = some o ↔ b ∉ M ∧ H b = some o := by
  unfold hid
  by_cases h : b ∈ M
  · rw [if_pos h]
    exact ⟨(fun e => by cases e), fun e => absurd h e.1⟩
  · rw [if_neg h]
    exact ⟨fun e => ⟨h, e⟩, fun e => e.2⟩
theorem hid_same {M : List Addr} {H : Hp} : Same (hid M H) H := fun _ _ e => (hid_some.mp e).2
theorem hid_mono {M : List Addr} {H H' : Hp} (h : SameBut M H H') : Same (hid M H) (hid M H') := fun b o e => by
  obtain ⟨h1, h2⟩ := hid_some.mp e
  exact hid_some.mpr ⟨h1, h b o h2 h1⟩
/-- what stood ahead of M's making -/
theorem hid_new {M : List Addr} {H H' : Hp} (h : Same H H') (hM : ∀ b ∈ M, H b = none) : Same H (hid M H') := fun b o e => by
  refine hid_some.mpr ⟨fun q => ?_, h b o e⟩
  rw [hM b q] at e; cases e
theorem hid_less {M M' : List Addr} {H H' : Hp} (h : SameBut M' H H') (hM : ∀ b ∈ M', b ∈ M) : Same (hid M H) (hid M' H') := fun b o e => by
  obtain ⟨h1, h2⟩ := hid_some.mp e
  exact hid_some.mpr ⟨fun q => h1 (hM b q), h b o h2 fun q => h1 (hM b q)⟩
/-! ### fields -/
theorem lkp_hit {f : Str} {v : V} {fs : List (Str × V)} : (putF f v fs).lookup f = some v := by rw [lookup_putF, if_pos rfl]
theorem lkp_skip {f g : Str} {v : V} {fs : List (Str × V)} {r : Option V} (h : g ≠ f) (e : fs.lookup g = r) : (putF f v fs).lookup g = r := by rw [lookup_putF, if_neg h]; exact e
theorem few1 {f : Str} {v : V} {n : Nat} : ∀ {fs : List (Str × V)}, fs.length ≤ n → (putF f v fs).length ≤ n + 1
  | [], _ => by show 1 ≤ n + 1; omega
  | (g, x) :: r, h => by
    have h' : r.length + 1 ≤ n := h
    show (if g = f then (g, v) :: r else (g, x) :: putF f v r).length ≤ n + 1
    split
    · show r.length + 1 ≤ n + 1; omega
    · have := few1 (f := f) (v := v) (fs := r) (n := n - 1) (by omega)
      show (putF f v r).length + 1 ≤ n + 1; omega
theorem few0 : ([] : List (Str × V)).length ≤ 0 := Nat.le_refl _
theorem few_lt {n : Nat} {fs : List (Str × V)} (h : fs.length ≤ n) (hn : n ≤ 20) : fs.length < 1000 := by omega
def scF (a0 a1 a2 a3 a4 a5 a6 : V) : List (Str × V) := (putF "picks" a6 (putF "steps" a5 (putF "ranks" a4 (putF "base" a3 (putF "turns" a2 (putF "old" a1 (putF "order" a0 [])))))))
theorem scF_order {a0 a1 a2 a3 a4 a5 a6 : V} : (scF a0 a1 a2 a3 a4 a5 a6).lookup ("order" : Str) = some a0 := (lkp_skip (by decide +kernel) (lkp_skip (by decide +kernel) (lkp_skip (by decide +kernel) (lkp_skip (by decide +kernel) (lkp_skip (by decide +kernel) (lkp_skip (by decide +kernel) lkp_hit))))))
theorem scF_old {a0 a1 a2 a3 a4 a5 a6 : V} : (scF a0 a1 a2 a3 a4 a5 a6).lookup ("old" : Str) = some a1 := (lkp_skip (by decide +kernel) (lkp_skip (by decide +kernel) (lkp_skip (by decide +kernel) (lkp_skip (by decide +kernel) (lkp_skip (by decide +kernel) lkp_hit)))))
theorem scF_turns {a0 a1 a2 a3 a4 a5 a6 : V} : (scF a0 a1 a2 a3 a4 a5 a6).lookup ("turns" : Str) = some a2 := (lkp_skip (by decide +kernel) (lkp_skip (by decide +kernel) (lkp_skip (by decide +kernel) (lkp_skip (by decide +kernel) lkp_hit))))
theorem scF_base {a0 a1 a2 a3 a4 a5 a6 : V} : (scF a0 a1 a2 a3 a4 a5 a6).lookup ("base" : Str) = some a3 := (lkp_skip (by decide +kernel) (lkp_skip (by decide +kernel) (lkp_skip (by decide +kernel) lkp_hit)))
theorem scF_ranks {a0 a1 a2 a3 a4 a5 a6 : V} : (scF a0 a1 a2 a3 a4 a5 a6).lookup ("ranks" : Str) = some a4 := (lkp_skip (by decide +kernel) (lkp_skip (by decide +kernel) lkp_hit))
theorem scF_steps {a0 a1 a2 a3 a4 a5 a6 : V} : (scF a0 a1 a2 a3 a4 a5 a6).lookup ("steps" : Str) = some a5 := (lkp_skip (by decide +kernel) lkp_hit)
theorem scF_picks {a0 a1 a2 a3 a4 a5 a6 : V} : (scF a0 a1 a2 a3 a4 a5 a6).lookup ("picks" : Str) = some a6 := lkp_hit
theorem scF_no_by_order {a0 a1 a2 a3 a4 a5 a6 : V} : (scF a0 a1 a2 a3 a4 a5 a6).lookup ("by_order" : Str) = none := (lkp_skip (by decide +kernel) (lkp_skip (by decide +kernel) (lkp_skip (by decide +kernel) (lkp_skip (by decide +kernel) (lkp_skip (by decide +kernel) (lkp_skip (by decide +kernel) (lkp_skip (by decide +kernel) rfl)))))))
theorem scF_no_pick_of {a0 a1 a2 a3 a4 a5 a6 : V} : (scF a0 a1 a2 a3 a4 a5 a6).lookup ("pick_of" : Str) = none := (lkp_skip (by decide +kernel) (lkp_skip (by decide +kernel) (lkp_skip (by decide +kernel) (lkp_skip (by decide +kernel) (lkp_skip (by decide +kernel) (lkp_skip (by decide +kernel) (lkp_skip (by decide +kernel) rfl)))))))
theorem scF_no_of {a0 a1 a2 a3 a4 a5 a6 : V} : (scF a0 a1 a2 a3 a4 a5 a6).lookup ("of" : Str) = none := (lkp_skip (by decide +kernel) (lkp_skip (by decide +kernel) (lkp_skip (by decide +kernel) (lkp_skip (by decide +kernel) (lkp_skip (by decide +kernel) (lkp_skip (by decide +kernel) (lkp_skip (by decide +kernel) rfl)))))))
def reF (a0 a1 a2 a3 a4 a5 : V) : List (Str × V) := (putF "takers" a5 (putF "taken" a4 (putF "freed" a3 (putF "start" a2 (putF "dealt" a1 (putF "rows" a0 []))))))
theorem reF_rows {a0 a1 a2 a3 a4 a5 : V} : (reF a0 a1 a2 a3 a4 a5).lookup ("rows" : Str) = some a0 := (lkp_skip (by decide +kernel) (lkp_skip (by decide +kernel) (lkp_skip (by decide +kernel) (lkp_skip (by decide +kernel) (lkp_skip (by decide +kernel) lkp_hit)))))
theorem reF_dealt {a0 a1 a2 a3 a4 a5 : V} : (reF a0 a1 a2 a3 a4 a5).lookup ("dealt" : Str) = some a1 := (lkp_skip (by decide +kernel) (lkp_skip (by decide +kernel) (lkp_skip (by decide +kernel) (lkp_skip (by decide +kernel) lkp_hit))))
theorem reF_start {a0 a1 a2 a3 a4 a5 : V} : (reF a0 a1 a2 a3 a4 a5).lookup ("start" : Str) = some a2 := (lkp_skip (by decide +kernel) (lkp_skip (by decide +kernel) (lkp_skip (by decide +kernel) lkp_hit)))
theorem reF_freed {a0 a1 a2 a3 a4 a5 : V} : (reF a0 a1 a2 a3 a4 a5).lookup ("freed" : Str) = some a3 := (lkp_skip (by decide +kernel) (lkp_skip (by decide +kernel) lkp_hit))
theorem reF_taken {a0 a1 a2 a3 a4 a5 : V} : (reF a0 a1 a2 a3 a4 a5).lookup ("taken" : Str) = some a4 := (lkp_skip (by decide +kernel) lkp_hit)
theorem reF_takers {a0 a1 a2 a3 a4 a5 : V} : (reF a0 a1 a2 a3 a4 a5).lookup ("takers" : Str) = some a5 := lkp_hit
theorem reF_no_to_things {a0 a1 a2 a3 a4 a5 : V} : (reF a0 a1 a2 a3 a4 a5).lookup ("to_things" : Str) = none := (lkp_skip (by decide +kernel) (lkp_skip (by decide +kernel) (lkp_skip (by decide +kernel) (lkp_skip (by decide +kernel) (lkp_skip (by decide +kernel) (lkp_skip (by decide +kernel) rfl))))))
theorem reF_no_to_askers {a0 a1 a2 a3 a4 a5 : V} : (reF a0 a1 a2 a3 a4 a5).lookup ("to_askers" : Str) = none := (lkp_skip (by decide +kernel) (lkp_skip (by decide +kernel) (lkp_skip (by decide +kernel) (lkp_skip (by decide +kernel) (lkp_skip (by decide +kernel) (lkp_skip (by decide +kernel) rfl))))))
theorem reF_no_go_on {a0 a1 a2 a3 a4 a5 : V} : (reF a0 a1 a2 a3 a4 a5).lookup ("go_on" : Str) = none := (lkp_skip (by decide +kernel) (lkp_skip (by decide +kernel) (lkp_skip (by decide +kernel) (lkp_skip (by decide +kernel) (lkp_skip (by decide +kernel) (lkp_skip (by decide +kernel) rfl))))))
theorem reF_no_end_by {a0 a1 a2 a3 a4 a5 : V} : (reF a0 a1 a2 a3 a4 a5).lookup ("end_by" : Str) = none := (lkp_skip (by decide +kernel) (lkp_skip (by decide +kernel) (lkp_skip (by decide +kernel) (lkp_skip (by decide +kernel) (lkp_skip (by decide +kernel) (lkp_skip (by decide +kernel) rfl))))))
theorem reF_no_way_to {a0 a1 a2 a3 a4 a5 : V} : (reF a0 a1 a2 a3 a4 a5).lookup ("way_to" : Str) = none := (lkp_skip (by decide +kernel) (lkp_skip (by decide +kernel) (lkp_skip (by decide +kernel) (lkp_skip (by decide +kernel) (lkp_skip (by decide +kernel) (lkp_skip (by decide +kernel) rfl))))))
def prF (a0 a1 a2 a3 a4 : V) : List (Str × V) := (putF "raisers" a4 (putF "prices" a3 (putF "left" a2 (putF "dealt" a1 (putF "rows" a0 [])))))
theorem prF_rows {a0 a1 a2 a3 a4 : V} : (prF a0 a1 a2 a3 a4).lookup ("rows" : Str) = some a0 := (lkp_skip (by decide +kernel) (lkp_skip (by decide +kernel) (lkp_skip (by decide +kernel) (lkp_skip (by decide +kernel) lkp_hit))))
theorem prF_dealt {a0 a1 a2 a3 a4 : V} : (prF a0 a1 a2 a3 a4).lookup ("dealt" : Str) = some a1 := (lkp_skip (by decide +kernel) (lkp_skip (by decide +kernel) (lkp_skip (by decide +kernel) lkp_hit)))
theorem prF_left {a0 a1 a2 a3 a4 : V} : (prF a0 a1 a2 a3 a4).lookup ("left" : Str) = some a2 := (lkp_skip (by decide +kernel) (lkp_skip (by decide +kernel) lkp_hit))
theorem prF_prices {a0 a1 a2 a3 a4 : V} : (prF a0 a1 a2 a3 a4).lookup ("prices" : Str) = some a3 := (lkp_skip (by decide +kernel) lkp_hit)
theorem prF_raisers {a0 a1 a2 a3 a4 : V} : (prF a0 a1 a2 a3 a4).lookup ("raisers" : Str) = some a4 := lkp_hit
theorem prF_no_rest {a0 a1 a2 a3 a4 : V} : (prF a0 a1 a2 a3 a4).lookup ("rest" : Str) = none := (lkp_skip (by decide +kernel) (lkp_skip (by decide +kernel) (lkp_skip (by decide +kernel) (lkp_skip (by decide +kernel) (lkp_skip (by decide +kernel) rfl)))))
theorem prF_no_chain {a0 a1 a2 a3 a4 : V} : (prF a0 a1 a2 a3 a4).lookup ("chain" : Str) = none := (lkp_skip (by decide +kernel) (lkp_skip (by decide +kernel) (lkp_skip (by decide +kernel) (lkp_skip (by decide +kernel) (lkp_skip (by decide +kernel) rfl)))))
theorem prF_no_way_by {a0 a1 a2 a3 a4 : V} : (prF a0 a1 a2 a3 a4).lookup ("way_by" : Str) = none := (lkp_skip (by decide +kernel) (lkp_skip (by decide +kernel) (lkp_skip (by decide +kernel) (lkp_skip (by decide +kernel) (lkp_skip (by decide +kernel) rfl)))))
theorem prF_no_raised_by {a0 a1 a2 a3 a4 : V} : (prF a0 a1 a2 a3 a4).lookup ("raised_by" : Str) = none := (lkp_skip (by decide +kernel) (lkp_skip (by decide +kernel) (lkp_skip (by decide +kernel) (lkp_skip (by decide +kernel) (lkp_skip (by decide +kernel) rfl)))))
theorem prF_no_settle {a0 a1 a2 a3 a4 : V} : (prF a0 a1 a2 a3 a4).lookup ("settle" : Str) = none := (lkp_skip (by decide +kernel) (lkp_skip (by decide +kernel) (lkp_skip (by decide +kernel) (lkp_skip (by decide +kernel) (lkp_skip (by decide +kernel) rfl)))))
theorem prF_no_told {a0 a1 a2 a3 a4 : V} : (prF a0 a1 a2 a3 a4).lookup ("told" : Str) = none := (lkp_skip (by decide +kernel) (lkp_skip (by decide +kernel) (lkp_skip (by decide +kernel) (lkp_skip (by decide +kernel) (lkp_skip (by decide +kernel) rfl)))))
end WD

set_option Elab.async false
set_option linter.all false
set_option maxRecDepth 100000
set_option maxHeartbeats 4000000
namespace WD
open PySem PySem.Spec PyProof.Rows L2
/-! ### worths, in plain -/
/-- what a rank is worth by the order; b askers and one, R the longest list's ranks -/
def byo (o : Str) (b R r : Nat) : Int := if o = ("lasts" : Str) then ((b ^ R : Nat) : Int) - ((b ^ (r - 1) : Nat) : Int) else if o = ("full" : Str) then ((b ^ (R - r) : Nat) : Int) + ((b ^ R : Nat) : Int) else ((b ^ (R - r) : Nat) : Int)
def hadOld (old : Option (List (Option Nat))) (a t : Nat) : Bool := match old with
  | none => false
  | some d => decide (d.getD a none = some t)
/-- the worth of a wish of a rank -/
def wofr (o : Str) (old : Option (List (Option Nat))) (b R a t r : Nat) : Int := byo o b R r * (b : Int) + (if hadOld old a t = true then 1 else 0)
theorem byo_small (o : Str) {b R r : Nat} (hb : b ≤ 8) (hR : R ≤ 7) (hr : r ≤ 7) : -(2 ^ 40) < byo o b R r ∧ byo o b R r < 2 ^ 40 := by
  have h1 := pow_small b R hb (by omega)
  have h2 := pow_small b (r - 1) hb (by omega)
  have h3 := pow_small b (R - r) hb (by omega)
  have h8 : (8 : Nat) ^ 8 = 16777216 := by decide
  rw [h8] at h1 h2 h3
  unfold byo
  split
  · omega
  · split <;> omega
section
variable {P : Program} {w : World} {K : PySem.W.Frag} {mg : Str → Option Value} {base : Heap} {cS cR cP : Addr}
/-- a Scale stands at x: o the order, b, R as above -/
def ScAt (cS : Addr) (H : Hp) (x : Addr) (o : Str) (old : Option (List (Option Nat))) (b R : Nat) : Prop := ∃ dx v t st pk, H x = some (.ins cS dx (scF (.str o) v (.ref t) (.int b) (.int R) (.ref st) (.ref pk))) ∧ OldAt H v old ∧ H t = some (.lst []) ∧
  H st = some (.lst (nV (pw b R))) ∧ H pk = some (.lst (nV (pw (R + 1) 0)))
theorem ScAt.same {cS : Addr} {H H' : Hp} {x : Addr} {o : Str} {old : Option (List (Option Nat))} {b R : Nat} (e : Same H H') (h : ScAt cS H x o old b R) : ScAt cS H' x o old b R :=
  let ⟨dx, v, t, st, pk, h1, h2, h3, h4, h5⟩ := h; ⟨dx, v, t, st, pk, e _ _ h1, h2.same e, e _ _ h3, e _ _ h4, e _ _ h5⟩
/-! ### Scale.__init__ -/
def sp_Scale_init (K : PySem.W.Frag) (cS cR cP : Addr) : Sp := fun vs H Q _ => ∃ (x dx p a : Addr) (W : Wish) (o : Str) (old : Option (List (Option Nat))), vs = [.ref x, .ref p, .ref a] ∧ H x = some (.ins cS dx []) ∧ WAt (hid [x] H) p W ∧ VW W ∧ AimAt (hid [x] H) a o old ∧
  ∀ H', SameBut [x] H H' → ScAt cS H' x o old (W.2.length + 1) (lg W.2) → Q .non H'
theorem lg_le (W : Wish) (hV : VW W) : lg W.2 ≤ 5 := by
  have : ∀ l : List Nat, (∀ x ∈ l, x ≤ 5) → l.foldr max 0 ≤ 5 := by
    intro l
    induction l with
    | nil => intro _; simp
    | cons y l ih =>
      intro h
      rw [List.foldr_cons]
      have h1 := h y List.mem_cons_self
      have h2 := ih fun z hz => h z (List.mem_cons_of_mem _ hz)
      omega
  refine this _ fun x hx => ?_
  obtain ⟨rs, hrs, rfl⟩ := List.mem_map.mp hx
  exact (hV.rs rs hrs).few
abbrev nm_Scale_init : List Str := ["self", "wishes", "aim"]
theorem sc_Scale_init : FnScope nm_Scale_init ["self", "wishes", "aim"] (defScope s_Scale_init) := ⟨rfl, rfl, rfl, by decide +kernel, rfl, by decide +kernel, by decide +kernel⟩
theorem k_Scale (T : Tx K mg cS cR cP) : C8.Mak P w K mg base 6 "Scale" cS (sp_Scale_init K cS cR cP) [] := by
  refine mak_of T.g_Scale T.i_Scale sc_Scale_init (fun _ _ _ _ _ _ us hl => match us, hl with | [_, _, _], _ => rfl) (fun vs H Q E h => ?_) (fun f cdv A outer s H vs Q E hr h => ?_)
  · obtain ⟨x, dx, p, a, W, o, old, rfl, hx, hW, hV, hA, q⟩ := h
    rfl
  · obtain ⟨x, dx, p, a, W, o, old, rfl, hx, hW, hV, hA, q⟩ := h
    have hu := hu_of hr
    refine ⟨_, 
    (pss_cons (ps_fld (pv 0) (pe_ix ix_tup (pv 2) pe_int (fun _ _ => rfl)) rfl)
    (pss_cons (ps_fld (pv 0) (pe_ix ix_tup (pv 2) pe_int (fun _ _ => rfl)) rfl)
    (pss_cons (ps_fld (pv 0) (pe_callTy call_list_of (by rfl) T.b_list bo_list (pa_cons (pe_ix ix_tup (pv 2) pe_int (fun _ _ => rfl)) pa_nil)) rfl)
    (pss_cons (ps_fld (pv 0) (pe_op op_add (pe_callB call_len_seq (by rfl) T.b_len bo_len (pa_cons (pe_ix ix_tup (pv 1) pe_int (fun _ _ => rfl)) pa_nil)) pe_int) rfl)
    (pss_cons (ps_fld (pv 0) (C8.pe_c (c_longest T) hr (by decide) rfl (pa_cons (pv 1) pa_nil)) rfl)
    (pss_cons (ps_fld (pv 0) (C8.pe_c (c_powers_of T) hr (by decide) rfl (pa_cons (pe_fld (pv 0) rfl) (pa_cons (pe_fld (pv 0) rfl) pa_nil))) rfl)
    (pss_one (ps_fld (pv 0) (C8.pe_c (c_powers_of T) hr (by decide) rfl (pa_cons (pe_op op_add (pe_fld (pv 0) rfl) pe_int) (pa_cons (pe_callB call_len_seq (by rfl) T.b_len bo_len (pa_cons (pe_fld (pv 0) rfl) pa_nil)) pa_nil))) rfl)))))))), ?_⟩
    obtain ⟨v, t, ha, hO, ht⟩ := id hA
    obtain ⟨c, l, hp, hc, bs, hl, hbs⟩ := id hW
    -- what is hidden behind x stays through all
    have st : ∀ {H' : Hp}, SameBut [x] H H' → Same (hid [x] H) H' := fun h => (hid_mono h).trans hid_same
    have sb0 : SameBut [x] H H := fun _ _ e _ => e
    have ux : ∀ {H' : Hp} {u : HO}, SameBut [x] H H' → SameBut [x] H (upd H' x u) := fun h => h.trans (sameBut_upd List.mem_cons_self)
    -- self.order, self.old
    refine ⟨_, rfl, a, _, _, _, rfl, rfl, SqT.of (st sb0 _ _ ha), rfl, _, rfl, x, cS, dx, [], rfl, hx, T.c_Scale, T.n_Scale_order, few_lt few0 (by decide), ?_⟩
    have sb1 := ux (u := .ins cS dx (putF "order" (.str o) [])) sb0
    refine ⟨_, rfl, a, _, _, _, rfl, rfl, SqT.of (st sb1 _ _ ha), rfl, _, rfl, x, cS, dx, _, rfl, upd_same, T.c_Scale, T.n_Scale_old, few_lt (few1 few0) (by decide), ?_⟩
    have sb2 := ux (u := .ins cS dx (putF "old" v (putF "order" (.str o) []))) sb1
    -- self.turns = list(aim[2])
    refine ⟨_, rfl, a, _, _, _, rfl, rfl, SqT.of (st sb2 _ _ ha), rfl, t, [], rfl, .inl (SqL.of (st sb2 _ _ ht)), fun t2 nt2 => ?_⟩
    have sb3 : SameBut [x] H (upd (upd (upd H x (.ins cS dx (putF "order" (.str o) []))) x (.ins cS dx (putF "old" v (putF "order" (.str o) [])))) t2 (.lst [])) := sb2.trans (.of (same_upd nt2) _)
    have xt2 : x ≠ t2 := ne_of_none (upd_same) nt2
    refine ⟨_, rfl, x, cS, dx, _, rfl, by rw [upd_ne xt2, upd_same], T.c_Scale, T.n_Scale_turns, few_lt (few1 (few1 few0)) (by decide), ?_⟩
    have sb4 := ux (u := .ins cS dx (putF "turns" (.ref t2) (putF "old" v (putF "order" (.str o) [])))) sb3
    have ht2 : (upd (upd (upd (upd H x (.ins cS dx (putF "order" (.str o) []))) x (.ins cS dx (putF "old" v (putF "order" (.str o) [])))) t2 (.lst [])) x (.ins cS dx (putF "turns" (.ref t2) (putF "old" v (putF "order" (.str o) []))))) t2 = some (.lst []) := by rw [upd_ne xt2.symm, upd_same]
    have hx4 : (upd (upd (upd (upd H x (.ins cS dx (putF "order" (.str o) []))) x (.ins cS dx (putF "old" v (putF "order" (.str o) [])))) t2 (.lst [])) x (.ins cS dx (putF "turns" (.ref t2) (putF "old" v (putF "order" (.str o) []))))) x = some (.ins cS dx (putF "turns" (.ref t2) (putF "old" v (putF "order" (.str o) [])))) := upd_same
    generalize (upd (upd (upd (upd H x (.ins cS dx (putF "order" (.str o) []))) x (.ins cS dx (putF "old" v (putF "order" (.str o) [])))) t2 (.lst [])) x (.ins cS dx (putF "turns" (.ref t2) (putF "old" v (putF "order" (.str o) []))))) = H4 at sb4 ht2 hx4
    -- self.base = len(wishes[1]) + 1
    refine ⟨_, rfl, p, _, _, _, rfl, rfl, SqT.of (st sb4 _ _ hp), rfl, l, rV bs, rfl, .inl (SqL.of (st sb4 _ _ hl)), _, _, rfl, rfl, _, rfl, x, cS, dx, _, rfl, hx4, T.c_Scale, T.n_Scale_base, few_lt (few1 (few1 (few1 few0))) (by decide), ?_⟩
    have eb : ((rV bs).length : Int) + 1 = ((W.2.length + 1 : Nat) : Int) := by rw [rV_len, hbs.1]; rfl
    have sb5 := ux (u := .ins cS dx (putF "base" (.int (((rV bs).length : Int) + 1)) (putF "turns" (.ref t2) (putF "old" v (putF "order" (.str o) []))))) sb4
    have ht5 : (upd H4 x (.ins cS dx (putF "base" (.int (((rV bs).length : Int) + 1)) (putF "turns" (.ref t2) (putF "old" v (putF "order" (.str o) [])))))) t2 = some (.lst []) := by rw [upd_ne xt2.symm]; exact ht2
    -- self.ranks = longest(wishes)
    refine ⟨_, rfl, p, W, rfl, hW.same (st sb5), hV, fun H6 s6 => ?_⟩
    have hx6 := s6 _ _ (upd_same (H := H4) (a := x) (o := .ins cS dx (putF "base" (.int (((rV bs).length : Int) + 1)) (putF "turns" (.ref t2) (putF "old" v (putF "order" (.str o) []))))))
    have ht6 := s6 _ _ ht5
    have sb6 : SameBut [x] H H6 := sb5.trans (.of s6 _)
    refine ⟨_, rfl, x, cS, dx, _, rfl, hx6, T.c_Scale, T.n_Scale_ranks, few_lt (few1 (few1 (few1 (few1 few0)))) (by decide), ?_⟩
    have sb7 := ux (u := .ins cS dx (putF "ranks" (.int (lg W.2 : Nat)) (putF "base" (.int (((rV bs).length : Int) + 1)) (putF "turns" (.ref t2) (putF "old" v (putF "order" (.str o) [])))))) sb6
    have hx7 : (upd H6 x (.ins cS dx (putF "ranks" (.int (lg W.2 : Nat)) (putF "base" (.int (((rV bs).length : Int) + 1)) (putF "turns" (.ref t2) (putF "old" v (putF "order" (.str o) []))))))) x = _ := upd_same
    have ht7 : (upd H6 x (.ins cS dx (putF "ranks" (.int (lg W.2 : Nat)) (putF "base" (.int (((rV bs).length : Int) + 1)) (putF "turns" (.ref t2) (putF "old" v (putF "order" (.str o) []))))))) t2 = some (.lst []) := by rw [upd_ne xt2.symm]; exact ht6
    generalize (upd H6 x (.ins cS dx (putF "ranks" (.int (lg W.2 : Nat)) (putF "base" (.int (((rV bs).length : Int) + 1)) (putF "turns" (.ref t2) (putF "old" v (putF "order" (.str o) []))))))) = H7 at sb7 hx7 ht7
    have hlg := lg_le W hV
    have hl7 : (rV bs).length ≤ 7 := by rw [rV_len, hbs.1]; exact hV.l7
    -- self.steps = powers_of(self.base, self.ranks)
    refine ⟨_, rfl, x, cS, dx, _, _, rfl, hx7, T.c_Scale, T.n_Scale_base, lkp_skip (by decide +kernel) lkp_hit, _, rfl, x, cS, dx, _, _, rfl, hx7, T.c_Scale, T.n_Scale_ranks, lkp_hit, (rV bs).length + 1, lg W.2, rfl, by omega, by omega, fun H8 zs s8 nzs hzs => ?_⟩
    have hx8 := s8 _ _ hx7
    have xzs : x ≠ zs := ne_of_none hx7 nzs
    refine ⟨_, rfl, x, cS, dx, _, rfl, hx8, T.c_Scale, T.n_Scale_steps, few_lt (few1 (few1 (few1 (few1 (few1 few0))))) (by decide), ?_⟩
    have sb9 := ux (u := .ins cS dx (putF "steps" (.ref zs) (putF "ranks" (.int (lg W.2 : Nat)) (putF "base" (.int (((rV bs).length : Int) + 1)) (putF "turns" (.ref t2) (putF "old" v (putF "order" (.str o) []))))))) (sb7.trans (.of s8 _))
    have hx9 : (upd H8 x (.ins cS dx (putF "steps" (.ref zs) (putF "ranks" (.int (lg W.2 : Nat)) (putF "base" (.int (((rV bs).length : Int) + 1)) (putF "turns" (.ref t2) (putF "old" v (putF "order" (.str o) [])))))))) x = _ := upd_same
    have ht9 : (upd H8 x (.ins cS dx (putF "steps" (.ref zs) (putF "ranks" (.int (lg W.2 : Nat)) (putF "base" (.int (((rV bs).length : Int) + 1)) (putF "turns" (.ref t2) (putF "old" v (putF "order" (.str o) [])))))))) t2 = some (.lst []) := by rw [upd_ne xt2.symm]; exact s8 _ _ ht7
    have hz9 : (upd H8 x (.ins cS dx (putF "steps" (.ref zs) (putF "ranks" (.int (lg W.2 : Nat)) (putF "base" (.int (((rV bs).length : Int) + 1)) (putF "turns" (.ref t2) (putF "old" v (putF "order" (.str o) [])))))))) zs = some (.lst (nV (pw ((rV bs).length + 1) (lg W.2)))) := by rw [upd_ne xzs.symm]; exact hzs
    generalize (upd H8 x (.ins cS dx (putF "steps" (.ref zs) (putF "ranks" (.int (lg W.2 : Nat)) (putF "base" (.int (((rV bs).length : Int) + 1)) (putF "turns" (.ref t2) (putF "old" v (putF "order" (.str o) [])))))))) = H9 at sb9 hx9 ht9 hz9
    -- self.picks = powers_of(self.ranks + 1, len(self.turns))
    refine ⟨_, rfl, x, cS, dx, _, _, rfl, hx9, T.c_Scale, T.n_Scale_ranks, lkp_skip (by decide +kernel) lkp_hit, _, _, rfl, rfl, _, rfl, x, cS, dx, _, _, rfl, hx9, T.c_Scale, T.n_Scale_turns, lkp_skip (by decide +kernel) (lkp_skip (by decide +kernel) (lkp_skip (by decide +kernel) lkp_hit)),
      t2, [], rfl, .inl (SqL.of ht9), lg W.2 + 1, 0, rfl, by omega, by omega, fun H10 pk s10 npk hpk => ?_⟩
    have xpk : x ≠ pk := ne_of_none hx9 npk
    refine ⟨_, rfl, x, cS, dx, _, rfl, s10 _ _ hx9, T.c_Scale, T.n_Scale_picks, few_lt (few1 (few1 (few1 (few1 (few1 (few1 few0)))))) (by decide), ?_⟩
    have sb11 := ux (u := .ins cS dx (putF "picks" (.ref pk) (putF "steps" (.ref zs) (putF "ranks" (.int (lg W.2 : Nat)) (putF "base" (.int (((rV bs).length : Int) + 1)) (putF "turns" (.ref t2) (putF "old" v (putF "order" (.str o) [])))))))) (sb9.trans (.of s10 _))
    refine q _ sb11 ⟨dx, v, t2, zs, pk, ?_, hO.same (st sb11), ?_, ?_, ?_⟩
    · rw [← eb]; exact upd_same
    · rw [upd_ne xt2.symm]; exact s10 _ _ ht9
    · rw [upd_ne xzs.symm, s10 _ _ hz9, rV_len, hbs.1]
    · rw [upd_ne xpk.symm]; exact hpk
/-! ### by_order, pick_of, of -/
def sp_Scale_by_order (K : PySem.W.Frag) (cS cR cP : Addr) : Sp := fun vs H Q _ => ∃ (x : Addr) (o : Str) (old : Option (List (Option Nat))) (b R r : Nat), vs = [.ref x, .int r] ∧ ScAt cS H x o old b R ∧ 1 ≤ r ∧ r ≤ R ∧ Q (.int (byo o b R r)) H
abbrev nm_Scale_by_order : List Str := ["self", "rank", "plain"]
theorem sc_Scale_by_order : FnScope nm_Scale_by_order ["self", "rank"] (defScope s_Scale_by_order) := ⟨rfl, rfl, rfl, by decide +kernel, rfl, by decide +kernel, by decide +kernel⟩
theorem c_Scale_by_order (T : Tx K mg cS cR cP) : C8.Met P w K mg base 1 cS "by_order" (sp_Scale_by_order K cS cR cP) [] := by
  refine met_of T.c_Scale T.m_Scale_by_order sc_Scale_by_order (fun _ _ _ _ _ _ us hl => match us, hl with | [_, _], _ => rfl) (fun vs H Q E h => ?_) (fun f cdv A outer s H vs Q E hr h => ?_)
  · obtain ⟨x, o, old, b, R, r, rfl, hS, h1, h2, q⟩ := h
    rfl
  · obtain ⟨x, o, old, b, R, r, rfl, hS, h1, h2, q⟩ := h
    have hu := hu_of hr
    refine ⟨_, 
    (pss_cons (ps_if (pt_cmpR op_eq (pe_fld (pv 0) rfl) pe_str (nomark _)) 
      (pss_one (ps_ret (pe_op op_sub (pe_ix ix_list (pe_fld (pv 0) rfl) (pe_fld (pv 0) rfl) (fun _ _ => rfl)) (pe_ix ix_list (pe_fld (pv 0) rfl) (pe_op op_sub (pv 1) pe_int) (fun _ _ => rfl))))) pss_nil)
    (pss_cons (ps_set (i := 2) sc_Scale_by_order.nd rfl (by first | exact Or.inl rfl | exact Or.inr rfl) (pe_ix ix_list (pe_fld (pv 0) rfl) (pe_op op_sub (pe_fld (pv 0) rfl) (pv 1)) (fun _ _ => rfl)))
    (pss_cons (ps_if (pt_cmpR op_eq (pe_fld (pv 0) rfl) pe_str (nomark _)) 
      (pss_one (ps_ret (pe_op op_add (pv 2) (pe_ix ix_list (pe_fld (pv 0) rfl) (pe_fld (pv 0) rfl) (fun _ _ => rfl))))) pss_nil)
    (pss_one (ps_ret (pv 2)))))), ?_⟩
    obtain ⟨dx, v, t, st, pk, hx, hO, ht, hst, hpk⟩ := id hS
    have aR : (nV (pw b R))[R]? = some (.int ((b ^ R : Nat) : Int)) := nV_at (pw_at b R R (Nat.le_refl _))
    refine ⟨_, rfl, x, cS, dx, _, _, rfl, hx, T.c_Scale, T.n_Scale_order, scF_order, rfl, _, rfl, ?_⟩
    refine ite2B (fun e => ?_) (fun e => ?_)
    · -- lasts
      have eo : o = ("lasts" : Str) := by have := of_decide_eq_true e; injection this
      have a1 : (nV (pw b R))[r - 1]? = some (.int ((b ^ (r - 1) : Nat) : Int)) := nV_at (pw_at b R (r - 1) (by omega))
      refine ⟨_, rfl, x, cS, dx, _, _, rfl, hx, T.c_Scale, T.n_Scale_steps, scF_steps, _, rfl, x, cS, dx, _, _, rfl, hx, T.c_Scale, T.n_Scale_ranks, scF_ranks, st, _, _, _, rfl, rfl, SqL.of hst, atI_nat aR, ?_⟩
      refine ⟨_, rfl, x, cS, dx, _, _, rfl, hx, T.c_Scale, T.n_Scale_steps, scF_steps, _, rfl, _, _, rfl, rfl, st, _, _, _, rfl, rfl, SqL.of hst, at_of (j := r - 1) (by show (r : Int) - 1 = _; omega) a1, _, _, rfl, rfl, ?_⟩
      refine vi ?_ q
      unfold byo
      rw [if_pos eo]
    · have eo : ¬ o = ("lasts" : Str) := fun z => by have := of_decide_eq_false e; exact this (by rw [z])
      have a1 : (nV (pw b R))[R - r]? = some (.int ((b ^ (R - r) : Nat) : Int)) := nV_at (pw_at b R (R - r) (by omega))
      refine ⟨_, rfl, x, cS, dx, _, _, rfl, hx, T.c_Scale, T.n_Scale_steps, scF_steps, _, rfl, x, cS, dx, _, _, rfl, hx, T.c_Scale, T.n_Scale_ranks, scF_ranks, _, rfl, _, _, rfl, rfl, st, _, _, _, rfl, rfl, SqL.of hst, at_of (j := R - r) (by show (R : Int) - (r : Int) = _; omega) a1, ?_⟩
      refine ⟨_, rfl, x, cS, dx, _, _, rfl, hx, T.c_Scale, T.n_Scale_order, scF_order, rfl, _, rfl, ?_⟩
      refine ite2B (fun e2 => ?_) (fun e2 => ?_)
      · have eo2 : o = ("full" : Str) := by have := of_decide_eq_true e2; injection this
        refine ⟨_, rfl, _, rfl, x, cS, dx, _, _, rfl, hx, T.c_Scale, T.n_Scale_steps, scF_steps, _, rfl, x, cS, dx, _, _, rfl, hx, T.c_Scale, T.n_Scale_ranks, scF_ranks, st, _, _, _, rfl, rfl, SqL.of hst, atI_nat aR, _, _, rfl, rfl, ?_⟩
        refine vi ?_ q
        unfold byo
        rw [if_neg eo, if_pos eo2]
      · have eo2 : ¬ o = ("full" : Str) := fun z => by have := of_decide_eq_false e2; exact this (by rw [z])
        refine ⟨_, rfl, ?_⟩
        refine vi ?_ q
        unfold byo
        rw [if_neg eo, if_neg eo2]
def sp_Scale_pick_of (K : PySem.W.Frag) (cS cR cP : Addr) : Sp := fun vs H Q _ => ∃ (x : Addr) (o : Str) (old : Option (List (Option Nat))) (b R a : Nat) (r : V), vs = [.ref x, .int a, r] ∧ ScAt cS H x o old b R ∧ Q (.int 0) H
abbrev nm_Scale_pick_of : List Str := ["self", "asker", "rank", "behind"]
theorem sc_Scale_pick_of : FnScope nm_Scale_pick_of ["self", "asker", "rank"] (defScope s_Scale_pick_of) := ⟨rfl, rfl, rfl, by decide +kernel, rfl, by decide +kernel, by decide +kernel⟩
theorem c_Scale_pick_of (T : Tx K mg cS cR cP) : C8.Met P w K mg base 1 cS "pick_of" (sp_Scale_pick_of K cS cR cP) [] := by
  refine met_of T.c_Scale T.m_Scale_pick_of sc_Scale_pick_of (fun _ _ _ _ _ _ us hl => match us, hl with | [_, _, _], _ => rfl) (fun vs H Q E h => ?_) (fun f cdv A outer s H vs Q E hr h => ?_)
  · obtain ⟨x, o, old, b, R, a, r, rfl, hS, q⟩ := h
    rfl
  · obtain ⟨x, o, old, b, R, a, r, rfl, hS, q⟩ := h
    have hu := hu_of hr
    refine ⟨_, (pss_cons (ps_if (pt_cmpR op_notIn_seq (pv 1) (pe_fld (pv 0) rfl) (by rfl)) 
      (pss_one (ps_ret pe_int)) pss_nil) pss_never), ?_⟩
    obtain ⟨dx, v, t, st, pk, hx, hO, ht, hst, hpk⟩ := id hS
    exact ⟨_, rfl, _, rfl, x, cS, dx, _, _, rfl, hx, T.c_Scale, T.n_Scale_turns, scF_turns, t, [], rfl, .inl (SqL.of ht), rfl, rfl, true, rfl, iteT q⟩
def sp_Scale_of (K : PySem.W.Frag) (cS cR cP : Addr) : Sp := fun vs H Q _ => ∃ (x : Addr) (o : Str) (old : Option (List (Option Nat))) (b R a t r : Nat), vs = [.ref x, .int a, .int t, .int r] ∧ ScAt cS H x o old b R ∧ 1 ≤ r ∧ r ≤ R ∧ b ≤ 8 ∧ R ≤ 7 ∧
  (∀ d, old = some d → a < d.length) ∧ Q (.int (wofr o old b R a t r)) H
abbrev nm_Scale_of : List Str := ["self", "asker", "thing", "rank", "worth"]
theorem sc_Scale_of : FnScope nm_Scale_of ["self", "asker", "thing", "rank"] (defScope s_Scale_of) := ⟨rfl, rfl, rfl, by decide +kernel, rfl, by decide +kernel, by decide +kernel⟩
theorem c_Scale_of (T : Tx K mg cS cR cP) : C8.Met P w K mg base 2 cS "of" (sp_Scale_of K cS cR cP) [] := by
  refine met_of T.c_Scale T.m_Scale_of sc_Scale_of (fun _ _ _ _ _ _ us hl => match us, hl with | [_, _, _, _], _ => rfl) (fun vs H Q E h => ?_) (fun f cdv A outer s H vs Q E hr h => ?_)
  · obtain ⟨x, o, old, b, R, a, t, r, rfl, hS, h1, h2, hb, hR, ha, q⟩ := h
    rfl
  · obtain ⟨x, o, old, b, R, a, t, r, rfl, hS, h1, h2, hb, hR, ha, q⟩ := h
    have hu := hu_of hr
    refine ⟨_, 
    (pss_cons (ps_set (i := 4) sc_Scale_of.nd rfl (by first | exact Or.inl rfl | exact Or.inr rfl) (pe_op op_mul (C8.pe_mt (c_Scale_by_order T) hr (by decide) (pv 0) (pa_cons (pv 3) pa_nil)) (pe_fld (pv 0) rfl)))
    (pss_cons (ps_if (PW.pt (pw_and (pt_cmpR op_notN (pe_fld (pv 0) rfl) pe_non (nomark _)) (pw_and1 (pt_cmpR op_eq (pe_ix ix_list (pe_fld (pv 0) rfl) (pv 1) (fun _ _ => rfl)) (pv 2) (nomark _))))) 
      (pss_one (ps_aug (i := 4) sc_Scale_of.nd rfl (by first | exact Or.inl rfl | exact Or.inr rfl) pe_int ip_add)) pss_nil)
    (pss_one (ps_ret (pe_op op_add (pe_op op_mul (pv 4) (pe_ix ix_list (pe_fld (pv 0) rfl) (pe_un un_neg pe_int) (fun _ _ => rfl))) (C8.pe_mt (c_Scale_pick_of T) hr (by decide) (pv 0) (pa_cons (pv 1) (pa_cons (pv 3) pa_nil)))))))), ?_⟩
    obtain ⟨dx, v, tt, st, pk, hx, hO, ht, hst, hpk⟩ := id hS
    have hs := byo_small o hb hR (show r ≤ 7 by omega)
    refine ⟨_, rfl, x, dx, _, rfl, hx, scF_no_by_order, _, rfl, x, o, old, b, R, r, rfl, hS, h1, h2, _, rfl, x, cS, dx, _, _, rfl, hx, T.c_Scale, T.n_Scale_base, scF_base, _, _, rfl, rfl, .inl ⟨by omega, by omega⟩, ?_⟩
    have hW : wofr o old b R a t r * 1 + 0 = wofr o old b R a t r := by omega
    have hsm : ∀ k : Int, 0 ≤ k → k ≤ 1 → -(2 ^ 64) < byo o b R r * (b : Int) + k ∧ byo o b R r * (b : Int) + k < 2 ^ 64 := fun k k0 k1 => by
      have hb0 : (0 : Int) ≤ (b : Int) := by omega
      have hb8 : (b : Int) ≤ 8 := by omega
      have e1 : byo o b R r * (b : Int) ≤ 2 ^ 40 * 8 := Int.le_trans (Int.mul_le_mul_of_nonneg_right (Int.le_of_lt hs.2) hb0) (Int.mul_le_mul_of_nonneg_left hb8 (by decide))
      have e2 : -(2 ^ 40) * 8 ≤ byo o b R r * (b : Int) := by
        have e3 : -(2 ^ 40) * (b : Int) ≤ byo o b R r * (b : Int) := Int.mul_le_mul_of_nonneg_right (Int.le_of_lt hs.1) hb0
        omega
      omega
    -- the end: worth * self.picks[-1] + self.pick_of(asker, rank)
    have fin : ∀ k : Int, 0 ≤ k → k ≤ 1 → byo o b R r * (b : Int) + k = wofr o old b R a t r → ∀ (z : Int), z = byo o b R r * (b : Int) + k →
        (tRet (tOp (rI0 fun i j => V.int (i + j)) (tOp (rI CMul fun i j => V.int (i * j)) (tVar 4) (tOp (rIxL K) (tFld K (tVar 0) "picks") (tUn (rU fun i => V.int (-i)) (tC (.int 1))))) (tMeth cS "pick_of" (sp_Scale_pick_of K cS cR cP) [] C8.E0 (tVar 0) (tCons (tVar 1) (tCons (tVar 3) tNil)))))
          { nx := fun _ H' => Q .non H', rt := Q } [some (.ref x), some (.int a), some (.int t), some (.int r), some (.int z)] H := by
      rintro k k0 k1 e z rfl
      have hh := hsm k k0 k1
      refine ⟨_, rfl, _, rfl, x, cS, dx, _, _, rfl, hx, T.c_Scale, T.n_Scale_picks, scF_picks, _, rfl, pk, _, _, _, rfl, rfl, SqL.of hpk, rfl, _, _, rfl, rfl, .inl ⟨by omega, by omega⟩, ?_⟩
      refine ⟨_, rfl, x, dx, _, rfl, hx, scF_no_pick_of, _, rfl, _, rfl, x, o, old, b, R, a, _, rfl, hS, _, _, rfl, rfl, ?_⟩
      refine vi ?_ q
      show (byo o b R r * (b : Int) + k) * 1 + 0 = _
      omega
    refine ⟨_, rfl, x, cS, dx, _, _, rfl, hx, T.c_Scale, T.n_Scale_old, scF_old, rfl, _, rfl, ?_⟩
    cases hold : old with
    | none =>
      rw [hold] at hO
      obtain rfl : v = .non := hO
      refine iteF (iteF (fin 0 (by omega) (by omega) ?_ _ (by show byo o b R r * (b : Int) = _; omega)))
      unfold wofr hadOld
      rw [hold]; simp
    | some d =>
      rw [hold] at hO
      obtain ⟨oa, rfl, hoa⟩ := hO
      have had := ha d hold
      have hat : (dV d)[a]? = some (oV (d.getD a none)) := by
        rw [List.getD_eq_getElem?_getD, List.getElem?_eq_getElem had]
        exact dV_at (List.getElem?_eq_getElem had)
      refine iteT ⟨_, rfl, x, cS, dx, _, _, rfl, hx, T.c_Scale, T.n_Scale_old, scF_old, _, rfl, oa, _, _, _, rfl, rfl, SqL.of hoa, atI_nat hat, _, rfl, ?_, _, rfl, ?_⟩
      · cases d.getD a none <;> rfl
      · have hdec : decide (oV (d.getD a none) = V.int (t : Int)) = hadOld old a t := by
          unfold hadOld
          rw [hold]
          rw [Bool.eq_iff_iff, decide_eq_true_eq, decide_eq_true_eq]
          exact ⟨fun z => oV_inj (b := some t) z, fun z => by rw [z]; rfl⟩
        refine ite2B (fun e => ?_) (fun e => ?_)
        · rw [hdec] at e
          refine ⟨_, rfl, _, _, rfl, rfl, fin 1 (by omega) (by omega) ?_ _ rfl⟩
          unfold wofr
          rw [if_pos e]
        · rw [hdec] at e
          refine fin 0 (by omega) (by omega) ?_ _ (by show byo o b R r * (b : Int) = _; omega)
          unfold wofr
          rw [if_neg (by rw [e]; exact Bool.false_ne_true)]
end
end WD

set_option Elab.async false
set_option linter.all false
set_option maxRecDepth 100000
set_option maxHeartbeats 4000000
namespace WD
open PySem PySem.Spec PyProof.Rows L2
/-! ### ranks, in plain -/
def rk : List (List Nat) → Nat → Nat
  | [], _ => 0
  | r :: rs, t => if t ∈ r then 1 else match rk rs t with
    | 0 => 0
    | n + 1 => n + 2
theorem rk_at : ∀ {rs : List (List Nat)} {i : Nat} {r : List Nat} {t : Nat}, rs[i]? = some r → t ∈ r → rs.flatten.Nodup → rk rs t = i + 1
  | [], i, r, t, h, _, _ => by simp at h
  | r0 :: rs, 0, r, t, h, ht, _ => by
    have e : r0 = r := Option.some.inj h
    subst e
    rw [rk, if_pos ht]
  | r0 :: rs, i + 1, r, t, h, ht, nd => by
    have h' : rs[i]? = some r := by simpa using h
    rw [List.flatten_cons, List.nodup_append] at nd
    have hf : t ∈ rs.flatten := List.mem_flatten.mpr ⟨r, List.mem_of_getElem? h', ht⟩
    have hn : t ∉ r0 := fun q => nd.2.2 t q t hf rfl
    rw [rk, if_neg hn, rk_at h' ht nd.2.1]
theorem rk_le {rs : List (List Nat)} {t : Nat} : rk rs t ≤ rs.length := by
  induction rs with
  | nil => exact Nat.le_refl _
  | cons r rs ih =>
    rw [rk]
    split
    · simp
    · cases h : rk rs t with
      | zero => simp
      | succ n =>
        rw [h] at ih
        show n + 2 ≤ rs.length + 1
        omega
theorem rk_pos {rs : List (List Nat)} {t : Nat} (h : t ∈ rs.flatten) : 1 ≤ rk rs t := by
  induction rs with
  | nil => simp at h
  | cons r rs ih =>
    rw [rk]
    split
    · exact Nat.le_refl _
    · rename_i hn
      rw [List.flatten_cons, List.mem_append] at h
      have h1 := ih (h.resolve_left hn)
      cases h2 : rk rs t with
      | zero => rw [h2] at h1; omega
      | succ n => show 1 ≤ n + 2; omega
theorem rk_zero {rs : List (List Nat)} {t : Nat} (h : t ∉ rs.flatten) : rk rs t = 0 := by
  induction rs with
  | nil => rfl
  | cons r rs ih =>
    rw [List.flatten_cons, List.mem_append, not_or] at h
    rw [rk, if_neg h.1, ih h.2]
theorem lg_ge {ls : List (List (List Nat))} {rs : List (List Nat)} (h : rs ∈ ls) : rs.length ≤ lg ls := by
  unfold lg
  induction ls with
  | nil => simp at h
  | cons x ls ih =>
    rw [List.map_cons, List.foldr_cons]
    rcases List.mem_cons.mp h with e | h
    · subst e; omega
    · have := ih h; omega
/-- a list cut at a place -/
theorem take_flat {rs : List (List Nat)} {i : Nat} {r : List Nat} (h : rs[i]? = some r) : (rs.take (i + 1)).flatten = (rs.take i).flatten ++ r := by
  have hi := (List.getElem?_eq_some_iff.mp h).1
  rw [List.take_succ_eq_append_getElem hi, List.flatten_append, (List.getElem?_eq_some_iff.mp h).2]
  simp
theorem take_one {α : Type} {r : List α} {j : Nat} {t : α} (h : r[j]? = some t) : r.take (j + 1) = r.take j ++ [t] := by
  have hj := (List.getElem?_eq_some_iff.mp h).1
  rw [List.take_succ_eq_append_getElem hj, (List.getElem?_eq_some_iff.mp h).2]
theorem flat_split {rs : List (List Nat)} {i j : Nat} {r : List Nat} {t : Nat} (h : rs[i]? = some r) (ht : r[j]? = some t) : rs.flatten = ((rs.take i).flatten ++ r.take j) ++ (t :: (r.drop (j + 1) ++ (rs.drop (i + 1)).flatten)) := by
  have e1 : rs = rs.take i ++ (r :: rs.drop (i + 1)) := by
    rw [← (List.getElem?_eq_some_iff.mp h).2, List.getElem_cons_drop, List.take_append_drop]
  have e2 : r = r.take j ++ (t :: r.drop (j + 1)) := by
    rw [← (List.getElem?_eq_some_iff.mp ht).2, List.getElem_cons_drop, List.take_append_drop]
  conv => lhs; rw [e1]
  rw [List.flatten_append, List.flatten_cons]
  conv => lhs; rw [e2]
  simp [List.append_assoc]
theorem flat_new {rs : List (List Nat)} {i j : Nat} {r : List Nat} {t : Nat} (h : rs[i]? = some r) (ht : r[j]? = some t) (nd : rs.flatten.Nodup) : t ∉ (rs.take i).flatten ++ r.take j := fun hm => by
  rw [flat_split h ht, List.nodup_append] at nd
  exact nd.2.2 t hm t List.mem_cons_self rfl
theorem flat_len {m : Nat} {rs : List (List Nat)} (hV : VR m rs) : rs.flatten.length ≤ m := nodup_bound m _ hV.nd hV.lt
section
variable {P : Program} {w : World} {K : PySem.W.Frag} {mg : Str → Option Value} {base : Heap} {cS cR cP : Addr}
/-! ### worths_of -/
def sp_worths_of (K : PySem.W.Frag) (cS cR cP : Addr) : Sp := fun vs H Q _ => ∃ (x ra : Addr) (o : Str) (old : Option (List (Option Nat))) (b R a m : Nat) (rs : List (List Nat)), vs = [.ref x, .int a, .ref ra] ∧ ScAt cS H x o old b R ∧ RksAt H ra rs ∧ VR m rs ∧ m ≤ 6 ∧
  rs.length ≤ R ∧ b ≤ 8 ∧ R ≤ 7 ∧ (∀ d, old = some d → a < d.length) ∧
  ∀ H' z (d : Al Int), Same H H' → H z = none → DicAt H' z d → keys d = rs.flatten → (∀ t, t ∈ rs.flatten → look d t = some (wofr o old b R a t (rk rs t))) → Q (.ref z) H'
abbrev nm_worths_of : List Str := ["scale", "asker", "ranks", "found", "k", "row", "thing"]
theorem sc_worths_of : FnScope nm_worths_of ["scale", "asker", "ranks"] (defScope s_worths_of) := ⟨rfl, rfl, rfl, by decide +kernel, rfl, by decide +kernel, by decide +kernel⟩
theorem c_worths_of (T : Tx K mg cS cR cP) : C8.Cal P w K mg base 3 "worths_of" (sp_worths_of K cS cR cP) [] := by
  refine cal_of T.d_worths_of sc_worths_of (fun _ _ _ _ _ _ us hl => match us, hl with | [_, _, _], _ => rfl) (fun vs H Q E h => ?_) (fun f cdv A outer s H vs Q E hr h => ?_)
  · obtain ⟨x, ra, o, old, b, R, a, m, rs, rfl, hS, hR, hV, hm, hrR, hb, hR7, ha, q⟩ := h
    rfl
  · obtain ⟨x, ra, o, old, b, R, a, m, rs, rfl, hS, hR, hV, hm, hrR, hb, hR7, ha, q⟩ := h
    have hu := hu_of hr
    refine ⟨_, 
    (pss_cons (ps_set (i := 3) sc_worths_of.nd rfl (by first | exact Or.inl rfl | exact Or.inr rfl) pe_dnewK)
    (pss_cons (ps_for PassesOwn.never rfl (pi_enum (by rfl) T.b_enumerate (pa_cons (pv 2) pa_nil)) (pg_tup rfl (pgs_cons (pg_name (i := 4) sc_worths_of.nd rfl (by first | exact Or.inl rfl | exact Or.inr rfl)) (pgs_cons (pg_name (i := 5) sc_worths_of.nd rfl (by first | exact Or.inl rfl | exact Or.inr rfl)) pgs_nil))) 
      (pss_one (ps_for PassesOwn.never rfl (pi_list (pv 5)) (pg_name (i := 6) sc_worths_of.nd rfl (by first | exact Or.inl rfl | exact Or.inr rfl)) 
        (pss_one (ps_dput hu (pv 3) (pv 6) (C8.pe_mt (c_Scale_of T) hr (by decide) (pv 0) (pa_cons (pv 1) (pa_cons (pv 6) (pa_cons (pe_op op_add (pv 4) pe_int) pa_nil)))) rfl)))))
    (pss_one (ps_ret (pv 3))))), ?_⟩
    obtain ⟨bs, hra, hbs⟩ := id hR
    obtain ⟨dx, _, _, _, _, hx, _⟩ := id hS
    intro z nz
    have s1 : Same H (upd H z (.dK [])) := same_upd nz
    have D0 : DicAt (upd H z (.dK [])) z [] := upd_same
    refine ⟨_, rfl, ra, _, rfl, SqL.of (s1 _ _ hra), for_enum (K := K) (a := ra) (xs := rV bs) (fun i σ H2 => ∃ v4 v5 v6 d, σ = [some (.ref x), some (.int a), some (.ref ra), some (.ref z), v4, v5, v6] ∧ Same H H2 ∧ DicAt H2 z d ∧ keys d = (rs.take i).flatten ∧
        ∀ t, t ∈ keys d → look d t = some (wofr o old b R a t (rk rs t)))
      ⟨none, none, none, [], rfl, s1, D0, rfl, fun t h => by simp [keys] at h⟩ (fun i σ H2 _ ⟨_, _, _, _, _, s2, _⟩ => SqL.of (s2 _ _ hra)) ?_ ?_⟩
    · rintro i y T' σ H2 hy nT ⟨v4, v5, v6, d, rfl, s2, hD, hk, hl⟩
      obtain ⟨br, hbr, rfl⟩ := rV_get hy
      obtain ⟨r, hr', hrow⟩ := hbs.at hbr
      have s3 : Same H2 (upd H2 T' (.tup [.int (i : Nat), .ref br])) := same_upd nT
      have sT := s2.trans s3
      refine ⟨T', _, rfl, SqT.of upd_same, rfl, _, _, rfl, _, _, rfl, rfl, ?_⟩
      have hrow3 : RowAt (upd H2 T' (.tup [.int (i : Nat), .ref br])) br r := hrow.same sT
      have hi := (List.getElem?_eq_some_iff.mp hr').1
      refine ⟨_, rfl, br, rfl, ⟨_, SqL.of hrow3⟩, for_list (K := K) (a := br) (xs := nV r) (fun j σ H4 => ∃ v6 d, σ = [some (.ref x), some (.int a), some (.ref ra), some (.ref z), some (.int (i : Nat)), some (.ref br), v6] ∧ Same H H4 ∧ DicAt H4 z d ∧ keys d = (rs.take i).flatten ++ r.take j ∧
          ∀ t, t ∈ keys d → look d t = some (wofr o old b R a t (rk rs t)))
        ⟨v6, d, rfl, sT, s3 _ _ hD, by rw [List.take_zero, List.append_nil]; exact hk, hl⟩ (fun j σ H4 _ ⟨_, _, _, s4, _⟩ => SqL.of (hrow.same s4)) ?_ ?_⟩
      · rintro j y σ H4 hy ⟨v6, d, rfl, s4, hD4, hk4, hl4⟩
        obtain ⟨t, ht, rfl⟩ := nV_get hy
        have hnew : t ∉ keys d := by rw [hk4]; exact flat_new hr' ht hV.nd
        have nd : (keys d).Nodup := by
          have h := hV.nd
          rw [flat_split hr' ht, List.nodup_append] at h
          rw [hk4]; exact h.1
        have hlen : d.length ≤ m := by
          rw [← length_keys, hk4]
          have h := flat_len hV
          rw [flat_split hr' ht, List.length_append] at h
          omega
        have htr : t ∈ r := List.mem_of_getElem? ht
        have hrk := rk_at hr' htr hV.nd
        refine ⟨_, rfl, x, dx, _, rfl, s4 _ _ hx, scF_no_of, _, rfl, _, rfl, _, rfl, _, _, rfl, rfl, x, o, old, b, R, a, t, i + 1, rfl, hS.same s4, by omega, by omega, hb, hR7, ha, ?_⟩
        refine ⟨_, rfl, _, rfl, z, _, rfl, hD4.put nd (by omega) t _, ?_⟩
        refine ⟨_, _, rfl, fun c u e => ?_, upd_same, ?_, fun t' h' => ?_⟩
        · rw [upd_ne (ne_of_none e nz)]; exact s4 c u e
        · rw [keys_put, if_neg hnew, hk4, take_one ht, List.append_assoc]
        · rw [look_put]
          by_cases e : t' = t
          · subst e; rw [if_pos rfl, hrk]
          · rw [if_neg e]
            exact hl4 t' ((mem_keys_put.mp h').resolve_left e)
      · rintro σ H4 ⟨v6, d, rfl, s4, hD4, hk4, hl4⟩
        refine ⟨_, _, v6, d, rfl, s4, hD4, ?_, hl4⟩
        rw [hk4, nV_len, List.take_length, take_flat hr']
    · rintro σ H2 ⟨v4, v5, v6, d, rfl, s2, hD, hk, hl⟩
      rw [rV_len, hbs.1, List.take_length] at hk
      exact ⟨_, rfl, q H2 z d s2 nz hD hk fun t ht => hl t (by rw [hk]; exact ht)⟩
/-! ### all_worths -/
def TripAt (H : Hp) (T : Addr) (x : Nat × Nat × Int) : Prop := H T = some (.tup [.int x.1, .int x.2.1, .int x.2.2])
/-- what a wish is worth -/
def wW (o : Str) (old : Option (List (Option Nat))) (W : Wish) (a t : Nat) : Int := wofr o old (W.2.length + 1) (lg W.2) a t (rk (W.2.getD a []) t)
def AwOk (o : Str) (old : Option (List (Option Nat))) (W : Wish) (n : Nat) (aw : List (Nat × Nat × Int)) : Prop := ∀ a t w, (a, t, w) ∈ aw ↔ a < n ∧ t ∈ (W.2.getD a []).flatten ∧ w = wW o old W a t
theorem trip_upd {H : Hp} {z : Addr} {xs : List V} {u : HO} {ts : List Addr} {aw : List (Nat × Nat × Int)} (hz : H z = some (.lst xs)) (h : AllAt (TripAt H) ts aw) : AllAt (TripAt (upd H z u)) ts aw := h.mono fun a x hx => by
  show upd H z u a = _
  rw [upd_ne (ne_of hx hz (by intro e; cases e))]; exact hx
theorem perm_nats {ys : List Int} {ks : List Nat} (h : ys.Perm (ks.map fun (n : Nat) => (n : Int))) : ∃ ns : List Nat, ys.map V.int = nV ns ∧ ns.Perm ks := by
  refine ⟨ys.map Int.toNat, ?_, ?_⟩
  · unfold nV
    rw [List.map_map]
    refine List.map_congr_left fun y hy => ?_
    obtain ⟨n, _, rfl⟩ := List.mem_map.mp (h.mem_iff.mp hy)
    rfl
  · have h2 := h.map Int.toNat
    rw [List.map_map] at h2
    have e : ks.map (Int.toNat ∘ fun (n : Nat) => (n : Int)) = ks := by
      conv => rhs; rw [← List.map_id ks]
      exact List.map_congr_left fun x _ => by simp
    rwa [e] at h2
def sp_all_worths : Sp := fun vs H Q _ => ∃ (p a : Addr) (W : Wish) (o : Str) (old : Option (List (Option Nat))), vs = [.ref p, .ref a] ∧ WAt H p W ∧ VW W ∧ AimAt H a o old ∧ Ord o ∧ OldOk W old ∧
  ∀ H' z (ts : List Addr) (aw : List (Nat × Nat × Int)), Same H H' → H' z = some (.lst (rV ts)) → AllAt (TripAt H') ts aw → AwOk o old W W.2.length aw → Q (.ref z) H'
theorem getD_of {α : Type} {l : List α} {i : Nat} {x z : α} (h : l[i]? = some x) : l.getD i z = x := by rw [List.getD_eq_getElem?_getD, h]; rfl
abbrev nm_all_worths : List Str := ["wishes", "aim", "scale", "found", "asker", "ranks", "worths", "thing"]
theorem sc_all_worths : FnScope nm_all_worths ["wishes", "aim"] (defScope s_all_worths) := ⟨rfl, rfl, rfl, by decide +kernel, rfl, by decide +kernel, by decide +kernel⟩
theorem c_all_worths (T : Tx K mg cS cR cP) : C8.Cal P w K mg base 8 "all_worths" sp_all_worths [] := by
  refine cal_of T.d_all_worths sc_all_worths (fun _ _ _ _ _ _ us hl => match us, hl with | [_, _], _ => rfl) (fun vs H Q E h => ?_) (fun f cdv A outer s H vs Q E hr h => ?_)
  · obtain ⟨p, a, W, o, old, rfl, hW, hV, hA, ho, hK, q⟩ := h
    rfl
  · obtain ⟨p, a, W, o, old, rfl, hW, hV, hA, ho, hK, q⟩ := h
    have hu := hu_of hr
    refine ⟨_, 
    (pss_cons (ps_expr (C8.pe_c (c_look_at_aim T) hr (by decide) rfl (pa_cons (pv 0) (pa_cons (pv 1) pa_nil))))
    (pss_cons (ps_set (i := 2) sc_all_worths.nd rfl (by first | exact Or.inl rfl | exact Or.inr rfl) (C8.pe_mk (k_Scale T) hr (by decide) rfl (pa_cons (pv 0) (pa_cons (pv 1) pa_nil))))
    (pss_cons (ps_set (i := 3) sc_all_worths.nd rfl (by first | exact Or.inl rfl | exact Or.inr rfl) (pe_lst pa_nil))
    (pss_cons (ps_for PassesOwn.never rfl (pi_enum (by rfl) T.b_enumerate (pa_cons (pe_ix ix_tup (pv 0) pe_int (fun _ _ => rfl)) pa_nil)) (pg_tup rfl (pgs_cons (pg_name (i := 4) sc_all_worths.nd rfl (by first | exact Or.inl rfl | exact Or.inr rfl)) (pgs_cons (pg_name (i := 5) sc_all_worths.nd rfl (by first | exact Or.inl rfl | exact Or.inr rfl)) pgs_nil))) 
      (pss_cons (ps_set (i := 6) sc_all_worths.nd rfl (by first | exact Or.inl rfl | exact Or.inr rfl) (C8.pe_c (c_worths_of T) hr (by decide) rfl (pa_cons (pv 2) (pa_cons (pv 4) (pa_cons (pv 5) pa_nil)))))
      (pss_one (ps_expr (pe_bm PySem.F.plainAttrs_list PySem.F.slot_list_extend PySem.F.type_list_extend mt_extend (pv 3) (pa_cons (pe_lc (own := [("thing", 7)]) (g := gName 7) (tt := tYes) rfl sc_all_worths.nd (pi_list (pe_callB (call_sortedDI rfl) (by rfl) T.b_sorted bo_sorted (pa_cons (pv 6) pa_nil))) (blkOk_by (own := [("thing", 7)]) (N := nm_all_worths) (sc := defScope s_all_worths) (by decide +kernel)) (fun _ _ _ _ _ => (pg_name (i := 7) sc_all_worths.nd rfl (by first | exact Or.inl rfl | exact Or.inr rfl))) (fun _ _ _ _ _ => pts_nil) (fun _ _ _ _ _ => (pe_tup (pa_cons (pv 4) (pa_cons (pv 7) (pa_cons (pe_dget hu (pv 6) (pv 7) (fun _ _ => rfl)) pa_nil)))))) pa_nil))))))
    (pss_one (ps_ret (pv 3))))))), ?_⟩
    refine ⟨_, rfl, _, rfl, p, a, W, o, old, rfl, hW, hV, hA, ho, hK, fun H1 s1 => ?_⟩
    -- scale = Scale(wishes, aim)
    refine ⟨_, rfl, _, rfl, fun x dx nx ndx nex => ?_⟩
    have sx : Same H1 (upd (upd H1 dx (.own x)) x (.ins cS dx [])) := fun b u e => by
      rw [upd_ne (ne_of_none e nx), upd_ne (ne_of_none e ndx)]; exact e
    have hx1 : ∀ b ∈ [x], H1 b = none := fun b hb => by
      have : b = x := by simpa using hb
      rw [this]; exact nx
    refine ⟨x, dx, p, a, W, o, old, rfl, upd_same, (hW.same s1).same (hid_new sx hx1), hV, (hA.same s1).same (hid_new sx hx1), fun H2 sb2 hS => ⟨rfl, ?_⟩⟩
    have s2 : Same H H2 := s1.trans fun b u e => sb2 b u (sx b u e) (fun q => by rw [hx1 b q] at e; cases e)
    -- found = []
    refine ⟨Nat.zero_le _, fun z nz => ?_⟩
    have s3 : Same H2 (upd H2 z (.lst [])) := same_upd nz
    obtain ⟨c, l, hp, hc, bs, hl, hbs⟩ := hW.same s2
    refine ⟨_, rfl, p, _, _, _, rfl, rfl, SqT.of (s3 _ _ hp), rfl, l, _, rfl, SqL.of (s3 _ _ hl), for_enum (K := K) (a := l) (xs := rV bs) (fun i σ H4 => ∃ v4 v5 v6 v7 ts aw, σ = [some (.ref p), some (.ref a), some (.ref x), some (.ref z), v4, v5, v6, v7] ∧ Same H2 H4 ∧
        H4 z = some (.lst (rV ts)) ∧ AllAt (TripAt H4) ts aw ∧ AwOk o old W i aw ∧ aw.length ≤ 6 * i)
      ⟨none, none, none, none, [], [], rfl, s3, upd_same, AllAt.nil, fun a t w => ⟨fun h => by simp at h, fun h => absurd h.1 (Nat.not_lt_zero _)⟩, by simp⟩ (fun i σ H4 _ ⟨_, _, _, _, _, _, _, s4, _⟩ => SqL.of (s4 _ _ hl)) ?_ ?_⟩
    · rintro i y T' σ H4 hy nT ⟨v4, v5, v6, v7, ts, aw, rfl, s4, hz4, hts, haw, hlen⟩
      obtain ⟨br, hbr, rfl⟩ := rV_get hy
      obtain ⟨rs, hrs, hR⟩ := hbs.at hbr
      have hVr := hV.rs rs (List.mem_of_getElem? hrs)
      have hi := (List.getElem?_eq_some_iff.mp hrs).1
      have egd : W.2.getD i [] = rs := getD_of hrs
      have s5 : Same H4 (upd H4 T' (.tup [.int (i : Nat), .ref br])) := same_upd nT
      have s25 := s4.trans s5
      refine ⟨T', _, rfl, SqT.of upd_same, rfl, _, _, rfl, _, _, rfl, rfl, ?_⟩
      have hl7 := hV.l7
      have hlg5 := lg_le W hV
      -- worths = worths_of(scale, asker, ranks)
      refine ⟨_, rfl, _, rfl, _, rfl, x, br, o, old, W.2.length + 1, lg W.2, i, W.1.length, rs, rfl, hS.same s25, hR.same s25, hVr, hV.c6, lg_ge (List.mem_of_getElem? hrs), by omega, by omega, fun d hd => ?_, fun H6 zd d s6 nzd hD6 hkd hld => ?_⟩
      · rw [hd] at hK
        rw [hK.1]; exact hi
      have s26 := s25.trans s6
      have hz6 := s6 _ _ (s5 _ _ hz4)
      have hts6 : AllAt (TripAt H6) ts aw := hts.mono fun _ _ h => s6 _ _ (s5 _ _ h)
      -- found.extend([.. for thing in sorted(worths)])
      refine ⟨_, rfl, .inl ⟨rfl, _, SqL.of hz6⟩, ?_⟩
      have hflen := flat_len hVr
      have hc6 := hV.c6
      refine ⟨_, rfl, zd, kvG V.int d, (keys d).map fun (n : Nat) => (n : Int), rfl, .inl hD6, ?_, ?_, fun ys py hperm _ npy => ?_⟩
      · unfold kvG keys; simp only [List.map_map]; rfl
      · rw [List.length_map, hkd]; omega
      obtain ⟨ns, ens, hns⟩ := perm_nats hperm
      rw [ens]
      have s7 : Same H6 (upd H6 py (.lst (nV ns))) := same_upd npy
      refine ⟨py, rfl, ⟨_, SqL.of upd_same⟩, fun D nD => ?_⟩
      have hnl : ns.length ≤ 6 := by rw [hns.length_eq, hkd]; omega
      refine lc_list (K := K) (a := py) (xs := nV ns) (fun j H8 => ∃ ts8, Same (upd H6 py (.lst (nV ns))) H8 ∧ H8 D = some (.lst (rV ts8)) ∧ AllAt (TripAt H8) ts8 ((ns.take j).map fun t => (i, t, wW o old W i t)))
        ⟨[], same_upd nD, upd_same, AllAt.nil⟩ (fun j H8 _ ⟨_, s8, _⟩ => SqL.of (s8 _ _ upd_same)) ?_ ?_
      · rintro j y H8 hy ⟨ts8, s8, hD8, hts8⟩
        obtain ⟨t, ht, rfl⟩ := nV_get hy
        have htd : t ∈ rs.flatten := by rw [← hkd]; exact hns.mem_iff.mp (List.mem_of_getElem? ht)
        have hget := (DicAt.get (s8 _ _ (s7 _ _ hD6) : DicAt H8 zd d) t)
        rw [hld t htd] at hget
        refine ⟨rfl, ?_⟩
        refine ⟨_, rfl, _, rfl, _, rfl, _, rfl, zd, _, rfl, hget, (by show 3 ≤ sizeLine; decide), fun T8 nT8 => ?_⟩
        have s9 : Same H8 (upd H8 T8 (.tup [.int (i : Nat), .int (t : Nat), .int (wofr o old (W.2.length + 1) (lg W.2) i t (rk rs t))])) := same_upd nT8
        refine ⟨_, s9 _ _ hD8, ?_, ts8 ++ [T8], fun b u e => ?_, ?_, ?_⟩
        · rw [rV_len, hts8.1, List.length_map, List.length_take]; exact small1000 (by omega)
        · rw [upd_ne (ne_of_none e nD)]; exact s9 _ _ (s8 _ _ e)
        · rw [upd_same, rV_snoc]
        · rw [take_one ht, List.map_append]
          refine trip_upd (s9 _ _ hD8) (AllAt.snoc (hts8.mono fun _ _ h => s9 _ _ h) ?_)
          show upd H8 T8 _ T8 = _
          rw [upd_same]
          unfold wW
          rw [egd]
      · rintro H8 ⟨ts8, s8, hD8, hts8⟩
        rw [nV_len, List.take_length] at hts8
        have hz8 := s8 _ _ (s7 _ _ hz6)
        refine ⟨z, D, _, _, rfl, rfl, hz8, hD8, ?_, ?_⟩
        · rw [rV_len, rV_len, hts.1, hts8.1, List.length_map]
          exact Nat.le_of_lt (small1000 (by omega))
        · refine ⟨_, _, _, v7, ts ++ ts8, aw ++ ns.map (fun t => (i, t, wW o old W i t)), rfl, fun b u e => ?_, ?_, ?_, ?_, ?_⟩
          · rw [upd_ne (ne_of_none e nz)]; exact s8 _ _ (s7 _ _ (s26 _ _ e))
          · rw [upd_same]; unfold rV; rw [List.map_append]
          · refine trip_upd hz8 ?_
            have h1 : AllAt (TripAt H8) ts aw := hts6.mono fun _ _ h => s8 _ _ (s7 _ _ h)
            exact allAt_append h1 hts8
          · intro a' t' w'
            rw [List.mem_append, haw a' t' w', List.mem_map]
            constructor
            · rintro (⟨h1, h2, h3⟩ | ⟨t2, h1, h2⟩)
              · exact ⟨by omega, h2, h3⟩
              · cases h2
                refine ⟨by omega, ?_, rfl⟩
                rw [egd, ← hkd]; exact hns.mem_iff.mp h1
            · rintro ⟨h1, h2, h3⟩
              by_cases e : a' < i
              · exact .inl ⟨e, h2, h3⟩
              · have e2 : a' = i := by omega
                subst e2
                right
                refine ⟨t', ?_, by rw [h3]⟩
                rw [egd, ← hkd] at h2
                exact hns.mem_iff.mpr h2
          · rw [List.length_append, List.length_map]; omega
    · rintro σ H4 ⟨v4, v5, v6, v7, ts, aw, rfl, s4, hz4, hts, haw, hlen⟩
      rw [rV_len, hbs.1] at haw
      exact ⟨_, rfl, q H4 z ts aw (s2.trans s4) hz4 hts haw⟩
/-! ### rows_by -/
def RowsAt (H : Hp) (z : Addr) (rows : List (Al Int)) : Prop := ∃ as, H z = some (.lst (rV as)) ∧ AllAt (DicAt H) as rows
theorem RowsAt.same {H H' : Hp} {z : Addr} {rows : List (Al Int)} (e : Same H H') (h : RowsAt H z rows) : RowsAt H' z rows := let ⟨as, h1, h2⟩ := h; ⟨as, e _ _ h1, h2.mono fun _ _ x => e _ _ x⟩
structure RowsOk (o : Str) (old : Option (List (Option Nat))) (W : Wish) (rows : List (Al Int)) : Prop where
  len : rows.length = W.2.length
  nd : ∀ a, (keys (row rows a)).Nodup
  iff : ∀ a t w, look (row rows a) t = some w ↔ t ∈ (W.2.getD a []).flatten ∧ w = wW o old W a t
/-- what stands in the rows behind so many triples -/
structure RowsP (n : Nat) (rows : List (Al Int)) (aw : List (Nat × Nat × Int)) : Prop where
  len : rows.length = n
  nd : ∀ a, (keys (row rows a)).Nodup
  to : ∀ a t w, look (row rows a) t = some w → (a, t, w) ∈ aw
  from_ : ∀ a t w, (a, t, w) ∈ aw → ∃ w', look (row rows a) t = some w'
theorem row_set {rows : List (Al Int)} {a b : Nat} {r : Al Int} (h : a < rows.length) : row (rows.set a r) b = if b = a then r else row rows b := by
  unfold row
  rw [List.getD_eq_getElem?_getD, List.getElem?_set, List.getD_eq_getElem?_getD]
  by_cases e : a = b
  · subst e; simp [h]
  · have : ¬ b = a := fun q => e q.symm
    simp [e, this]
theorem RowsP.step {n : Nat} {rows : List (Al Int)} {aw : List (Nat × Nat × Int)} (h : RowsP n rows aw) {a t : Nat} {w : Int} (ha : a < n) : RowsP n (rows.set a (put (row rows a) t w)) (aw ++ [(a, t, w)]) := by
  have hl : a < rows.length := by rw [h.len]; exact ha
  refine ⟨by rw [List.length_set]; exact h.len, fun b => ?_, fun b s v hb => ?_, fun b s v hb => ?_⟩
  · rw [row_set hl]
    split
    · exact nodup_put (h.nd a) _ _
    · exact h.nd b
  · rw [row_set hl] at hb
    rw [List.mem_append]
    by_cases e : b = a
    · subst e
      rw [if_pos rfl, look_put] at hb
      by_cases e2 : s = t
      · rw [if_pos e2] at hb
        cases hb; subst e2
        exact .inr List.mem_cons_self
      · rw [if_neg e2] at hb
        exact .inl (h.to _ _ _ hb)
    · rw [if_neg e] at hb
      exact .inl (h.to _ _ _ hb)
  · rw [row_set hl]
    rw [List.mem_append] at hb
    by_cases e : b = a
    · subst e
      rw [if_pos rfl, look_put]
      by_cases e2 : s = t
      · rw [if_pos e2]; exact ⟨_, rfl⟩
      · rw [if_neg e2]
        rcases hb with hb | hb
        · exact h.from_ _ _ _ hb
        · have : (b, s, v) = (b, t, w) := by simpa using hb
          cases this
          exact absurd rfl e2
    · rw [if_neg e]
      rcases hb with hb | hb
      · exact h.from_ _ _ _ hb
      · have : (b, s, v) = (a, t, w) := by simpa using hb
        cases this
        exact absurd rfl e
theorem dics_upd {H : Hp} {z : Addr} {u : HO} {as : List Addr} {rows : List (Al Int)} (hz : ∀ kvs, H z ≠ some (.dK kvs)) (h : AllAt (DicAt H) as rows) : AllAt (DicAt (upd H z u)) as rows := h.mono fun a x hx => by
  show upd H z u a = _
  rw [upd_ne (fun e => hz _ (by rw [← e]; exact hx))]; exact hx
theorem row_short {rows : List (Al Int)} {aw : List (Nat × Nat × Int)} {n m : Nat} (h : RowsP n rows aw) (hm : ∀ a t w, (a, t, w) ∈ aw → t < m) (a : Nat) : (row rows a).length ≤ m := by
  rw [← length_keys]
  refine nodup_bound m _ (h.nd a) fun t ht => ?_
  obtain ⟨q, hq, e⟩ := List.mem_map.mp ht
  subst e
  exact hm a q.1 q.2 (h.to _ _ _ (mem_look (h.nd a) hq))
def sp_rows_by : Sp := fun vs H Q _ => ∃ (p a : Addr) (W : Wish) (o : Str) (old : Option (List (Option Nat))), vs = [.ref p, .ref a] ∧ WAt H p W ∧ VW W ∧ AimAt H a o old ∧ Ord o ∧ OldOk W old ∧
  ∀ H' z (rows : List (Al Int)), Same H H' → RowsAt H' z rows → RowsOk o old W rows → Q (.ref z) H'
abbrev nm_rows_by : List Str := ["wishes", "aim", "worths", "rows", "ranks", "asker", "thing", "worth"]
theorem sc_rows_by : FnScope nm_rows_by ["wishes", "aim"] (defScope s_rows_by) := ⟨rfl, rfl, rfl, by decide +kernel, rfl, by decide +kernel, by decide +kernel⟩
theorem c_rows_by (T : Tx K mg cS cR cP) : C8.Cal P w K mg base 9 "rows_by" sp_rows_by [] := by
  refine cal_of T.d_rows_by sc_rows_by (fun _ _ _ _ _ _ us hl => match us, hl with | [_, _], _ => rfl) (fun vs H Q E h => ?_) (fun f cdv A outer s H vs Q E hr h => ?_)
  · obtain ⟨p, a, W, o, old, rfl, hW, hV, hA, ho, hK, q⟩ := h
    rfl
  · obtain ⟨p, a, W, o, old, rfl, hW, hV, hA, ho, hK, q⟩ := h
    have hu := hu_of hr
    refine ⟨_, 
    (pss_cons (ps_set (i := 2) sc_rows_by.nd rfl (by first | exact Or.inl rfl | exact Or.inr rfl) (C8.pe_c (c_all_worths T) hr (by decide) rfl (pa_cons (pv 0) (pa_cons (pv 1) pa_nil))))
    (pss_cons (ps_setLc (i := 3) (own := [("ranks", 4)]) (g := gName 4) (tt := tYes) rfl sc_rows_by.nd rfl rfl (sw_true rfl rfl rfl (by decide +kernel)) (pi_list (pe_ix ix_tup (pv 0) pe_int (fun _ _ => rfl))) (blkOk_by (own := [("ranks", 4)]) (N := nm_rows_by) (sc := defScope s_rows_by) (by decide +kernel)) (fun _ _ _ _ _ => (pg_name (i := 4) sc_rows_by.nd rfl (by first | exact Or.inl rfl | exact Or.inr rfl))) (fun _ _ _ _ _ => pts_nil) (fun _ _ _ _ _ => pe_dnewK))
    (pss_cons (ps_for PassesOwn.never rfl (pi_list (pv 2)) (pg_tup rfl (pgs_cons (pg_name (i := 5) sc_rows_by.nd rfl (by first | exact Or.inl rfl | exact Or.inr rfl)) (pgs_cons (pg_name (i := 6) sc_rows_by.nd rfl (by first | exact Or.inl rfl | exact Or.inr rfl)) (pgs_cons (pg_name (i := 7) sc_rows_by.nd rfl (by first | exact Or.inl rfl | exact Or.inr rfl)) pgs_nil)))) 
      (pss_one (ps_dput hu (pe_ix ix_list (pv 3) (pv 5) (fun _ _ => rfl)) (pv 6) (pv 7) rfl)))
    (pss_one (ps_ret (pv 3)))))), ?_⟩
    refine ⟨_, rfl, _, rfl, p, a, W, o, old, rfl, hW, hV, hA, ho, hK, fun H1 zw ts aw s1 hzw hts haw => ?_⟩
    obtain ⟨c, l, hp, hc, bs, hl, hbs⟩ := hW.same s1
    -- rows = [{} for ranks in wishes[1]]
    refine ⟨_, rfl, p, _, _, _, rfl, rfl, SqT.of hp, rfl, l, rfl, ⟨_, SqL.of hl⟩, fun D nD => ?_⟩
    refine lc_list (K := K) (a := l) (xs := rV bs) (fun i H2 => ∃ as, Same H1 H2 ∧ H2 D = some (.lst (rV as)) ∧ AllAt (DicAt H2) as (List.replicate i []) ∧ as.Nodup ∧ ∀ e ∈ as, H1 e = none) ⟨[], same_upd nD, upd_same, AllAt.nil, List.nodup_nil, fun e h => by simp at h⟩ (fun i H2 _ ⟨_, s2, _⟩ => SqL.of (s2 _ _ hl)) ?_ ?_
    · rintro i y H2 hy ⟨as, s2, hD, has, nd, hfr⟩
      refine ⟨rfl, fun e ne => ?_⟩
      have s3 : Same H2 (upd H2 e (.dK [])) := same_upd ne
      refine ⟨_, s3 _ _ hD, ?_, as ++ [e], fun b u h => ?_, ?_, ?_, ?_, fun b hb => ?_⟩
      · have hi := (List.getElem?_eq_some_iff.mp hy).1
        rw [rV_len, has.1, List.length_replicate]
        rw [rV_len, hbs.1] at hi
        exact small1000 (by have := hV.l7; omega)
      · rw [upd_ne (ne_of_none h nD)]; exact s3 _ _ (s2 _ _ h)
      · rw [upd_same, rV_snoc]
      · rw [List.replicate_succ']
        refine dics_upd (fun kvs z => by rw [s3 _ _ hD] at z; cases z) (AllAt.snoc (has.mono fun _ _ h => s3 _ _ h) ?_)
        exact upd_same
      · refine nd_snoc nd fun hm => ?_
        obtain ⟨j, hj, ej⟩ := List.mem_iff_getElem.mp hm
        have h1 := has.2 j e [] (by rw [List.getElem?_eq_getElem hj, ej]) (by rw [List.getElem?_replicate, if_pos (by have := has.1; rw [List.length_replicate] at this; omega)])
        rw [show H2 e = _ from h1] at ne; cases ne
      · rcases List.mem_append.mp hb with hb | hb
        · exact hfr b hb
        · have : b = e := by simpa using hb
          rw [this]; exact s2.free ne
    · rintro H2 ⟨as, s2, hD, has, nd, hfr⟩
      rw [rV_len, hbs.1] at has
      -- for asker, thing, worth in worths
      have hzw2 := s2 _ _ hzw
      refine ⟨_, rfl, zw, rfl, ⟨_, SqL.of hzw2⟩, for_list (K := K) (a := zw) (xs := rV ts) (fun i σ H3 => ∃ v4 v5 v6 v7 rows, σ = [some (.ref p), some (.ref a), some (.ref zw), some (.ref D), v4, v5, v6, v7] ∧ SameBut as H2 H3 ∧
          AllAt (DicAt H3) as rows ∧ RowsP W.2.length rows (aw.take i))
        ⟨none, none, none, none, List.replicate W.2.length [], rfl, fun _ _ e _ => e, has, ⟨List.length_replicate, fun a => ?_, fun a t w h => ?_, fun a t w h => by simp at h⟩⟩ ?_ ?_ ?_⟩
      · unfold row; rw [List.getD_eq_getElem?_getD, List.getElem?_replicate]; split <;> exact List.nodup_nil
      · unfold row at h; rw [List.getD_eq_getElem?_getD, List.getElem?_replicate] at h; split at h <;> cases h
      · rintro i σ H3 _ ⟨_, _, _, _, _, _, sb, _⟩
        refine SqL.of (sb _ _ hzw2 fun hm => ?_)
        obtain ⟨j, hj, ej⟩ := List.mem_iff_getElem.mp hm
        obtain ⟨r, _, hr'⟩ := has.at (i := j) (a := zw) (by rw [List.getElem?_eq_getElem hj, ej])
        rw [show H2 zw = _ from hr'] at hzw2; cases hzw2
      · rintro i y σ H3 hy ⟨v4, v5, v6, v7, rows, rfl, sb, hrows, hP⟩
        obtain ⟨T3, hT3, rfl⟩ := rV_get hy
        obtain ⟨⟨a3, t3, w3⟩, h3, htr⟩ := hts.at hT3
        have hnotin : ∀ {b : Addr} {u : HO}, H2 b = some u → (∀ kvs, u ≠ .dK kvs) → H3 b = some u := fun {b u} hb hu => sb b u hb fun hm => by
          obtain ⟨j, hj, ej⟩ := List.mem_iff_getElem.mp hm
          obtain ⟨r, _, hr'⟩ := has.at (i := j) (a := b) (by rw [List.getElem?_eq_getElem hj, ej])
          rw [show H2 b = _ from hr'] at hb
          exact hu _ (Option.some.inj hb).symm
        have htr3 : H3 T3 = _ := hnotin (s2 _ _ htr) (fun _ e => by cases e)
        have hD3 := hnotin hD (fun _ e => by cases e)
        obtain ⟨ha3, ht3, hw3⟩ := (haw a3 t3 w3).mp (List.mem_of_getElem? h3)
        have hcnt : a3 < as.length := by rw [has.1, List.length_replicate]; exact ha3
        have hd3 : as[a3]? = some as[a3] := List.getElem?_eq_getElem hcnt
        obtain ⟨r3, hr3, hdic⟩ := hrows.at hd3
        have erow : row rows a3 = r3 := row_of hr3
        have hVr : VR W.1.length (W.2.getD a3 []) := by
          rw [List.getD_eq_getElem?_getD, List.getElem?_eq_getElem ha3]
          exact hV.rs _ (List.getElem_mem ha3)
        refine ⟨T3, _, rfl, SqT.of htr3, rfl, _, _, rfl, _, _, rfl, _, _, rfl, rfl, ?_⟩
        have hshort : r3.length ≤ 6 := by
          have := row_short (m := W.1.length) hP (fun a t w h => by
            obtain ⟨h1, h2, h4⟩ := (haw a t w).mp (List.mem_of_mem_take h)
            have hVr' : VR W.1.length (W.2.getD a []) := by
              rw [List.getD_eq_getElem?_getD, List.getElem?_eq_getElem h1]
              exact hV.rs _ (List.getElem_mem h1)
            exact hVr'.lt t h2) a3
          rw [erow] at this
          have := hV.c6
          omega
        refine ⟨_, rfl, _, rfl, _, rfl, D, _, _, _, rfl, rfl, SqL.of hD3, atI_nat (rV_at hd3), _, rfl, as[a3], _, rfl, DicAt.put hdic (by rw [← erow]; exact hP.nd a3) (by omega) t3 w3, ?_⟩
        refine ⟨_, _, _, _, rows.set a3 (put r3 t3 w3), rfl, sb.trans (sameBut_upd (List.getElem_mem hcnt)), AllAt.set hrows nd hd3 upd_same (fun b y hb h => ?_), ?_⟩
        · show upd H3 _ _ b = _
          rw [upd_ne hb]; exact h
        · rw [take_one h3, ← erow]
          exact hP.step ha3
      · rintro σ H3 ⟨v4, v5, v6, v7, rows, rfl, sb, hrows, hP⟩
        rw [rV_len, hts.1, List.take_length] at hP
        have hDm : D ∉ as := fun hm => by
          obtain ⟨j, hj, ej⟩ := List.mem_iff_getElem.mp hm
          obtain ⟨r, _, hr'⟩ := has.at (i := j) (a := D) (by rw [List.getElem?_eq_getElem hj, ej])
          rw [show H2 D = _ from hr'] at hD; cases hD
        refine ⟨_, rfl, q H3 D rows (s1.trans fun b u e => sb b u (s2 _ _ e) fun hm => ?_) ⟨as, sb _ _ hD hDm, hrows⟩ ⟨hP.len, hP.nd, fun a t w => ?_⟩⟩
        · rw [hfr b hm] at e; cases e
        · constructor
          · intro h
            obtain ⟨_, h2, h3⟩ := (haw a t w).mp (hP.to _ _ _ h)
            exact ⟨h2, h3⟩
          · rintro ⟨h2, h3⟩
            have ha : a < W.2.length := by
              by_cases q : a < W.2.length
              · exact q
              · rw [getD_out (by omega)] at h2; simp at h2
            obtain ⟨w', h4⟩ := hP.from_ a t w ((haw a t w).mpr ⟨ha, h2, h3⟩)
            obtain ⟨_, _, h5⟩ := (haw a t w').mp (hP.to _ _ _ h4)
            rw [h4, h3, h5]
/-! ### left_by -/
def lf (cp : List Nat) (d : List (Option Nat)) : List Int := (List.range cp.length).map fun t => ((cp.getD t 0 : Nat) : Int) - cnt d t
theorem lf_len (cp : List Nat) (d : List (Option Nat)) : (lf cp d).length = cp.length := by simp [lf]
theorem lf_at {cp : List Nat} {d : List (Option Nat)} {t : Nat} (h : t < cp.length) : (lf cp d)[t]? = some (((cp.getD t 0 : Nat) : Int) - cnt d t) := by
  unfold lf
  rw [List.getElem?_map, List.getElem?_range h]; rfl
theorem lf_nil (cp : List Nat) : iV (lf cp []) = nV cp := by
  unfold iV lf nV
  refine List.ext_getElem (by simp) fun i h1 h2 => ?_
  simp [cnt]
  rw [List.getElem?_eq_getElem (by simpa using h2)]; rfl
theorem lf_set {cp : List Nat} {d : List (Option Nat)} {t : Nat} (h : t < cp.length) : (lf cp d).set t (((cp.getD t 0 : Nat) : Int) - cnt d t - 1) = lf cp (d ++ [some t]) := by
  refine List.ext_getElem? fun i => ?_
  rw [List.getElem?_set]
  by_cases hi : i < cp.length
  · rw [lf_at hi, lf_at hi]
    have hc : cnt (d ++ [some t]) i = cnt d i + if t = i then 1 else 0 := by
      unfold cnt
      rw [List.count_append, List.count_singleton]
      by_cases e : t = i
      · subst e; simp
      · simp [e]
    rw [hc]
    by_cases e : t = i
    · subst e
      rw [if_pos rfl, if_pos (by rw [lf_len]; exact h), if_pos rfl]
      congr 1; omega
    · rw [if_neg e, if_neg e]; congr 1
  · have h1 : (lf cp d)[i]? = none := List.getElem?_eq_none (by rw [lf_len]; omega)
    have h2 : (lf cp (d ++ [some t]))[i]? = none := List.getElem?_eq_none (by rw [lf_len]; omega)
    rw [h1, h2, lf_len]
    by_cases e : t = i
    · omega
    · rw [if_neg e]
def sp_left_by : Sp := fun vs H Q _ => ∃ (c a : Addr) (cp : List Nat) (d : List (Option Nat)), vs = [.ref c, .ref a] ∧ H c = some (.lst (nV cp)) ∧ H a = some (.lst (dV d)) ∧ (∀ t, some t ∈ d → t < cp.length) ∧
  ∀ H' z, Same H H' → H z = none → H' z = some (.lst (iV (lf cp d))) → Q (.ref z) H'
abbrev nm_left_by : List Str := ["copies", "dealt", "left", "thing"]
theorem sc_left_by : FnScope nm_left_by ["copies", "dealt"] (defScope s_left_by) := ⟨rfl, rfl, rfl, by decide +kernel, rfl, by decide +kernel, by decide +kernel⟩
theorem c_left_by (T : Tx K mg cS cR cP) : C8.Cal P w K mg base 1 "left_by" sp_left_by [] := by
  refine cal_of T.d_left_by sc_left_by (fun _ _ _ _ _ _ us hl => match us, hl with | [_, _], _ => rfl) (fun vs H Q E h => ?_) (fun f cdv A outer s H vs Q E hr h => ?_)
  · obtain ⟨c, a, cp, d, rfl, hc, ha, hd, q⟩ := h
    rfl
  · obtain ⟨c, a, cp, d, rfl, hc, ha, hd, q⟩ := h
    have hu := hu_of hr
    refine ⟨_, 
    (pss_cons (ps_set (i := 2) sc_left_by.nd rfl (by first | exact Or.inl rfl | exact Or.inr rfl) (pe_callTy call_list_of (by rfl) T.b_list bo_list (pa_cons (pv 0) pa_nil)))
    (pss_cons (ps_for PassesOwn.never rfl (pi_list (pv 1)) (pg_name (i := 3) sc_left_by.nd rfl (by first | exact Or.inl rfl | exact Or.inr rfl)) 
      (pss_one (ps_if (pt_cmpR op_notN (pv 3) pe_non (nomark _)) 
        (pss_one (ps_augS (pv 2) (pv 3) get_list pe_int ip_sub set_list)) pss_nil)))
    (pss_one (ps_ret (pv 2))))), ?_⟩
    refine ⟨_, rfl, c, _, rfl, .inl (SqL.of hc), fun z nz => ?_⟩
    have s1 : Same H (upd H z (.lst (nV cp))) := same_upd nz
    refine ⟨_, rfl, a, rfl, ⟨_, SqL.of (s1 _ _ ha)⟩, for_list (K := K) (a := a) (xs := dV d) (fun i σ H2 => ∃ v3, σ = [some (.ref c), some (.ref a), some (.ref z), v3] ∧ Same H H2 ∧ H2 z = some (.lst (iV (lf cp (d.take i)))))
      ⟨none, rfl, s1, by rw [upd_same, List.take_zero, lf_nil]⟩ (fun i σ H2 _ ⟨_, _, s2, _⟩ => SqL.of (s2 _ _ ha)) ?_ ?_⟩
    · rintro i y σ H2 hy ⟨v3, rfl, s2, hz⟩
      obtain ⟨n, hn, rfl⟩ := dV_get hy
      cases n with
      | none =>
        refine ⟨_, rfl, rfl, false, rfl, iteF ⟨_, rfl, s2, ?_⟩⟩
        rw [hz, take_one hn]
        have e : lf cp (d.take i ++ [none]) = lf cp (d.take i) := by
          unfold lf cnt
          refine List.map_congr_left fun t _ => ?_
          rw [List.count_append]
          have : List.count (some t) [(none : Option Nat)] = 0 := by rw [List.count_eq_zero]; simp
          rw [this]; rfl
        rw [e]
      | some t =>
        have ht := hd t (List.mem_of_getElem? hn)
        have hat := iV_at (lf_at (cp := cp) (d := d.take i) ht)
        refine ⟨_, rfl, rfl, true, rfl, iteT ?_⟩
        refine ⟨_, rfl, _, rfl, z, _, _, _, rfl, rfl, SqL.of hz, by omega, by rw [show ((t : Int)).toNat = t by omega]; exact hat, _, _, rfl, rfl, z, _, _, t, rfl, rfl, hz, ?_, ?_⟩
        · unfold ixN
          rw [iV_len, lf_len, if_pos (by omega), if_pos (by omega)]; simp
        · refine ⟨_, rfl, fun b u e => ?_, ?_⟩
          · rw [upd_ne (ne_of_none e nz)]; exact s2 _ _ e
          · rw [upd_same, take_one hn, ← lf_set ht]
            unfold iV
            rw [List.map_set]
    · rintro σ H2 ⟨v3, rfl, s2, hz⟩
      rw [dV_len, List.take_length] at hz
      exact ⟨_, rfl, q H2 z s2 nz hz⟩
end
end WD

set_option Elab.async false
set_option linter.all false
set_option maxRecDepth 100000
set_option maxHeartbeats 4000000
namespace WD
open PySem PySem.Spec PyProof.Rows L2
/-! ### heaps once more -/
theorem upd_comm {H : Hp} {a b : Addr} {o u : HO} (h : a ≠ b) : upd (upd H a o) b u = upd (upd H b u) a o := by
  funext c
  unfold upd
  by_cases h1 : c = b
  · by_cases h2 : c = a
    · exact absurd (h2.symm.trans h1) h
    · simp [h1, h2]
      intro e; exact absurd e.symm h
  · simp [h1]
theorem upd_self {H : Hp} {a : Addr} {o : HO} (h : H a = some o) : upd H a o = H := by
  funext c
  unfold upd
  split
  · rename_i e; rw [e, h]
  · rfl
def PairAt (H : Hp) (T : Addr) (q : Nat × Int) : Prop := H T = some (.tup [.int q.1, .int q.2])
def StepAt (H : Hp) (T : Addr) (q : Nat × Option Nat) : Prop := H T = some (.tup [.int q.1, oV q.2])
theorem paired_at {H : Hp} : ∀ {ts : List Addr} {F : Al Int}, Paired (fun (t : Addr) (q : Key × V) => H t = some (.tup [kV q.1, q.2])) ts (kvG V.int F) → AllAt (PairAt H) ts F
  | [], [], _ => AllAt.nil
  | [], _ :: _, h => by cases h
  | _ :: _, [], h => by cases h
  | t :: ts, q :: F, h => by
    cases h with
    | cons r h' =>
      have ih := paired_at (F := F) h'
      refine ⟨by rw [List.length_cons, List.length_cons, ih.1], fun i a x h1 h2 => ?_⟩
      cases i with
      | zero => cases h1; cases h2; exact r
      | succ i => exact ih.2 i a x (by simpa using h1) (by simpa using h2)
theorem oV_dec (t : Nat) (x : Option Nat) : decide (V.int (t : Int) = oV x) = decide (x = some t) := by
  rw [Bool.eq_iff_iff, decide_eq_true_eq, decide_eq_true_eq]
  exact ⟨fun z => oV_inj (b := some t) z.symm, fun z => by rw [z]; rfl⟩
theorem oV_scal (t : Nat) (x : Option Nat) : scal (V.int (t : Int)) (oV x) = true := by cases x <;> rfl
/-! ### a Reach -/
structure ReAt (cR : Addr) (H : Hp) (x R D fa ta ka : Addr) (k : Nat) (rows : List (Al Int)) (d : Deal) (F T : Al Int) (Kt : Al Nat) : Prop where
  ob : ∃ dx, H x = some (.ins cR dx (reF (.ref R) (.ref D) (.int k) (.ref fa) (.ref ta) (.ref ka)))
  fd : DicAt H fa F
  td : DicAt H ta T
  kd : DicN H ka Kt
  ft : fa ≠ ta
  tk : ta ≠ ka
  fk : fa ≠ ka
  rw_ : RowsAt (hid [fa, ta, ka] H) R rows
  dl : H D = some (.lst (dV d))
section
variable {cR : Addr} {H H' : Hp} {x R D fa ta ka : Addr} {k : Nat} {rows : List (Al Int)} {d : Deal} {F T F' T' : Al Int} {Kt K' : Al Nat}
theorem ReAt.kind (h : ReAt cR H x R D fa ta ka k rows d F T Kt) {b : Addr} {u : HO} (hb : H b = some u) (hu : ∀ kvs, u ≠ .dK kvs) : b ∉ [fa, ta, ka] := fun hm => by
  have h1 := h.fd
  have h2 := h.td
  have h3 := h.kd
  simp only [List.mem_cons, List.not_mem_nil, or_false] at hm
  rcases hm with e | e | e <;> subst e
  · rw [show H b = _ from h1] at hb; exact hu _ (Option.some.inj hb).symm
  · rw [show H b = _ from h2] at hb; exact hu _ (Option.some.inj hb).symm
  · rw [show H b = _ from h3] at hb; exact hu _ (Option.some.inj hb).symm
theorem ReAt.move (h : ReAt cR H x R D fa ta ka k rows d F T Kt) (sb : SameBut [fa, ta, ka] H H') (hf : DicAt H' fa F') (ht : DicAt H' ta T') (hk : DicN H' ka K') : ReAt cR H' x R D fa ta ka k rows d F' T' K' :=
  ⟨let ⟨dx, e⟩ := h.ob; ⟨dx, sb _ _ e (h.kind e fun _ z => by cases z)⟩, hf, ht, hk, h.ft, h.tk, h.fk, h.rw_.same (hid_mono sb), sb _ _ h.dl (h.kind h.dl fun _ z => by cases z)⟩
theorem ReAt.same (h : ReAt cR H x R D fa ta ka k rows d F T Kt) (s : Same H H') : ReAt cR H' x R D fa ta ka k rows d F T Kt := h.move (.of s _) (s _ _ h.fd) (s _ _ h.td) (s _ _ h.kd)
theorem ReAt.setT (h : ReAt cR H x R D fa ta ka k rows d F T Kt) : ReAt cR (upd H ta (.dK (kvG V.int T'))) x R D fa ta ka k rows d F T' Kt :=
  h.move (sameBut_upd (by simp)) (by show upd H ta _ fa = _; rw [upd_ne h.ft]; exact h.fd) upd_same (by show upd H ta _ ka = _; rw [upd_ne h.tk.symm]; exact h.kd)
theorem ReAt.setK (h : ReAt cR H x R D fa ta ka k rows d F T Kt) : ReAt cR (upd H ka (.dK (kvG (fun (n : Nat) => V.int (n : Int)) K'))) x R D fa ta ka k rows d F T K' :=
  h.move (sameBut_upd (by simp)) (by show upd H ka _ fa = _; rw [upd_ne h.fk]; exact h.fd) (by show upd H ka _ ta = _; rw [upd_ne h.tk]; exact h.td) upd_same
theorem ReAt.setF (h : ReAt cR H x R D fa ta ka k rows d F T Kt) : ReAt cR (upd H fa (.dK (kvG V.int F'))) x R D fa ta ka k rows d F' T Kt :=
  h.move (sameBut_upd (by simp)) upd_same (by show upd H fa _ ta = _; rw [upd_ne h.ft.symm]; exact h.td) (by show upd H fa _ ka = _; rw [upd_ne h.fk.symm]; exact h.kd)
/-- an asker's row -/
theorem ReAt.row (h : ReAt cR H x R D fa ta ka k rows d F T Kt) {a : Nat} (ha : a < rows.length) : ∃ as ra, H R = some (.lst (rV as)) ∧ (rV as)[a]? = some (.ref ra) ∧ DicAt H ra (row rows a) ∧ ra ∉ [fa, ta, ka] := by
  obtain ⟨as, h1, h2⟩ := h.rw_
  have hr := row_get ha
  obtain ⟨ra, h3, h4⟩ := h2.at' hr
  obtain ⟨h5, h6⟩ := hid_some.mp h4
  exact ⟨as, ra, hid_same _ _ h1, rV_at h3, h6, h5⟩
end
/-! ### to_things, in plain: what its dicts keep -/
structure SI (m : Nat) (s : TS3) : Prop where
  nT : (keys s.1).Nodup
  nK : (keys s.2.1).Nodup
  bT : ∀ t ∈ keys s.1, t < m
  bK : ∀ t ∈ keys s.2.1, t < m
theorem SI.lenT {m : Nat} {s : TS3} (h : SI m s) : s.1.length ≤ m := by rw [← length_keys]; exact nodup_bound m _ h.nT h.bT
theorem SI.lenK {m : Nat} {s : TS3} (h : SI m s) : s.2.1.length ≤ m := by rw [← length_keys]; exact nodup_bound m _ h.nK h.bK
theorem SI.step {m : Nat} {s : TS3} (h : SI m s) {d : Deal} {a : Nat} {g : Int} {q : Nat × Int} (hq : q.1 < m) : SI m (stepT d a g q s) := by
  have h2 : SI m (put s.1 q.1 (g + q.2), put s.2.1 q.1 a, true) := ⟨nodup_put h.nT _ _, nodup_put h.nK _ _, fun t ht => (mem_keys_put.mp ht).elim (fun e => by rw [e]; exact hq) (h.bT t), fun t ht => (mem_keys_put.mp ht).elim (fun e => by rw [e]; exact hq) (h.bK t)⟩
  unfold stepT
  split
  · exact h
  · split
    · exact h2
    · split
      · exact h2
      · exact h
theorem rowT_si {m : Nat} {rows : List (Al Int)} (hm : ∀ a t w, look (row rows a) t = some w → t < m) (nr : ∀ a, (keys (row rows a)).Nodup) {d : Deal} {a : Nat} {g : Int} {s : TS3} (h : SI m s) (n : Nat) : SI m (rowT rows d a g n s) := by
  unfold rowT
  refine iter_inv (fun _ s => SI m s) h n fun i s _ h => ?_
  cases hq : (row rows a)[i]? with
  | none => exact h
  | some q => exact h.step (hm a q.1 q.2 (mem_look (nr a) (List.mem_of_getElem? hq)))
theorem thingsT_si {m : Nat} {rows : List (Al Int)} (hm : ∀ a t w, look (row rows a) t = some w → t < m) (nr : ∀ a, (keys (row rows a)).Nodup) {d : Deal} {F : Al Int} {s : TS3} (h : SI m s) (n : Nat) : SI m (thingsT rows d F n s) := by
  unfold thingsT
  refine iter_inv (fun _ s => SI m s) h n fun i s _ h => ?_
  cases hq : F[i]? with
  | none => exact h
  | some q => exact rowT_si hm nr h _
theorem rowT_succ {rows : List (Al Int)} {d : Deal} {a : Nat} {g : Int} {n : Nat} {s : TS3} {q : Nat × Int} (h : (row rows a)[n]? = some q) : rowT rows d a g (n + 1) s = stepT d a g q (rowT rows d a g n s) := by
  show (match (row rows a)[n]? with | some q => stepT d a g q (rowT rows d a g n s) | none => rowT rows d a g n s) = _
  rw [h]
theorem thingsT_succ {rows : List (Al Int)} {d : Deal} {F : Al Int} {n : Nat} {s : TS3} {q : Nat × Int} (h : F[n]? = some q) : thingsT rows d F (n + 1) s = rowT rows d q.1 q.2 (row rows q.1).length (thingsT rows d F n s) := by
  show (match F[n]? with | some q => rowT rows d q.1 q.2 (row rows q.1).length (thingsT rows d F n s) | none => thingsT rows d F n s) = _
  rw [h]
section
variable {P : Program} {w : World} {K : PySem.W.Frag} {mg : Str → Option Value} {base : Heap} {cS cR cP : Addr}
/-! ### Reach.__init__ -/
def sp_Reach_init (K : PySem.W.Frag) (cS cR cP : Addr) : Sp := fun vs H Q _ => ∃ (x dx R D : Addr) (k : Nat) (rows : List (Al Int)) (d : Deal), vs = [.ref x, .ref R, .ref D, .int k] ∧ H x = some (.ins cR dx []) ∧ RowsAt (hid [x] H) R rows ∧ H D = some (.lst (dV d)) ∧
  ∀ H' fa ta ka, SameBut [x] H H' → ReAt cR H' x R D fa ta ka k rows d [(k, 0)] [] [] → H fa = none → H ta = none → H ka = none → Q .non H'
abbrev nm_Reach_init : List Str := ["self", "rows", "dealt", "start"]
theorem sc_Reach_init : FnScope nm_Reach_init ["self", "rows", "dealt", "start"] (defScope s_Reach_init) := ⟨rfl, rfl, rfl, by decide +kernel, rfl, by decide +kernel, by decide +kernel⟩
theorem k_Reach (T : Tx K mg cS cR cP) : C8.Mak P w K mg base 1 "Reach" cR (sp_Reach_init K cS cR cP) [] := by
  refine mak_of T.g_Reach T.i_Reach sc_Reach_init (fun _ _ _ _ _ _ us hl => match us, hl with | [_, _, _, _], _ => rfl) (fun vs H Q E h => ?_) (fun f cdv A outer s H vs Q E hr h => ?_)
  · obtain ⟨x, dx, R, D, k, rows, d, rfl, hx, hR, hD, q⟩ := h
    rfl
  · obtain ⟨x, dx, R, D, k, rows, d, rfl, hx, hR, hD, q⟩ := h
    have hu := hu_of hr
    refine ⟨_, 
    (pss_cons (ps_fld (pv 0) (pv 1) rfl)
    (pss_cons (ps_fld (pv 0) (pv 2) rfl)
    (pss_cons (ps_fld (pv 0) (pv 3) rfl)
    (pss_cons (ps_fld (pv 0) (pe_disp (pps_cons (pv 3) pe_int pps_nil) (by rfl) (by rfl) (fun z => by cases z) (by decide)) rfl)
    (pss_cons (ps_fld (pv 0) pe_dnewK rfl)
    (pss_one (ps_fld (pv 0) pe_dnewK rfl))))))), ?_⟩
    refine ⟨_, rfl, _, rfl, x, cR, dx, [], rfl, hx, T.c_Reach, T.n_Reach_rows, few_lt few0 (by decide), ?_⟩
    refine ⟨_, rfl, _, rfl, x, cR, dx, _, rfl, upd_same, T.c_Reach, T.n_Reach_dealt, few_lt (few1 few0) (by decide), ?_⟩
    refine ⟨_, rfl, _, rfl, x, cR, dx, _, rfl, upd_same, T.c_Reach, T.n_Reach_start, few_lt (few1 (few1 few0)) (by decide), ?_⟩
    rw [upd_upd, upd_upd]
    -- {start: 0}
    intro fa nfa
    have xf : x ≠ fa := ne_of_none upd_same nfa
    refine ⟨_, rfl, upd_same, [(Sum.inl (k : Int), .int 0)], rfl, (by show 1 ≤ 15; decide), ?_⟩
    rw [upd_upd]
    refine ⟨_, rfl, x, cR, dx, _, rfl, by rw [upd_ne xf, upd_same], T.c_Reach, T.n_Reach_freed, few_lt (few1 (few1 (few1 few0))) (by decide), ?_⟩
    intro ta nta
    have xt : x ≠ ta := ne_of_none upd_same nta
    have ft : fa ≠ ta := by
      intro e; subst e
      rw [upd_ne xf.symm, upd_same] at nta; cases nta
    refine ⟨_, rfl, x, cR, dx, _, rfl, by rw [upd_ne xt, upd_same], T.c_Reach, T.n_Reach_taken, few_lt (few1 (few1 (few1 (few1 few0)))) (by decide), ?_⟩
    intro ka nka
    have xk : x ≠ ka := ne_of_none upd_same nka
    have tk : ta ≠ ka := by
      intro e; subst e
      rw [upd_ne xt.symm, upd_same] at nka; cases nka
    have fk : fa ≠ ka := by
      intro e; subst e
      rw [upd_ne xf.symm, upd_ne ft, upd_ne xf.symm, upd_same] at nka; cases nka
    refine ⟨_, rfl, x, cR, dx, _, rfl, by rw [upd_ne xk, upd_same], T.c_Reach, T.n_Reach_takers, few_lt (few1 (few1 (few1 (few1 (few1 few0))))) (by decide), ?_⟩
    have hfa : H fa = none := by rw [← nfa, upd_ne xf.symm]
    have hta : H ta = none := by rw [← nta, upd_ne xt.symm, upd_ne ft.symm, upd_ne xt.symm]
    have hka : H ka = none := by rw [← nka, upd_ne xk.symm, upd_ne tk.symm, upd_ne xk.symm, upd_ne fk.symm, upd_ne xk.symm]
    refine q _ fa ta ka (fun b u e hb => ?_) ⟨⟨dx, upd_same⟩, ?_, ?_, ?_, ft, tk, fk, hR.same fun b u e => ?_, ?_⟩ hfa hta hka
    · have bx : b ≠ x := fun z => hb (by rw [z]; exact List.mem_cons_self)
      rw [upd_ne bx, upd_ne (ne_of_none e hka), upd_ne bx, upd_ne (ne_of_none e hta), upd_ne bx, upd_ne (ne_of_none e hfa), upd_ne bx]; exact e
    · show upd _ x _ fa = _
      rw [upd_ne xf.symm, upd_ne fk, upd_ne xf.symm, upd_ne ft, upd_ne xf.symm, upd_same]; rfl
    · show upd _ x _ ta = _
      rw [upd_ne xt.symm, upd_ne tk, upd_ne xt.symm, upd_same]; rfl
    · show upd _ x _ ka = _
      rw [upd_ne xk.symm, upd_same]; rfl
    · obtain ⟨bx', e⟩ := hid_some.mp e
      have bx : b ≠ x := fun z => bx' (by rw [z]; exact List.mem_cons_self)
      refine hid_some.mpr ⟨fun hm => ?_, ?_⟩
      · simp only [List.mem_cons, List.not_mem_nil, or_false] at hm
        rcases hm with z | z | z <;> subst z
        · rw [hfa] at e; cases e
        · rw [hta] at e; cases e
        · rw [hka] at e; cases e
      · rw [upd_ne bx, upd_ne (ne_of_none e hka), upd_ne bx, upd_ne (ne_of_none e hta), upd_ne bx, upd_ne (ne_of_none e hfa), upd_ne bx]; exact e
    · have bx : D ≠ x := ne_of hD hx (by intro z; cases z)
      rw [upd_ne bx, upd_ne (ne_of_none hD hka), upd_ne bx, upd_ne (ne_of_none hD hta), upd_ne bx, upd_ne (ne_of_none hD hfa), upd_ne bx]; exact hD
/-! ### to_things -/
def sp_Reach_to_things (K : PySem.W.Frag) (cS cR cP : Addr) : Sp := fun vs H Q _ => ∃ (x R D fa ta ka : Addr) (k m : Nat) (rows : List (Al Int)) (d : Deal) (F T : Al Int) (Kt : Al Nat), vs = [.ref x] ∧ ReAt cR H x R D fa ta ka k rows d F T Kt ∧ SI m (T, Kt, false) ∧ m ≤ 6 ∧
  (∀ a t w, look (row rows a) t = some w → t < m) ∧ (∀ a, (keys (row rows a)).Nodup) ∧ rows.length = d.length ∧ (∀ a ∈ keys F, a < d.length) ∧
  ∀ H' s, s = thingsT rows d F F.length (T, Kt, false) → SameBut [fa, ta, ka] H H' → ReAt cR H' x R D fa ta ka k rows d F s.1 s.2.1 → SI m s → Q (.bl s.2.2) H'
abbrev nm_Reach_to_things : List Str := ["self", "more", "asker", "gain", "thing", "worth"]
theorem sc_Reach_to_things : FnScope nm_Reach_to_things ["self"] (defScope s_Reach_to_things) := ⟨rfl, rfl, rfl, by decide +kernel, rfl, by decide +kernel, by decide +kernel⟩
theorem c_Reach_to_things (T : Tx K mg cS cR cP) : C8.Met P w K mg base 1 cR "to_things" (sp_Reach_to_things K cS cR cP) [] := by
  refine met_of T.c_Reach T.m_Reach_to_things sc_Reach_to_things (fun _ _ _ _ _ _ us hl => match us, hl with | [_], _ => rfl) (fun vs H Q E h => ?_) (fun f cdv A outer s H vs Q E hr h => ?_)
  · obtain ⟨x, R, D, fa, ta, ka, k, m, rows, d, F, T0, Kt, rfl, hA0, hS, hm, hmk, nr, hlen, hFk, q⟩ := h
    rfl
  · obtain ⟨x, R, D, fa, ta, ka, k, m, rows, d, F, T0, Kt, rfl, hA0, hS, hm, hmk, nr, hlen, hFk, q⟩ := h
    have hu := hu_of hr
    refine ⟨_, 
    (pss_cons (ps_set (i := 1) sc_Reach_to_things.nd rfl (by first | exact Or.inl rfl | exact Or.inr rfl) pe_bl)
    (pss_cons (ps_for PassesOwn.never rfl (pi_list (LiI.pe_listItems rfl (pe_fld (pv 0) rfl) (by rfl) T.b_list bo_list)) (pg_tup rfl (pgs_cons (pg_name (i := 2) sc_Reach_to_things.nd rfl (by first | exact Or.inl rfl | exact Or.inr rfl)) (pgs_cons (pg_name (i := 3) sc_Reach_to_things.nd rfl (by first | exact Or.inl rfl | exact Or.inr rfl)) pgs_nil))) 
      (pss_one (ps_lock (ps_for PassesOwn.never rfl (pi_items (pe_ix ix_list (pe_fld (pv 0) rfl) (pv 2) (fun _ _ => rfl))) (pg_tup rfl (pgs_cons (pg_name (i := 4) sc_Reach_to_things.nd rfl (by first | exact Or.inl rfl | exact Or.inr rfl)) (pgs_cons (pg_name (i := 5) sc_Reach_to_things.nd rfl (by first | exact Or.inl rfl | exact Or.inr rfl)) pgs_nil))) 
        (pss_cons (ps_if (pt_cmpR op_eq (pv 4) (pe_ix ix_list (pe_fld (pv 0) rfl) (pv 2) (fun _ _ => rfl)) (nomark _)) 
          (pss_one ps_continue) pss_nil)
        (pss_one (ps_if (PW.pt (pw_or (pt_cmp (pc_dnotin hu (pv 4) (pe_fld (pv 0) rfl))) (pw_or1 (pt_cmpR op_gt (pe_op op_add (pv 3) (pv 5)) (pe_dget hu (pe_fld (pv 0) rfl) (pv 4) (fun _ _ => rfl)) (nomark _))))) 
          (pss_cons (ps_dput hu (pe_fld (pv 0) rfl) (pv 4) (pe_op op_add (pv 3) (pv 5)) rfl)
          (pss_cons (ps_dput hu (pe_fld (pv 0) rfl) (pv 4) (pv 2) rfl)
          (pss_one (ps_set (i := 1) sc_Reach_to_things.nd rfl (by first | exact Or.inl rfl | exact Or.inr rfl) pe_bl)))) pss_nil)))))))
    (pss_one (ps_ret (pv 1))))), ?_⟩
    obtain ⟨dx, hx⟩ := hA0.ob
    refine ⟨_, rfl, x, cR, dx, _, _, rfl, hx, T.c_Reach, T.n_Reach_freed, reF_freed, fa, _, rfl, hA0.fd, fun H1 lp ts s1 nlp nts _ hlp hpt => ?_⟩
    have hts := paired_at hpt
    have hA1 := hA0.same s1
    refine ⟨lp, rfl, ⟨_, SqL.of hlp⟩, for_list (K := K) (a := lp) (xs := rV ts) (fun i σ H2 => ∃ v2 v3 v4 v5 s, s = thingsT rows d F i (T0, Kt, false) ∧ σ = [some (.ref x), some (.bl s.2.2), v2, v3, v4, v5] ∧ SameBut [fa, ta, ka] H1 H2 ∧ ReAt cR H2 x R D fa ta ka k rows d F s.1 s.2.1)
      ⟨none, none, none, none, _, rfl, rfl, fun _ _ e _ => e, hA1⟩ (fun i σ H2 _ ⟨_, _, _, _, _, _, _, sb, _⟩ => SqL.of (sb _ _ hlp (hA1.kind hlp fun _ z => by cases z))) ?_ ?_⟩
    · rintro i y σ H2 hy ⟨v2, v3, v4, v5, s, hs, rfl, sb, hA⟩
      obtain ⟨t0, ht0, rfl⟩ := rV_get hy
      obtain ⟨⟨a, g⟩, hq, hpa⟩ := hts.at ht0
      have hSi : SI m s := by rw [hs]; exact thingsT_si hmk nr hS i
      have hpa2 : H2 t0 = _ := sb _ _ hpa (hA1.kind hpa fun _ z => by cases z)
      refine ⟨t0, _, rfl, SqT.of hpa2, rfl, _, _, rfl, _, _, rfl, rfl, ?_⟩
      have hal : a < d.length := hFk a (List.mem_map.mpr ⟨(a, g), List.mem_of_getElem? hq, rfl⟩)
      obtain ⟨as, ra, hRl, hra, hrd, hrn⟩ := hA.row (a := a) (by rw [hlen]; exact hal)
      obtain ⟨dx, hx2⟩ := hA.ob
      -- the row is locked
      refine ⟨ra, _, hrd, True.intro, fun od => ?_⟩
      have rx : x ≠ ra := ne_of hx2 hrd (by intro z; cases z)
      have rD : D ≠ ra := ne_of hA.dl hrd (by intro z; cases z)
      have rR : R ≠ ra := ne_of hRl hrd (by intro z; cases z)
      have rf : ra ≠ fa := fun e => hrn (by simp [e])
      have rt : ra ≠ ta := fun e => hrn (by simp [e])
      have rk : ra ≠ ka := fun e => hrn (by simp [e])
      refine ⟨_, rfl, x, cR, dx, _, _, rfl, by rw [upd_ne rx]; exact hx2, T.c_Reach, T.n_Reach_rows, reF_rows, _, rfl, R, _, _, _, rfl, rfl, SqL.of (by rw [upd_ne rR]; exact hRl), atI_nat hra, ra, od, _, rfl, upd_same, ?_⟩
      refine for_items (Pv := fun j σ H4 => ∃ v4 v5 s', s' = rowT rows d a g j s ∧ σ = [some (.ref x), some (.bl s'.2.2), some (.int (a : Nat)), some (.int g), v4, v5] ∧ H4 ra = some (.frz od (.dK (kvG V.int (row rows a)))) ∧
          SameBut [fa, ta, ka] H2 (upd H4 ra (.dK (kvG V.int (row rows a)))) ∧ ReAt cR (upd H4 ra (.dK (kvG V.int (row rows a)))) x R D fa ta ka k rows d F s'.1 s'.2.1)
        ⟨v4, v5, s, rfl, rfl, upd_same, ?_, ?_⟩ (fun j σ H4 _ ⟨_, _, _, _, _, h, _⟩ => h) ?_ ?_
      · rw [upd_upd, upd_self hrd]; exact fun _ _ e _ => e
      · rw [upd_upd, upd_self hrd]; exact hA
      · rintro j kk vv T4 σ H4 hkv nT4 ⟨v4, v5, s', hs', rfl, hr4, sb4, hA4⟩
        obtain ⟨⟨t, w'⟩, hqj, rfl, rfl⟩ := kvG_get hkv
        have hS4 : SI m s' := by rw [hs']; exact rowT_si hmk nr hSi j
        have htm : t < m := hmk a t w' (mem_look (nr a) (List.mem_of_getElem? hqj))
        -- the turn's own pair
        have nra : T4 ≠ ra := (ne_of_none hr4 nT4).symm
        generalize hH5 : upd H4 T4 (.tup [kV (Sum.inl (t : Int)), V.int w']) = H5
        have h45 : Same H4 H5 := by rw [← hH5]; exact same_upd nT4
        have hT5 : H5 T4 = some (.tup [V.int (t : Int), V.int w']) := by rw [← hH5]; exact upd_same
        have r5 := h45 _ _ hr4
        have hun : upd H5 ra (.dK (kvG V.int (row rows a))) = upd (upd H4 ra (.dK (kvG V.int (row rows a)))) T4 (.tup [kV (Sum.inl (t : Int)), V.int w']) := by rw [← hH5, upd_comm nra]
        have hfr : (upd H4 ra (.dK (kvG V.int (row rows a)))) T4 = none := by rw [upd_ne nra]; exact nT4
        have sE : Same (upd H4 ra (.dK (kvG V.int (row rows a)))) (upd H5 ra (.dK (kvG V.int (row rows a)))) := by rw [hun]; exact same_upd hfr
        have hE := hA4.same sE
        have sbE := sb4.trans (.of sE _)
        -- what is read, the row locked
        have off : ∀ {b : Addr} {u : HO}, (upd H5 ra (.dK (kvG V.int (row rows a)))) b = some u → b ≠ ra → H5 b = some u := fun {b u} h hb => by rwa [upd_ne hb] at h
        obtain ⟨dx, hxE⟩ := hE.ob
        have x5 := off hxE rx
        have D5 := off hE.dl rD
        have t5 := off hE.td (Ne.symm rt)
        have k5 := off hE.kd (Ne.symm rk)
        have xt : x ≠ ta := ne_of x5 t5 (by intro z; cases z)
        refine ⟨T4, _, rfl, SqT.of hT5, rfl, _, _, rfl, _, _, rfl, rfl, ?_⟩
        have hS5 : SI m s' := hS4
        -- if thing == self.dealt[asker]: continue
        refine ⟨_, rfl, _, rfl, x, cR, dx, _, _, rfl, x5, T.c_Reach, T.n_Reach_dealt, reF_dealt, _, rfl, D, _, _, _, rfl, rfl, SqL.of D5, atI_nat (dV_at (got_get hal)), oV_scal t _, _, rfl, ?_⟩
        rw [oV_dec]
        have hsucc : rowT rows d a g (j + 1) s = stepT d a g (t, w') s' := by rw [rowT_succ hqj, ← hs']
        refine ite2B (fun e => ?_) (fun e => ?_)
        · have e1 := of_decide_eq_true e
          have hs2 : rowT rows d a g (j + 1) s = s' := by rw [hsucc]; unfold stepT; rw [if_pos e1]
          exact ⟨_, _, s', hs2.symm, rfl, r5, sbE, hE⟩
        · have e1 := of_decide_eq_false e
          -- if thing not in self.taken or gain + worth > self.taken[thing]
          refine ⟨_, rfl, _, rfl, x, cR, dx, _, _, rfl, x5, T.c_Reach, T.n_Reach_taken, reF_taken, ta, _, rfl, DicAt.get t5 t, _, rfl, ?_⟩
          cases hl : look s'.1 t with
          | none =>
            refine iteT (iteT ?_)
            have hs2 : rowT rows d a g (j + 1) s = (put s'.1 t (g + w'), put s'.2.1 t a, true) := by rw [hsucc]; unfold stepT; rw [if_neg e1]; simp only [hl]
            refine ⟨_, rfl, _, rfl, _, _, rfl, rfl, _, rfl, x, cR, dx, _, _, rfl, x5, T.c_Reach, T.n_Reach_taken, reF_taken, _, rfl, ta, _, rfl, DicAt.put t5 hS4.nT (by have := hS4.lenT; omega) t _, ?_⟩
            refine ⟨_, rfl, _, rfl, x, cR, dx, _, _, rfl, by rw [upd_ne xt]; exact x5, T.c_Reach, T.n_Reach_takers, reF_takers, _, rfl, ka, _, rfl, DicN.put (by show upd H5 ta _ ka = _; rw [upd_ne hA.tk.symm]; exact k5) hS4.nK (by have := hS4.lenK; omega) t _, ?_⟩
            refine ⟨_, _, _, hs2.symm, rfl, ?_, ?_, ?_⟩
            · rw [upd_ne rk, upd_ne rt]; exact r5
            · rw [upd_comm (Ne.symm rk), upd_comm (Ne.symm rt)]
              exact sbE.trans ((sameBut_upd (by simp)).trans (sameBut_upd (by simp)))
            · rw [upd_comm (Ne.symm rk), upd_comm (Ne.symm rt)]
              exact (hE.setT).setK
          | some y =>
            have hget := DicAt.get t5 t
            rw [hl] at hget
            refine iteF ⟨_, rfl, _, rfl, _, _, rfl, rfl, _, rfl, x, cR, dx, _, _, rfl, x5, T.c_Reach, T.n_Reach_taken, reF_taken, _, rfl, ta, _, rfl, hget, _, _, rfl, rfl, _, rfl, ?_⟩
            refine ite2B (fun e2 => ?_) (fun e2 => ?_)
            · have e3 := of_decide_eq_true e2
              have hs2 : rowT rows d a g (j + 1) s = (put s'.1 t (g + w'), put s'.2.1 t a, true) := by rw [hsucc]; unfold stepT; rw [if_neg e1]; simp only [hl, e3, if_true]
              refine ⟨_, rfl, _, rfl, _, _, rfl, rfl, _, rfl, x, cR, dx, _, _, rfl, x5, T.c_Reach, T.n_Reach_taken, reF_taken, _, rfl, ta, _, rfl, DicAt.put t5 hS4.nT (by have := hS4.lenT; omega) t _, ?_⟩
              refine ⟨_, rfl, _, rfl, x, cR, dx, _, _, rfl, by rw [upd_ne xt]; exact x5, T.c_Reach, T.n_Reach_takers, reF_takers, _, rfl, ka, _, rfl, DicN.put (by show upd H5 ta _ ka = _; rw [upd_ne hA.tk.symm]; exact k5) hS4.nK (by have := hS4.lenK; omega) t _, ?_⟩
              refine ⟨_, _, _, hs2.symm, rfl, ?_, ?_, ?_⟩
              · rw [upd_ne rk, upd_ne rt]; exact r5
              · rw [upd_comm (Ne.symm rk), upd_comm (Ne.symm rt)]
                exact sbE.trans ((sameBut_upd (by simp)).trans (sameBut_upd (by simp)))
              · rw [upd_comm (Ne.symm rk), upd_comm (Ne.symm rt)]
                exact (hE.setT).setK
            · have e3 := of_decide_eq_false e2
              have hs2 : rowT rows d a g (j + 1) s = s' := by rw [hsucc]; unfold stepT; rw [if_neg e1]; simp only [hl, e3, if_false]
              exact ⟨_, _, s', hs2.symm, rfl, r5, sbE, hE⟩
      · rintro σ H4 ⟨v4, v5, s', hs', rfl, hr4, sb4, hA4⟩
        rw [kvG_len] at hs'
        refine ⟨hr4, _, _, _, _, s', ?_, rfl, sb.trans sb4, hA4⟩
        rw [hs', hs, thingsT_succ hq]
    · rintro σ H2 ⟨v2, v3, v4, v5, s, hs, rfl, sb, hA⟩
      rw [rV_len, hts.1] at hs
      exact ⟨_, rfl, q H2 s hs (SameBut.trans (.of s1 _) sb) hA (by rw [hs]; exact thingsT_si hmk nr hS _)⟩
/-! ### to_askers -/
theorem askersT_keys (rows : List (Al Int)) (d : Deal) (T F : Al Int) (n : Nat) (hn : n ≤ d.length) : ∀ a ∈ keys (askersT rows d T n F), a ∈ keys F ∨ a < d.length := by
  unfold askersT
  refine iter_inv (fun _ F' => ∀ a ∈ keys F', a ∈ keys F ∨ a < d.length) (fun a h => .inl h) n fun i F' hi h => ?_
  unfold stepA
  cases h1 : got d i with
  | none => exact h
  | some t =>
    cases h2 : look T t with
    | none => simp only [h2]; exact h
    | some y =>
      simp only [h2]
      intro a ha
      rcases mem_keys_put.mp ha with e | ha
      · right; rw [e]; omega
      · exact h a ha
def sp_Reach_to_askers (K : PySem.W.Frag) (cS cR cP : Addr) : Sp := fun vs H Q _ => ∃ (x R D fa ta ka : Addr) (k : Nat) (rows : List (Al Int)) (d : Deal) (F T : Al Int) (Kt : Al Nat), vs = [.ref x] ∧ ReAt cR H x R D fa ta ka k rows d F T Kt ∧
  (∀ a t, got d a = some t → ∃ w, look (row rows a) t = some w) ∧ (keys F).Nodup ∧ (∀ a ∈ keys F, a < d.length) ∧ d.length ≤ 7 ∧ rows.length = d.length ∧
  ∀ H', SameBut [fa, ta, ka] H H' → ReAt cR H' x R D fa ta ka k rows d (askersT rows d T d.length F) T Kt → Q .non H'
abbrev nm_Reach_to_askers : List Str := ["self", "asker", "thing"]
theorem sc_Reach_to_askers : FnScope nm_Reach_to_askers ["self"] (defScope s_Reach_to_askers) := ⟨rfl, rfl, rfl, by decide +kernel, rfl, by decide +kernel, by decide +kernel⟩
theorem c_Reach_to_askers (T : Tx K mg cS cR cP) : C8.Met P w K mg base 1 cR "to_askers" (sp_Reach_to_askers K cS cR cP) [] := by
  refine met_of T.c_Reach T.m_Reach_to_askers sc_Reach_to_askers (fun _ _ _ _ _ _ us hl => match us, hl with | [_], _ => rfl) (fun vs H Q E h => ?_) (fun f cdv A outer s H vs Q E hr h => ?_)
  · obtain ⟨x, R, D, fa, ta, ka, k, rows, d, F, T0, Kt, rfl, hA0, hw, nF, hFk, hd7, hlen, q⟩ := h
    rfl
  · obtain ⟨x, R, D, fa, ta, ka, k, rows, d, F, T0, Kt, rfl, hA0, hw, nF, hFk, hd7, hlen, q⟩ := h
    have hu := hu_of hr
    refine ⟨_, 
    (pss_one (ps_for PassesOwn.never rfl (pi_enum (by rfl) T.b_enumerate (pa_cons (pe_fld (pv 0) rfl) pa_nil)) (pg_tup rfl (pgs_cons (pg_name (i := 1) sc_Reach_to_askers.nd rfl (by first | exact Or.inl rfl | exact Or.inr rfl)) (pgs_cons (pg_name (i := 2) sc_Reach_to_askers.nd rfl (by first | exact Or.inl rfl | exact Or.inr rfl)) pgs_nil))) 
      (pss_one (ps_if (pt_cmp (pc_dinN hu (pv 2) (pe_fld (pv 0) rfl))) 
        (pss_one (ps_dput hu (pe_fld (pv 0) rfl) (pv 1) (pe_op op_sub (pe_dget hu (pe_fld (pv 0) rfl) (pv 2) (fun _ _ => rfl)) (pe_dget hu (pe_ix ix_list (pe_fld (pv 0) rfl) (pv 1) (fun _ _ => rfl)) (pv 2) (fun _ _ => rfl))) rfl)) pss_nil)))), ?_⟩
    obtain ⟨dx, hx⟩ := hA0.ob
    refine ⟨_, rfl, x, cR, dx, _, _, rfl, hx, T.c_Reach, T.n_Reach_dealt, reF_dealt, D, _, rfl, SqL.of hA0.dl, for_enum (K := K) (a := D) (xs := dV d) (fun i σ H2 => ∃ v1 v2, σ = [some (.ref x), v1, v2] ∧ SameBut [fa, ta, ka] H H2 ∧ ReAt cR H2 x R D fa ta ka k rows d (askersT rows d T0 i F) T0 Kt)
      ⟨none, none, rfl, fun _ _ e _ => e, hA0⟩ (fun i σ H2 _ ⟨_, _, _, _, hA⟩ => SqL.of hA.dl) ?_ ?_⟩
    · rintro i y T' σ H2 hy nT ⟨v1, v2, rfl, sb, hA⟩
      obtain ⟨o, ho, rfl⟩ := dV_get hy
      have eo : got d i = o := got_of ho
      have hi := (List.getElem?_eq_some_iff.mp ho).1
      have s3 : Same H2 (upd H2 T' (.tup [.int (i : Nat), oV o])) := same_upd nT
      have hA3 := hA.same s3
      have sb3 := sb.trans (.of s3 _)
      generalize hH3 : upd H2 T' (.tup [.int (i : Nat), oV o]) = H3 at hA3 sb3
      have hT3 : H3 T' = some (.tup [.int (i : Nat), oV o]) := by rw [← hH3]; exact upd_same
      obtain ⟨dx, hx3⟩ := hA3.ob
      have hsucc : askersT rows d T0 (i + 1) F = stepA rows d T0 i (askersT rows d T0 i F) := rfl
      refine ⟨T', _, rfl, SqT.of hT3, rfl, _, _, rfl, _, _, rfl, rfl, ?_⟩
      refine ⟨_, rfl, _, rfl, x, cR, dx, _, _, rfl, hx3, T.c_Reach, T.n_Reach_taken, reF_taken, ?_⟩
      cases o with
      | none =>
        refine .inr ⟨ta, _, rfl, rfl, .inl hA3.td, _, rfl, iteF ⟨_, _, rfl, sb3, ?_⟩⟩
        rw [hsucc]; unfold stepA; rw [eo]; exact hA3
      | some t =>
        refine .inl ⟨ta, _, rfl, DicAt.get hA3.td t, _, rfl, ?_⟩
        cases hl : look T0 t with
        | none =>
          refine iteF ⟨_, _, rfl, sb3, ?_⟩
          rw [hsucc]; unfold stepA; rw [eo]; simp only [hl]; exact hA3
        | some yv =>
          obtain ⟨wv, hwv⟩ := hw i t eo
          obtain ⟨as, ra, hRl, hra, hrd, hrn⟩ := hA3.row (a := i) (by rw [hlen]; exact hi)
          have hg1 := DicAt.get hA3.td t
          rw [hl] at hg1
          have hg2 := DicAt.get hrd t
          rw [hwv] at hg2
          have hnd := askersT_nodup rows d T0 nF i
          have hkl : (askersT rows d T0 i F).length ≤ 7 := by
            rw [← length_keys]
            refine Nat.le_trans (nodup_bound d.length _ hnd fun a ha => ?_) hd7
            rcases askersT_keys rows d T0 F i (by omega) a ha with h | h
            · exact hFk a h
            · exact h
          refine iteT ?_
          refine ⟨_, rfl, x, cR, dx, _, _, rfl, hx3, T.c_Reach, T.n_Reach_taken, reF_taken, _, rfl, ta, _, rfl, hg1, _, rfl, x, cR, dx, _, _, rfl, hx3, T.c_Reach, T.n_Reach_rows, reF_rows, _, rfl, R, _, _, _, rfl, rfl, SqL.of hRl, atI_nat hra, _, rfl, ra, _, rfl, hg2, _, _, rfl, rfl, ?_⟩
          refine ⟨_, rfl, x, cR, dx, _, _, rfl, hx3, T.c_Reach, T.n_Reach_freed, reF_freed, _, rfl, fa, _, rfl, DicAt.put hA3.fd hnd (by omega) i _, ?_⟩
          refine ⟨_, _, rfl, sb3.trans (sameBut_upd (by simp)), ?_⟩
          have e2 : askersT rows d T0 (i + 1) F = put (askersT rows d T0 i F) i (yv - wv) := by
            rw [hsucc]; unfold stepA; rw [eo]; simp only [hl, hwv, Option.getD_some]
          rw [e2]
          exact hA3.setF
    · rintro σ H2 ⟨v1, v2, rfl, sb, hA⟩
      rw [dV_len] at hA
      exact q H2 sb hA
/-! ### go_on -/
def sp_Reach_go_on (K : PySem.W.Frag) (cS cR cP : Addr) : Sp := fun vs H Q _ => ∃ (x R D fa ta ka : Addr) (k m : Nat) (rows : List (Al Int)) (cp : Nat → Nat) (d : Deal) (u p : Nat → Int) (M B : Int) (F T : Al Int) (Kt : Al Nat), vs = [.ref x] ∧ ReAt cR H x R D fa ta ka k rows d F T Kt ∧
  RInv rows cp m k d u p M B F T Kt ∧ Exact rows d F T ∧ SI m (T, Kt, false) ∧ m ≤ 6 ∧ (∀ a, (keys (row rows a)).Nodup) ∧ rows.length ≤ 7 ∧
  ∀ H' F' T' K', SameBut [fa, ta, ka] H H' → ReAt cR H' x R D fa ta ka k rows d F' T' K' → Done rows cp m k d u p M B F' T' K' → SI m (T', K', false) → Q .non H'
theorem RInv.Fkeys {rows : List (Al Int)} {cp : Nat → Nat} {m k : Nat} {d : Deal} {u p : Nat → Int} {M B : Int} {F T : Al Int} {Kt : Al Nat} (I : RInv rows cp m k d u p M B F T Kt) : ∀ a ∈ keys F, a < d.length := fun a ha => by
  obtain ⟨q, hq, e⟩ := List.mem_map.mp ha
  subst e
  rcases I.f1 q.1 q.2 (mem_look I.nF hq) with e | ⟨t, w, y, h1, _⟩
  · rw [e, I.C.feas.len]; exact I.kn
  · exact got_lt h1
abbrev nm_Reach_go_on : List Str := ["self"]
theorem sc_Reach_go_on : FnScope nm_Reach_go_on ["self"] (defScope s_Reach_go_on) := ⟨rfl, rfl, rfl, by decide +kernel, rfl, by decide +kernel, by decide +kernel⟩
theorem c_Reach_go_on (T : Tx K mg cS cR cP) : C8.Met P w K mg base 2 cR "go_on" (sp_Reach_go_on K cS cR cP) [] := by
  refine met_of T.c_Reach T.m_Reach_go_on sc_Reach_go_on (fun _ _ _ _ _ _ us hl => match us, hl with | [_], _ => rfl) (fun vs H Q E h => ?_) (fun f cdv A outer s H vs Q E hr h => ?_)
  · obtain ⟨x, R, D, fa, ta, ka, k, m, rows, cp, d, u, p, M, B, F0, T0, K0, rfl, hA0, hI0, hX0, hS0, hm, nr, hn7, q⟩ := h
    rfl
  · obtain ⟨x, R, D, fa, ta, ka, k, m, rows, cp, d, u, p, M, B, F0, T0, K0, rfl, hA0, hI0, hX0, hS0, hm, nr, hn7, q⟩ := h
    have hu := hu_of hr
    refine ⟨_, 
    (pss_one (ps_while PassesOwn.never (pt_val (C8.pe_mt0 (c_Reach_to_things T) hr (by decide) (pv 0))) 
      (pss_one (ps_expr (C8.pe_mt0 (c_Reach_to_askers T) hr (by decide) (pv 0)))))), ?_⟩
    have hlen : rows.length = d.length := hI0.C.feas.len.symm
    refine ⟨fun n σ H1 => ∃ F1 T1 K1, σ = [some (.ref x)] ∧ SameBut [fa, ta, ka] H H1 ∧ ReAt cR H1 x R D fa ta ka k rows d F1 T1 K1 ∧ RInv rows cp m k d u p M B F1 T1 K1 ∧ Exact rows d F1 T1 ∧ SI m (T1, K1, false) ∧ n = mu m p M B T1,
      ⟨_, F0, T0, K0, rfl, fun _ _ e _ => e, hA0, hI0, hX0, hS0, rfl⟩, ?_⟩
    rintro n σ H1 ⟨F1, T1, K1, rfl, sb, hA, hI, hX, hS, rfl⟩
    obtain ⟨dx, hx⟩ := hA.ob
    refine ⟨_, rfl, x, dx, _, rfl, hx, reF_no_to_things, x, R, D, fa, ta, ka, k, m, rows, d, F1, T1, K1, rfl, hA, hS, hm, hI.C.keys, nr, hlen, hI.Fkeys, fun H2 s hs sb2 hA2 hS2 => ⟨_, rfl, ?_⟩⟩
    refine ite2B (fun e => ?_) (fun e => ?_)
    · obtain ⟨hI2, hX2, hmu⟩ := round_of nr hI hs.symm e
      refine ⟨fun σ' H' => ∃ F1 T1' K1, σ' = [some (.ref x)] ∧ SameBut [fa, ta, ka] H H' ∧ ReAt cR H' x R D fa ta ka k rows d F1 T1' K1 ∧ RInv rows cp m k d u p M B F1 T1' K1 ∧ Exact rows d F1 T1' ∧ SI m (T1', K1, false) ∧ mu m p M B T1' < mu m p M B T1, ?_, ?_⟩
      · rintro σ' H' ⟨F3, T3, K3, rfl, h1, h2, h3, h4, h5, h6⟩
        exact ⟨_, h6, F3, T3, K3, rfl, h1, h2, h3, h4, h5, rfl⟩
      · obtain ⟨dx2, hx2⟩ := hA2.ob
        refine ⟨_, rfl, x, dx2, _, rfl, hx2, reF_no_to_askers, x, R, D, fa, ta, ka, k, rows, d, F1, s.1, s.2.1, rfl, hA2, hI.C.feas.wish, hI.nF, hI.Fkeys, by omega, hlen, fun H3 sb3 hA3 => ?_⟩
        exact ⟨_, s.1, s.2.1, rfl, (sb.trans sb2).trans sb3, hA3, hI2, hX2, ⟨hS2.nT, hS2.nK, hS2.bT, hS2.bK⟩, hmu⟩
    · obtain ⟨e1, e2, hD⟩ := done_of nr hI hX hs.symm e
      rw [e1, e2] at hA2
      exact q H2 F1 T1 K1 (sb.trans sb2) hA2 hD hS
end
end WD

set_option Elab.async false
set_option linter.all false
set_option maxRecDepth 100000
set_option maxHeartbeats 4000000
namespace WD
open PySem PySem.Spec PyProof.Rows L2
/-! ### an end -/
def EndV (H : Hp) (v : V) : Option End → Prop
  | none => v = .non
  | some e => ∃ E, v = .ref E ∧ StepAt H E e
theorem EndV.same {H H' : Hp} {v : V} {o : Option End} (h : EndV H v o) (s : Same H H') : EndV H' v o := by
  cases o with
  | none => exact h
  | some e =>
    obtain ⟨E, h1, h2⟩ := h
    exact ⟨E, h1, s _ _ h2⟩
theorem unlock_same {H H4 : Hp} {a : Addr} {u : HO} {od : Obj} (h : H a = some u) (s : Same (upd H a (.frz od u)) H4) : Same H (upd H4 a u) := fun b o e => by
  by_cases hb : b = a
  · subst hb; rw [upd_same, ← h]; exact e
  · rw [upd_ne hb]; exact s _ _ (by rw [upd_ne hb]; exact e)
theorem unlock_free {H H4 : Hp} {a b : Addr} {u : HO} {od : Obj} (h : H a = some u) (hb : H b = none) : (upd H a (.frz od u)) b = none := by
  rw [upd_ne (ne_of_none h hb).symm]; exact hb
theorem EndV.unlock {H : Hp} {a : Addr} {u u' : HO} {od : Obj} {v : V} {o : Option End} (h : EndV H v o) (ha : H a = some (.frz od u)) : EndV (upd H a u') v o := by
  cases o with
  | none => exact h
  | some e =>
    obtain ⟨E, h1, h2⟩ := h
    refine ⟨E, h1, ?_⟩
    show upd H a _ E = _
    rw [upd_ne (ne_of h2 ha (by intro z; cases z))]; exact h2
theorem endF_succ {F : Al Int} {n : Nat} {s : Int × Option End} {q : Nat × Int} (h : F[n]? = some q) : endF F (n + 1) s = stepF q (endF F n s) := by
  show (match F[n]? with | some q => stepF q (endF F n s) | none => endF F n s) = _
  rw [h]
theorem endT_succ {left : Nat → Int} {K : Al Nat} {T : Al Int} {n : Nat} {s : Int × Option End} {q : Nat × Int} (h : T[n]? = some q) : endT left K T (n + 1) s = stepE left K q (endT left K T n s) := by
  show (match T[n]? with | some q => stepE left K q (endT left K T n s) | none => endT left K T n s) = _
  rw [h]
section
variable {P : Program} {w : World} {K : PySem.W.Frag} {mg : Str → Option Value} {base : Heap} {cS cR cP : Addr}
/-! ### end_by -/
def sp_Reach_end_by (K : PySem.W.Frag) (cS cR cP : Addr) : Sp := fun vs H Q _ => ∃ (x R D fa ta ka z : Addr) (k : Nat) (rows : List (Al Int)) (d : Deal) (F T : Al Int) (Kt : Al Nat) (lf : List Int), vs = [.ref x, .ref z] ∧ ReAt cR H x R D fa ta ka k rows d F T Kt ∧
  H z = some (.lst (iV lf)) ∧ (∀ t ∈ keys T, t < lf.length ∧ ∃ b, look Kt t = some b) ∧ (keys T).Nodup ∧
  ∀ H' v, Same H H' → EndV H' v (endT (fun t => lf.getD t 0) Kt T T.length (endF F F.length (0, none))).2 → Q v H'
abbrev nm_Reach_end_by : List Str := ["self", "left", "most", "end", "asker", "gain", "thing"]
theorem sc_Reach_end_by : FnScope nm_Reach_end_by ["self", "left"] (defScope s_Reach_end_by) := ⟨rfl, rfl, rfl, by decide +kernel, rfl, by decide +kernel, by decide +kernel⟩
theorem c_Reach_end_by (T : Tx K mg cS cR cP) : C8.Met P w K mg base 1 cR "end_by" (sp_Reach_end_by K cS cR cP) [] := by
  refine met_of T.c_Reach T.m_Reach_end_by sc_Reach_end_by (fun _ _ _ _ _ _ us hl => match us, hl with | [_, _], _ => rfl) (fun vs H Q E h => ?_) (fun f cdv A outer s H vs Q E hr h => ?_)
  · obtain ⟨x, R, D, fa, ta, ka, z, k, rows, d, F, T0, Kt, lf, rfl, hA, hz, hk, nT, q⟩ := h
    rfl
  · obtain ⟨x, R, D, fa, ta, ka, z, k, rows, d, F, T0, Kt, lf, rfl, hA, hz, hk, nT, q⟩ := h
    have hu := hu_of hr
    refine ⟨_, 
    (pss_cons (ps_set (i := 2) sc_Reach_end_by.nd rfl (by first | exact Or.inl rfl | exact Or.inr rfl) pe_int)
    (pss_cons (ps_set (i := 3) sc_Reach_end_by.nd rfl (by first | exact Or.inl rfl | exact Or.inr rfl) pe_non)
    (pss_cons (ps_lock (ps_for PassesOwn.never rfl (pi_items (pe_fld (pv 0) rfl)) (pg_tup rfl (pgs_cons (pg_name (i := 4) sc_Reach_end_by.nd rfl (by first | exact Or.inl rfl | exact Or.inr rfl)) (pgs_cons (pg_name (i := 5) sc_Reach_end_by.nd rfl (by first | exact Or.inl rfl | exact Or.inr rfl)) pgs_nil))) 
      (pss_one (ps_if (pt_cmpR op_gt (pv 5) (pv 2) (nomark _)) 
        (pss_cons (ps_set (i := 2) sc_Reach_end_by.nd rfl (by first | exact Or.inl rfl | exact Or.inr rfl) (pv 5))
        (pss_one (ps_set (i := 3) sc_Reach_end_by.nd rfl (by first | exact Or.inl rfl | exact Or.inr rfl) (pe_tup (pa_cons (pv 4) (pa_cons pe_non pa_nil)))))) pss_nil))))
    (pss_cons (ps_lock (ps_for PassesOwn.never rfl (pi_items (pe_fld (pv 0) rfl)) (pg_tup rfl (pgs_cons (pg_name (i := 6) sc_Reach_end_by.nd rfl (by first | exact Or.inl rfl | exact Or.inr rfl)) (pgs_cons (pg_name (i := 5) sc_Reach_end_by.nd rfl (by first | exact Or.inl rfl | exact Or.inr rfl)) pgs_nil))) 
      (pss_one (ps_if (PW.pt (pw_and (pt_cmpR op_gt (pe_ix ix_list (pv 1) (pv 6) (fun _ _ => rfl)) pe_int (nomark _)) (pw_and1 (pt_cmpR op_gt (pv 5) (pv 2) (nomark _))))) 
        (pss_cons (ps_set (i := 2) sc_Reach_end_by.nd rfl (by first | exact Or.inl rfl | exact Or.inr rfl) (pv 5))
        (pss_one (ps_set (i := 3) sc_Reach_end_by.nd rfl (by first | exact Or.inl rfl | exact Or.inr rfl) (pe_tup (pa_cons (pe_dget hu (pe_fld (pv 0) rfl) (pv 6) (fun _ _ => rfl)) (pa_cons (pv 6) pa_nil)))))) pss_nil))))
    (pss_one (ps_ret (pv 3))))))), ?_⟩
    obtain ⟨dx, hx⟩ := hA.ob
    have hf := hA.fd
    refine ⟨fa, _, hf, True.intro, fun od => ?_⟩
    have xf : x ≠ fa := ne_of hx hf (by intro z; cases z)
    refine ⟨_, rfl, x, cR, dx, _, _, rfl, by rw [upd_ne xf]; exact hx, T.c_Reach, T.n_Reach_freed, reF_freed, fa, od, _, rfl, upd_same, ?_⟩
    refine for_items (Pv := fun j σ H4 => ∃ v v4 v5 s, s = endF F j (0, none) ∧ σ = [some (.ref x), some (.ref z), some (.int s.1), some v, v4, v5, none] ∧ Same (upd H fa (.frz od (.dK (kvG V.int F)))) H4 ∧ EndV H4 v s.2)
        ⟨.non, none, none, (0, none), rfl, rfl, fun _ _ e => e, rfl⟩ (fun j σ H4 _ ⟨_, _, _, _, _, _, h, _⟩ => h _ _ upd_same) ?_ ?_
    · rintro j kk vv T4 σ H4 hkv nT4 ⟨v, v4, v5, s, hs, rfl, sb, hv⟩
      obtain ⟨⟨a, g⟩, hqj, rfl, rfl⟩ := kvG_get hkv
      have s5 : Same H4 (upd H4 T4 (.tup [kV (Sum.inl (a : Int)), V.int g])) := same_upd nT4
      refine ⟨T4, _, rfl, SqT.of upd_same, rfl, _, _, rfl, _, _, rfl, rfl, ?_⟩
      refine ⟨_, rfl, _, rfl, _, _, rfl, rfl, _, rfl, ?_⟩
      have hsucc : endF F (j + 1) (0, none) = stepF (a, g) s := by rw [endF_succ hqj, ← hs]
      refine ite2B (fun e => ?_) (fun e => ?_)
      · have e1 := of_decide_eq_true e
        refine ⟨_, rfl, _, rfl, (by show 2 ≤ sizeLine; decide), fun E nE => ?_⟩
        refine ⟨_, _, _, (g, some (a, none)), ?_, rfl, sb.trans (s5.trans (same_upd nE)), E, rfl, upd_same⟩
        rw [hsucc]; unfold stepF; rw [if_pos e1]
      · have e1 := of_decide_eq_false e
        refine ⟨_, _, _, s, ?_, rfl, sb.trans s5, hv.same s5⟩
        rw [hsucc]; unfold stepF; rw [if_neg e1]
    · rintro σ H4 ⟨v, v4, v5, s, hs, rfl, sb, hv⟩
      rw [kvG_len] at hs
      have hf4 := sb _ _ upd_same
      have s1 := unlock_same hf sb
      refine ⟨hf4, ?_⟩
      have hv1 := hv.unlock (u' := .dK (kvG V.int F)) hf4
      generalize upd H4 fa (.dK (kvG V.int F)) = H5 at s1 hv1
      have hA5 := hA.same s1
      have hz5 := s1 _ _ hz
      have ht := hA5.td
      have hK5 := hA5.kd
      obtain ⟨dx, hx5⟩ := hA5.ob
      have xt : x ≠ ta := ne_of hx5 ht (by intro z; cases z)
      have zt : z ≠ ta := ne_of hz5 ht (by intro z; cases z)
      refine ⟨ta, _, ht, True.intro, fun ot => ?_⟩
      refine ⟨_, rfl, x, cR, dx, _, _, rfl, by rw [upd_ne xt]; exact hx5, T.c_Reach, T.n_Reach_taken, reF_taken, ta, ot, _, rfl, upd_same, ?_⟩
      refine for_items (Pv := fun j σ H6 => ∃ v v4 v5 v6 s', s' = endT (fun t => lf.getD t 0) Kt T0 j s ∧ σ = [some (.ref x), some (.ref z), some (.int s'.1), some v, v4, v5, v6] ∧ Same (upd H5 ta (.frz ot (.dK (kvG V.int T0)))) H6 ∧ EndV H6 v s'.2)
          ⟨v, v4, v5, none, s, rfl, rfl, fun _ _ e => e, ?_⟩ (fun j σ H4 _ ⟨_, _, _, _, _, _, _, h, _⟩ => h _ _ upd_same) ?_ ?_
      · revert hv1
        cases s.2 with
        | none => exact id
        | some e =>
          rintro ⟨E, h1, h2⟩
          refine ⟨E, h1, ?_⟩
          show upd H5 ta _ E = _
          rw [upd_ne (ne_of h2 ht (by intro z; cases z))]; exact h2
      · rintro j kk vv T4 σ H6 hkv nT4 ⟨v, v4, v5, v6, s', hs', rfl, sb6, hv6⟩
        obtain ⟨⟨t, g⟩, hqj, rfl, rfl⟩ := kvG_get hkv
        have s7 : Same H6 (upd H6 T4 (.tup [kV (Sum.inl (t : Int)), V.int g])) := same_upd nT4
        have sb7 := sb6.trans s7
        have hv7 := hv6.same s7
        have hT7 : (upd H6 T4 (.tup [kV (Sum.inl (t : Int)), V.int g])) T4 = some (.tup [V.int (t : Int), V.int g]) := upd_same
        generalize upd H6 T4 (.tup [kV (Sum.inl (t : Int)), V.int g]) = H7 at s7 sb7 hv7 hT7
        have htk : t ∈ keys T0 := List.mem_map.mpr ⟨(t, g), List.mem_of_getElem? hqj, rfl⟩
        obtain ⟨htl, b, hb⟩ := hk t htk
        have hz7 := sb7 z _ (by rw [upd_ne zt]; exact hz5)
        have hx7 := sb7 x _ (by rw [upd_ne xt]; exact hx5)
        have hk7 := sb7 ka _ (by rw [upd_ne hA.tk.symm]; exact hK5)
        refine ⟨T4, _, rfl, SqT.of hT7, rfl, _, _, rfl, _, _, rfl, rfl, ?_⟩
        have hlt : (iV lf)[t]? = some (.int (lf.getD t 0)) := iV_at (by rw [List.getD_eq_getElem?_getD, List.getElem?_eq_getElem htl]; rfl)
        refine ⟨_, rfl, _, rfl, z, _, _, _, rfl, rfl, SqL.of hz7, atI_nat hlt, _, _, rfl, rfl, ?_⟩
        have hsucc : endT (fun t => lf.getD t 0) Kt T0 (j + 1) s = stepE (fun t => lf.getD t 0) Kt (t, g) s' := by rw [endT_succ hqj, ← hs']
        refine ⟨_, rfl, ite2B (fun e => ?_) (fun e => iteF ?_)⟩
        · have e1 : 0 < lf.getD t 0 := of_decide_eq_true e
          refine ⟨_, rfl, _, rfl, _, _, rfl, rfl, _, rfl, ite2B (fun e2 => ?_) (fun e2 => ?_)⟩
          · have e3 : s'.1 < g := of_decide_eq_true e2
            have hget := DicN.get hk7 t
            rw [hb] at hget
            refine ⟨_, rfl, _, rfl, x, cR, dx, _, _, rfl, hx7, T.c_Reach, T.n_Reach_takers, reF_takers, _, rfl, ka, _, rfl, hget, _, rfl, (by show 2 ≤ sizeLine; decide), fun E nE => ?_⟩
            refine ⟨_, _, _, _, (g, some (b, some t)), ?_, rfl, sb7.trans (same_upd nE), E, rfl, upd_same⟩
            rw [hsucc]; unfold stepE
            rw [if_pos ⟨e1, e3⟩]
            show _ = (g, some ((look Kt t).getD 0, some t))
            rw [hb]; rfl
          · have e3 : ¬ s'.1 < g := of_decide_eq_false e2
            refine ⟨_, _, _, _, s', ?_, rfl, sb7, hv7⟩
            rw [hsucc]; unfold stepE; rw [if_neg fun h => e3 h.2]
        · have e1 : ¬ 0 < lf.getD t 0 := of_decide_eq_false e
          refine ⟨_, _, _, _, s', ?_, rfl, sb7, hv7⟩
          rw [hsucc]; unfold stepE; rw [if_neg fun h => e1 h.1]
      · rintro σ H6 ⟨v, v4, v5, v6, s', hs', rfl, sb6, hv6⟩
        rw [kvG_len] at hs'
        have ht6 := sb6 _ _ upd_same
        refine ⟨ht6, _, rfl, q _ v (s1.trans (unlock_same ht sb6)) ?_⟩
        rw [← hs, ← hs']
        exact hv6.unlock ht6
/-! ### way_to -/
def wayOf (l : List (Nat × Nat)) (ws : List End) : List End := l.reverse.map (fun x => (x.1, some x.2)) ++ ws
theorem wayOf_cons (b t : Nat) (l : List (Nat × Nat)) (ws : List End) : wayOf ((b, t) :: l) ws = wayOf l ((b, some t) :: ws) := by
  unfold wayOf
  rw [List.reverse_cons, List.map_append, List.append_assoc]; rfl
def gone (d : Deal) (ws : List End) : Deal := ws.foldl (fun d e => d.set e.1 e.2) d
theorem gone_way (d : Deal) : ∀ (l : List (Nat × Nat)) (ws : List End), gone d (wayOf l ws) = gone (app d l) ws
  | [], ws => rfl
  | (b, t) :: l, ws => by rw [wayOf_cons, gone_way d l]; rfl
theorem gone_dealt (d : Deal) (l : List (Nat × Nat)) (e : End) : gone d (wayOf l [e]) = dealtBy d l e := by rw [gone_way]; rfl
theorem way_lt {d : Deal} {Kt : Al Nat} {k a : Nat} {l : List (Nat × Nat)} (hk : k < d.length) (h : RPath d Kt k a l) : a < d.length ∧ ∀ b ∈ l.map (·.1), b < d.length := by
  induction h with
  | base => exact ⟨hk, fun b hb => by simp at hb⟩
  | step h1 h2 h3 h4 ih =>
    refine ⟨got_lt h2, fun b hb => ?_⟩
    rcases List.mem_cons.mp hb with e | hb
    · rw [e]; exact ih.1
    · exact ih.2 b hb
theorem way_nodup {d : Deal} {Kt : Al Nat} {k a : Nat} {l : List (Nat × Nat)} (h : RPath d Kt k a l) : (l.map (·.1)).Nodup := by
  induction h with
  | base => exact List.nodup_nil
  | step h1 h2 h3 h4 ih => exact List.nodup_cons.mpr ⟨h4.out, ih⟩
theorem way_len {d : Deal} {Kt : Al Nat} {k a : Nat} {l : List (Nat × Nat)} (hk : k < d.length) (h : RPath d Kt k a l) : l.length ≤ d.length := by
  rw [← List.length_map (f := fun x : Nat × Nat => x.1)]
  exact nodup_bound d.length _ (way_nodup h) (way_lt hk h).2
def sp_Reach_way_to (K : PySem.W.Frag) (cS cR cP : Addr) : Sp := fun vs H Q _ => ∃ (x R D fa ta ka E : Addr) (k : Nat) (rows : List (Al Int)) (d : Deal) (F T : Al Int) (Kt : Al Nat) (e : End) (l : List (Nat × Nat)), vs = [.ref x, .ref E] ∧ ReAt cR H x R D fa ta ka k rows d F T Kt ∧
  StepAt H E e ∧ RPath d Kt k e.1 l ∧ k < d.length ∧ d.length ≤ 7 ∧
  ∀ H' z es, Same H H' → H z = none → H' z = some (.lst (rV es)) → AllAt (StepAt H') es (wayOf l [e]) → Q (.ref z) H'
abbrev nm_Reach_way_to : List Str := ["self", "end", "way", "thing"]
theorem sc_Reach_way_to : FnScope nm_Reach_way_to ["self", "end"] (defScope s_Reach_way_to) := ⟨rfl, rfl, rfl, by decide +kernel, rfl, by decide +kernel, by decide +kernel⟩
theorem c_Reach_way_to (T : Tx K mg cS cR cP) : C8.Met P w K mg base 1 cR "way_to" (sp_Reach_way_to K cS cR cP) [] := by
  refine met_of T.c_Reach T.m_Reach_way_to sc_Reach_way_to (fun _ _ _ _ _ _ us hl => match us, hl with | [_, _], _ => rfl) (fun vs H Q E h => ?_) (fun f cdv A outer s H vs Q E hr h => ?_)
  · obtain ⟨x, R, D, fa, ta, ka, E, k, rows, d, F, T0, Kt, e, l, rfl, hA, hE, hP, hkd, hd7, q⟩ := h
    rfl
  · obtain ⟨x, R, D, fa, ta, ka, E, k, rows, d, F, T0, Kt, e, l, rfl, hA, hE, hP, hkd, hd7, q⟩ := h
    have hu := hu_of hr
    refine ⟨_, 
    (pss_cons (ps_set (i := 2) sc_Reach_way_to.nd rfl (by first | exact Or.inl rfl | exact Or.inr rfl) (pe_lst (pa_cons (pv 1) pa_nil)))
    (pss_cons (ps_while PassesOwn.never (pt_cmpR op_ne (pe_ix ix_tup (pe_ix ix_list (pv 2) pe_int (fun _ _ => rfl)) pe_int (fun _ _ => rfl)) (pe_fld (pv 0) rfl) (nomark _)) 
      (pss_cons (ps_set (i := 3) sc_Reach_way_to.nd rfl (by first | exact Or.inl rfl | exact Or.inr rfl) (pe_ix ix_list (pe_fld (pv 0) rfl) (pe_ix ix_tup (pe_ix ix_list (pv 2) pe_int (fun _ _ => rfl)) pe_int (fun _ _ => rfl)) (fun _ _ => rfl)))
      (pss_one (ps_expr (pe_bm PySem.F.plainAttrs_list PySem.F.slot_list_insert PySem.F.type_list_insert mt_insert (pv 2) (pa_cons pe_int (pa_cons (pe_tup (pa_cons (pe_dget hu (pe_fld (pv 0) rfl) (pv 3) (fun _ _ => rfl)) (pa_cons (pv 3) pa_nil))) pa_nil)))))))
    (pss_one (ps_ret (pv 2))))), ?_⟩
    refine ⟨_, rfl, (by show 1 ≤ sizeLine; decide), fun z nz => ?_⟩
    have s0 : Same H (upd H z (.lst (rV [E]))) := same_upd nz
    refine ⟨fun n σ H1 => ∃ v3 es a o ws l', σ = [some (.ref x), some (.ref E), some (.ref z), v3] ∧ Same H H1 ∧ H1 z = some (.lst (rV es)) ∧ AllAt (StepAt H1) es ((a, o) :: ws) ∧ RPath d Kt k a l' ∧ wayOf l' ((a, o) :: ws) = wayOf l [e] ∧ ws.length + l'.length = l.length ∧ n = l'.length,
      ⟨_, none, [E], e.1, e.2, [], l, rfl, s0, upd_same, ⟨rfl, fun i b y h1 h2 => ?_⟩, hP, rfl, by simp, rfl⟩, ?_⟩
    · cases i with
      | zero =>
        cases h1; cases h2
        exact s0 _ _ hE
      | succ i => simp at h1
    rintro n σ H1 ⟨v3, es, a, o, ws, l', rfl, s1, hz, hes, hP', hw, hlen, rfl⟩
    have hA1 := hA.same s1
    obtain ⟨dx, hx⟩ := hA1.ob
    obtain ⟨E1, hE1, hst⟩ := hes.at' (i := 0) (x := (a, o)) rfl
    have hll := way_len hkd hP
    refine ⟨_, rfl, z, _, _, _, rfl, rfl, SqL.of hz, (atI_nat (j := 0) (rV_at hE1)), E1, _, _, _, rfl, rfl, SqT.of hst, rfl, ?_⟩
    refine ⟨_, rfl, x, cR, dx, _, _, rfl, hx, T.c_Reach, T.n_Reach_start, reF_start, rfl, _, rfl, ite2B (fun h => ?_) (fun h => ?_)⟩
    · have hak : a ≠ k := by
        intro e
        subst e
        simp at h
      cases hP' with
      | base => exact absurd rfl hak
      | @step _ t b l2 h1 h2 h3 h4 =>
        refine ⟨fun σ' H' => ∃ v3 es a o ws l', σ' = [some (.ref x), some (.ref E), some (.ref z), v3] ∧ Same H H' ∧ H' z = some (.lst (rV es)) ∧ AllAt (StepAt H') es ((a, o) :: ws) ∧ RPath d Kt k a l' ∧ wayOf l' ((a, o) :: ws) = wayOf l [e] ∧ ws.length + l'.length = l.length ∧ l'.length < ((b, t) :: l2).length, ?_, ?_⟩
        · rintro σ' H' ⟨v3, es, a, o, ws, l', rfl, g1, g2, g3, g4, g5, g6, g7⟩
          exact ⟨_, g7, v3, es, a, o, ws, l', rfl, g1, g2, g3, g4, g5, g6, rfl⟩
        have hat : (dV d)[a]? = some (oV (some t)) := dV_at (by rw [got_get (got_lt h2), h2])
        have hget := DicN.get hA1.kd t
        rw [h3] at hget
        refine ⟨_, rfl, x, cR, dx, _, _, rfl, hx, T.c_Reach, T.n_Reach_dealt, reF_dealt, _, rfl, z, _, _, _, rfl, rfl, SqL.of hz, (atI_nat (j := 0) (rV_at hE1)), E1, _, _, _, rfl, rfl, SqT.of hst, rfl, D, _, _, _, rfl, rfl, SqL.of hA1.dl, atI_nat hat, ?_⟩
        refine ⟨_, rfl, .inl ⟨rfl, _, SqL.of hz⟩, _, rfl, x, cR, dx, _, _, rfl, hx, T.c_Reach, T.n_Reach_takers, reF_takers, _, rfl, ka, _, rfl, hget, _, rfl, (by show 2 ≤ sizeLine; decide), fun E2 nE2 => ?_⟩
        have s2 : Same H1 (upd H1 E2 (.tup [.int b, .int t])) := same_upd nE2
        have hz2 := s2 _ _ hz
        refine ⟨z, _, 0, _, rfl, rfl, hz2, ?_, by decide, by decide, ?_⟩
        · have := hes.1
          rw [rV_len, this, List.length_cons]
          rw [List.length_cons] at hlen
          exact small1000 (by omega)
        refine ⟨_, E2 :: es, b, some t, (a, o) :: ws, l2, rfl, fun b' u' e' => ?_, ?_, ⟨?_, ?_⟩, h4, ?_, ?_, by simp⟩
        · rw [upd_ne (ne_of_none e' nz)]; exact s2 _ _ (s1 _ _ e')
        · rw [upd_same]; rfl
        · rw [List.length_cons, List.length_cons, hes.1]
        · intro i b' y' g1 g2
          have hne : ∀ {b' : Addr} {y : End}, StepAt (upd H1 E2 (.tup [.int b, .int t])) b' y → StepAt (upd (upd H1 E2 (.tup [.int b, .int t])) z (.lst ([V.ref E2] ++ rV es))) b' y := fun {b' y} hh => by
            show upd _ z _ b' = _
            rw [upd_ne (ne_of hh hz2 (by intro z; cases z))]; exact hh
          cases i with
          | zero =>
            cases g1; cases g2
            exact hne upd_same
          | succ i => exact hne (s2 _ _ (hes.2 i b' y' g1 g2))
        · rw [← hw, wayOf_cons]
        · rw [List.length_cons, ← hlen, List.length_cons]; omega
    · have hak : a = k := by
        simp at h
        omega
      subst hak
      cases hP' with
      | step h1 => exact absurd rfl h1
      | base =>
        refine ⟨_, rfl, q H1 z es s1 nz hz ?_⟩
        rw [← hw]; exact hes
end
end WD

set_option Elab.async false
set_option linter.all false
set_option maxRecDepth 100000
set_option maxHeartbeats 4000000
namespace WD
open PySem PySem.Spec PyProof.Rows L2
/-! ### weights, in plain -/
theorem byo_pos {o : Str} {b R r : Nat} (hb : 1 ≤ b) (hr : r ≤ R) : 0 ≤ byo o b R r := by
  unfold byo
  have h1 : b ^ (r - 1) ≤ b ^ R := Nat.pow_le_pow_right hb (by omega)
  split
  · omega
  · split <;> omega
theorem rk_lg (W : Wish) (a t : Nat) : rk (W.2.getD a []) t ≤ lg W.2 := by
  by_cases h : a < W.2.length
  · refine Nat.le_trans rk_le (lg_ge ?_)
    rw [List.getD_eq_getElem?_getD, List.getElem?_eq_getElem h]
    exact List.getElem_mem h
  · rw [getD_out (by omega)]
    exact Nat.zero_le _
theorem wW_pos (o : Str) (old : Option (List (Option Nat))) (W : Wish) (a t : Nat) : 0 ≤ wW o old W a t := by
  unfold wW wofr
  have h1 : 0 ≤ byo o (W.2.length + 1) (lg W.2) (rk (W.2.getD a []) t) := byo_pos (by omega) (rk_lg W a t)
  have h2 := Int.mul_nonneg h1 (show (0 : Int) ≤ ((W.2.length + 1 : Nat) : Int) by omega)
  have h3 : (0 : Int) ≤ (if hadOld old a t = true then 1 else 0) := by split <;> decide
  omega
theorem al_bound : ∀ r : Al Int, ∃ B : Int, 0 ≤ B ∧ ∀ t w, look r t = some w → w ≤ B
  | [] => ⟨0, Int.le_refl _, fun t w h => by simp [look] at h⟩
  | q :: r => by
    obtain ⟨B, h0, h1⟩ := al_bound r
    refine ⟨max B q.2, by omega, fun t w h => ?_⟩
    by_cases e2 : q.1 = t
    · have : look (q :: r) t = some q.2 := by simp [look, e2]
      rw [this] at h; cases h; omega
    · have h3 : look (q :: r) t = look r t := by simp [look, e2]
      rw [h3] at h
      have := h1 t w h
      omega
theorem rows_bound : ∀ rows : List (Al Int), ∃ B : Int, 0 ≤ B ∧ ∀ r ∈ rows, ∀ t w, look r t = some w → w ≤ B
  | [] => ⟨0, Int.le_refl _, fun r h => by simp at h⟩
  | r :: rows => by
    obtain ⟨B, h0, h1⟩ := rows_bound rows
    obtain ⟨C, h2, h3⟩ := al_bound r
    refine ⟨max B C, by omega, fun r' h t w hl => ?_⟩
    rcases List.mem_cons.mp h with e | e
    · subst e; have := h3 t w hl; omega
    · have := h1 r' e t w hl; omega
theorem rows_bound' (rows : List (Al Int)) : ∃ B : Int, 0 ≤ B ∧ ∀ a t w, look (row rows a) t = some w → w ≤ B := by
  obtain ⟨B, h0, h1⟩ := rows_bound rows
  refine ⟨B, h0, fun a t w h => h1 (row rows a) ?_ t w h⟩
  have := row_lt h
  have h2 := row_get this
  exact List.mem_of_getElem? h2
/-- the left copies, as the program keeps them -/
theorem lf_fun (cp : List Nat) (d : Deal) (h : ∀ a t, got d a = some t → t < cp.length) : (fun t => (lf cp d).getD t 0) = fun t => ((cp.getD t 0 : Nat) : Int) - cnt d t := by
  funext t
  by_cases ht : t < cp.length
  · rw [List.getD_eq_getElem?_getD, lf_at ht]; rfl
  · have h1 : (lf cp d).getD t 0 = 0 := getD_out (by rw [lf_len]; omega)
    have h2 : cp.getD t 0 = 0 := getD_out (by omega)
    have h3 : cnt d t = 0 := by
      unfold cnt
      rw [List.count_eq_zero]
      intro hm
      obtain ⟨i, hi, e⟩ := List.mem_iff_getElem.mp hm
      exact ht (h i t (got_of (by rw [List.getElem?_eq_getElem hi, e])))
    show (lf cp d).getD t 0 = _
    rw [h1, h2, h3]; rfl
section
variable {P : Program} {w : World} {K : PySem.W.Frag} {mg : Str → Option Value} {base : Heap} {cS cR cP : Addr}
/-! ### best_way -/
def sp_best_way : Sp := fun vs H Q _ => ∃ (R c D : Addr) (rows : List (Al Int)) (cp : List Nat) (d : Deal) (k : Nat) (u p : Nat → Int), vs = [.ref R, .ref c, .ref D, .int k] ∧ RowsAt H R rows ∧ H c = some (.lst (nV cp)) ∧ H D = some (.lst (dV d)) ∧
  Cert rows (fun t => cp.getD t 0) cp.length k d u p ∧ k < rows.length ∧ rows.length ≤ 7 ∧ cp.length ≤ 6 ∧ (∀ a, (keys (row rows a)).Nodup) ∧ (∀ a t w, look (row rows a) t = some w → 0 ≤ w) ∧
  ∀ H' z es ws u' p', Same H H' → H z = none → H' z = some (.lst (rV es)) → AllAt (StepAt H') es ws → (∀ e ∈ ws, e.1 < rows.length) → Cert rows (fun t => cp.getD t 0) cp.length (k + 1) (gone d ws) u' p' → Q (.ref z) H'
abbrev nm_best_way : List Str := ["rows", "copies", "dealt", "start", "reach", "end"]
theorem sc_best_way : FnScope nm_best_way ["rows", "copies", "dealt", "start"] (defScope s_best_way) := ⟨rfl, rfl, rfl, by decide +kernel, rfl, by decide +kernel, by decide +kernel⟩
theorem c_best_way (T : Tx K mg cS cR cP) : C8.Cal P w K mg base 3 "best_way" sp_best_way [] := by
  refine cal_of T.d_best_way sc_best_way (fun _ _ _ _ _ _ us hl => match us, hl with | [_, _, _, _], _ => rfl) (fun vs H Q E h => ?_) (fun f cdv A outer s H vs Q E hr h => ?_)
  · obtain ⟨R, c, D, rows, cp, d, k, u, p, rfl, hR, hc, hD, hC, hk, h7, h6, nr, w0, q⟩ := h
    rfl
  · obtain ⟨R, c, D, rows, cp, d, k, u, p, rfl, hR, hc, hD, hC, hk, h7, h6, nr, w0, q⟩ := h
    have hu := hu_of hr
    refine ⟨_, 
    (pss_cons (ps_set (i := 4) sc_best_way.nd rfl (by first | exact Or.inl rfl | exact Or.inr rfl) (C8.pe_mk (k_Reach T) hr (by decide) rfl (pa_cons (pv 0) (pa_cons (pv 2) (pa_cons (pv 3) pa_nil)))))
    (pss_cons (ps_expr (C8.pe_mt0 (c_Reach_go_on T) hr (by decide) (pv 4)))
    (pss_cons (ps_set (i := 5) sc_best_way.nd rfl (by first | exact Or.inl rfl | exact Or.inr rfl) (C8.pe_mt (c_Reach_end_by T) hr (by decide) (pv 4) (pa_cons (C8.pe_c (c_left_by T) hr (by decide) rfl (pa_cons (pv 1) (pa_cons (pv 2) pa_nil))) pa_nil)))
    (pss_cons (ps_if (pt_cmpR op_isN (pv 5) pe_non (nomark _)) 
      (pss_one (ps_ret (pe_lst pa_nil))) pss_nil)
    (pss_one (ps_ret (C8.pe_mt (c_Reach_way_to T) hr (by decide) (pv 4) (pa_cons (pv 5) pa_nil)))))))), ?_⟩
    obtain ⟨B, B0, wB⟩ := rows_bound' rows
    obtain ⟨hI, hX⟩ := rinv_start hC hk B0 (fun a t w h => ⟨w0 a t w h, wB a t w h⟩)
    have hdl := hC.feas.len
    refine ⟨_, rfl, _, rfl, _, rfl, fun x dx nx ndx nex => ?_⟩
    have sx : Same H (upd (upd H dx (.own x)) x (.ins cR dx [])) := fun b u e => by
      rw [upd_ne (ne_of_none e nx), upd_ne (ne_of_none e ndx)]; exact e
    have hx1 : ∀ b ∈ [x], H b = none := fun b hb => by
      have : b = x := by simpa using hb
      rw [this]; exact nx
    refine ⟨x, dx, R, D, k, rows, d, rfl, upd_same, hR.same (hid_new sx hx1), sx _ _ hD, fun H1 fa ta ka sb1 hA1 nfa nta nka => ⟨rfl, ?_⟩⟩
    have s1 : Same H H1 := fun b u e => sb1 b u (sx b u e) (fun q => by rw [hx1 b q] at e; cases e)
    have free : ∀ {b : Addr}, (upd (upd H dx (.own x)) x (.ins cR dx [])) b = none → H b = none := fun {b} h => sx.free h
    have hm0 : ∀ b ∈ [fa, ta, ka], H b = none := fun b hb => by
      simp only [List.mem_cons, List.not_mem_nil, or_false] at hb
      rcases hb with e | e | e <;> subst e
      · exact free nfa
      · exact free nta
      · exact free nka
    -- reach.go_on()
    obtain ⟨dx1, hxx⟩ := hA1.ob
    refine ⟨_, rfl, x, dx1, _, rfl, hxx, reF_no_go_on, x, R, D, fa, ta, ka, k, cp.length, rows, _, d, u, p, B, B, _, _, _, rfl, hA1, hI, hX, ⟨List.nodup_nil, List.nodup_nil, (fun t h => by simp [keys] at h), (fun t h => by simp [keys] at h)⟩, h6, nr, h7, fun H2 F T0 Kt sb2 hA2 hDn hSI => ?_⟩
    have s2 : Same H H2 := fun b u e => sb2 b u (s1 b u e) (fun q => by rw [hm0 b q] at e; cases e)
    -- end = reach.end_by(left_by(copies, dealt))
    obtain ⟨dx2, hx2⟩ := hA2.ob
    have hlt : ∀ a t, got d a = some t → t < cp.length := fun a t h => by
      obtain ⟨w', hw'⟩ := hC.feas.wish a t h
      exact hC.keys a t w' hw'
    refine ⟨_, rfl, x, dx2, _, rfl, hx2, reF_no_end_by, _, rfl, _, rfl, c, D, cp, d, rfl, s2 _ _ hc, s2 _ _ hD, fun t ht => ?_, fun H3 zl s3 nzl hzl => ?_⟩
    · obtain ⟨i, hi, e⟩ := List.mem_iff_getElem.mp ht
      exact hlt i t (got_of (by rw [List.getElem?_eq_getElem hi, e]))
    have hTk : ∀ t ∈ keys T0, ∃ y, look T0 t = some y := fun t ht => by
      obtain ⟨pq, h1, h2⟩ := List.mem_map.mp ht
      exact ⟨pq.2, by rw [← h2]; exact mem_look hSI.nT h1⟩
    refine ⟨x, R, D, fa, ta, ka, zl, k, rows, d, F, T0, Kt, lf cp d, rfl, hA2.same s3, hzl, fun t ht => ?_, hSI.nT, fun H4 v s4 hv => ?_⟩
    · obtain ⟨y, hy⟩ := hTk t ht
      obtain ⟨g1, b, _, _, g2, _⟩ := hDn.I.t1 t y hy
      exact ⟨by rw [lf_len]; exact g1, b, g2⟩
    rw [lf_fun cp d hlt] at hv
    have hE := end_ok (F := F) (T := T0) (K := Kt) (fun t => ((cp.getD t 0 : Nat) : Int) - cnt d t) hDn.I.nF hSI.nT
    generalize endT (fun t => ((cp.getD t 0 : Nat) : Int) - cnt d t) Kt T0 T0.length (endF F F.length (0, none)) = se at hv hE
    have s24 := s2.trans (s3.trans s4)
    have hA4 := hA2.same (s3.trans s4)
    obtain ⟨sv, so⟩ := se
    cases so with
    | none =>
      have hv' : v = .non := hv
      subst hv'
      refine ⟨_, rfl, rfl, true, rfl, iteT ?_⟩
      refine ⟨Nat.zero_le _, fun z nz => ?_⟩
      obtain ⟨u', p', hC'⟩ := Done.cert hDn hE d (.inl ⟨rfl, rfl⟩)
      exact q _ z [] [] u' p' (s24.trans (same_upd nz)) (s24.free nz) upd_same AllAt.nil (fun e h => by simp at h) hC'
    | some e =>
      obtain ⟨E, hvE, hSt⟩ := hv
      subst hvE
      refine ⟨_, rfl, rfl, false, rfl, iteF ?_⟩
      obtain ⟨dx4, hx4⟩ := hA4.ob
      -- the way
      have hre : ∃ y, look F e.1 = some y := by
        obtain ⟨_, h⟩ := hE.some_ e rfl
        rcases h with ⟨_, h⟩ | ⟨t, _, h2, h3, h4⟩
        · exact ⟨_, h⟩
        · obtain ⟨_, b, y, _, g2, g3, _⟩ := hDn.I.t1 t _ h2
          rw [g2] at h4
          exact ⟨y, by rw [h4]; exact g3⟩
      obtain ⟨y, hy⟩ := hre
      obtain ⟨l, hP⟩ := RInv.path hDn.I hy
      obtain ⟨u', p', hC'⟩ := Done.cert hDn hE (dealtBy d l e) (.inr ⟨e, l, rfl, hP, rfl⟩)
      refine ⟨_, rfl, x, dx4, _, rfl, hx4, reF_no_way_to, _, rfl, x, R, D, fa, ta, ka, E, k, rows, d, F, T0, Kt, e, l, rfl, hA4, hSt, hP, by omega, by omega, fun H5 z es s5 nz hz hes => ?_⟩
      refine q H5 z es _ u' p' (s24.trans s5) (s24.free nz) hz hes (fun e' he' => ?_) (by rw [gone_dealt]; exact hC')
      unfold wayOf at he'
      have hb := way_lt (by omega) hP
      rcases List.mem_append.mp he' with h | h
      · obtain ⟨bt, h1, h2⟩ := List.mem_map.mp h
        subst h2
        have := hb.2 bt.1 (List.mem_map.mpr ⟨bt, List.mem_reverse.mp h1, rfl⟩)
        show bt.1 < _; omega
      · have : e' = e := by simpa using h
        rw [this]; have := hb.1; omega
/-! ### dealt_best -/
def cpf (cp : List Nat) : Nat → Nat := fun t => cp.getD t 0
theorem RowsOk.keys_lt {o : Str} {old : Option (List (Option Nat))} {W : Wish} {rows : List (Al Int)} (h : RowsOk o old W rows) (hV : VW W) (a t : Nat) (w : Int) (hl : look (row rows a) t = some w) : t < W.1.length := by
  have h1 := ((h.iff a t w).mp hl).1
  have ha : a < W.2.length := by
    by_cases q : a < W.2.length
    · exact q
    · rw [getD_out (by omega)] at h1; simp at h1
  have hVr : VR W.1.length (W.2.getD a []) := by
    rw [List.getD_eq_getElem?_getD, List.getElem?_eq_getElem ha]
    exact hV.rs _ (List.getElem_mem ha)
  exact hVr.lt t h1
theorem RowsOk.pos {o : Str} {old : Option (List (Option Nat))} {W : Wish} {rows : List (Al Int)} (h : RowsOk o old W rows) (a t : Nat) (w : Int) (hl : look (row rows a) t = some w) : 0 ≤ w := by
  have h1 := ((h.iff a t w).mp hl).2
  rw [h1]; exact wW_pos o old W a t
theorem gone_take {d : Deal} {ws : List End} {i : Nat} {e : End} (h : ws[i]? = some e) : gone d (ws.take (i + 1)) = (gone d (ws.take i)).set e.1 e.2 := by
  rw [take_one h]
  unfold gone
  rw [List.foldl_append]; rfl
theorem gone_len (d : Deal) : ∀ ws : List End, (gone d ws).length = d.length := fun ws => by
  induction ws generalizing d with
  | nil => rfl
  | cons e ws ih =>
    show (gone (d.set e.1 e.2) ws).length = _
    rw [ih, List.length_set]
theorem dV_set (d : Deal) (a : Nat) (o : Option Nat) : (dV d).set a (oV o) = dV (d.set a o) := by
  unfold dV
  rw [List.map_set]
def sp_dealt_best : Sp := fun vs H Q _ => ∃ (p a : Addr) (W : Wish) (o : Str) (old : Option (List (Option Nat))), vs = [.ref p, .ref a] ∧ WAt H p W ∧ VW W ∧ AimAt H a o old ∧ Ord o ∧ OldOk W old ∧
  ∀ H' z (rows : List (Al Int)) d u pp, Same H H' → H z = none → H' z = some (.lst (dV d)) → RowsOk o old W rows → Cert rows (fun t => W.1.getD t 0) W.1.length rows.length d u pp → Q (.ref z) H'
abbrev nm_dealt_best : List Str := ["wishes", "aim", "rows", "dealt", "row", "asker", "one", "thing"]
theorem sc_dealt_best : FnScope nm_dealt_best ["wishes", "aim"] (defScope s_dealt_best) := ⟨rfl, rfl, rfl, by decide +kernel, rfl, by decide +kernel, by decide +kernel⟩
theorem c_dealt_best (T : Tx K mg cS cR cP) : C8.Cal P w K mg base 10 "dealt_best" sp_dealt_best [] := by
  refine cal_of T.d_dealt_best sc_dealt_best (fun _ _ _ _ _ _ us hl => match us, hl with | [_, _], _ => rfl) (fun vs H Q E h => ?_) (fun f cdv A outer s H vs Q E hr h => ?_)
  · obtain ⟨p, a, W, o, old, rfl, hW, hV, hA, ho, hK, q⟩ := h
    rfl
  · obtain ⟨p, a, W, o, old, rfl, hW, hV, hA, ho, hK, q⟩ := h
    have hu := hu_of hr
    refine ⟨_, 
    (pss_cons (ps_set (i := 2) sc_dealt_best.nd rfl (by first | exact Or.inl rfl | exact Or.inr rfl) (C8.pe_c (c_rows_by T) hr (by decide) rfl (pa_cons (pv 0) (pa_cons (pv 1) pa_nil))))
    (pss_cons (ps_setLc (i := 3) (own := [("row", 4)]) (g := gName 4) (tt := tYes) rfl sc_dealt_best.nd rfl rfl (sw_true rfl rfl rfl (by decide +kernel)) (pi_list (pv 2)) (blkOk_by (own := [("row", 4)]) (N := nm_dealt_best) (sc := defScope s_dealt_best) (by decide +kernel)) (fun _ _ _ _ _ => (pg_name (i := 4) sc_dealt_best.nd rfl (by first | exact Or.inl rfl | exact Or.inr rfl))) (fun _ _ _ _ _ => pts_nil) (fun _ _ _ _ _ => pe_non))
    (pss_cons (ps_for PassesOwn.never rfl (pi_range1 rfl T.b_range (pa_cons (pe_callB call_len_seq (by rfl) T.b_len bo_len (pa_cons (pv 2) pa_nil)) pa_nil)) (pg_name (i := 5) sc_dealt_best.nd rfl (by first | exact Or.inl rfl | exact Or.inr rfl)) 
      (pss_one (ps_for PassesOwn.never rfl (pi_list (C8.pe_c (c_best_way T) hr (by decide) rfl (pa_cons (pv 2) (pa_cons (pe_ix ix_tup (pv 0) pe_int (fun _ _ => rfl)) (pa_cons (pv 3) (pa_cons (pv 5) pa_nil)))))) (pg_tup rfl (pgs_cons (pg_name (i := 6) sc_dealt_best.nd rfl (by first | exact Or.inl rfl | exact Or.inr rfl)) (pgs_cons (pg_name (i := 7) sc_dealt_best.nd rfl (by first | exact Or.inl rfl | exact Or.inr rfl)) pgs_nil))) 
        (pss_one (ps_asg (pv 7) (pg_sub (pv 3) (pv 6) set_list))))))
    (pss_one (ps_ret (pv 3)))))), ?_⟩
    refine ⟨_, rfl, _, rfl, p, a, W, o, old, rfl, hW, hV, hA, ho, hK, fun H1 R rows s1 hR hRows => ?_⟩
    obtain ⟨c, l, hp, hc, bs, hl, hbs⟩ := hW.same s1
    obtain ⟨as, hRl, has⟩ := hR
    have hlen := hRows.len
    have hl7 := hV.l7
    -- dealt = [None for row in rows]
    refine ⟨_, rfl, R, rfl, ⟨_, SqL.of hRl⟩, fun D nD => ?_⟩
    refine lc_list (K := K) (a := R) (xs := rV as) (fun i H2 => Same H1 H2 ∧ H2 D = some (.lst (dV (List.replicate i none)))) ⟨same_upd nD, upd_same⟩ (fun i H2 _ ⟨s2, _⟩ => SqL.of (s2 _ _ hRl)) ?_ ?_
    · rintro i y H2 hy ⟨s2, hD⟩
      refine ⟨rfl, ?_⟩
      have hi := (List.getElem?_eq_some_iff.mp hy).1
      rw [rV_len, has.1] at hi
      refine ⟨_, hD, ?_, fun b u h => ?_, ?_⟩
      · rw [dV_len, List.length_replicate]; exact small1000 (by omega)
      · rw [upd_ne (ne_of_none h nD)]; exact s2 _ _ h
      · rw [upd_same, List.replicate_succ']; unfold dV; rw [List.map_append]; rfl
    · rintro H2 ⟨s2, hD⟩
      rw [rV_len, has.1] at hD
      have hR2 := s2 _ _ hRl
      have hRR2 : RowsAt H2 R rows := ⟨as, hR2, has.mono fun _ _ h => s2 _ _ h⟩
      have hRD : RowsAt (hid [D] H2) R rows := RowsAt.same (hid_new s2 (fun b hb => by
        have : b = D := by simpa using hb
        rw [this]; exact nD)) ⟨as, hRl, has⟩
      have s12 := s1.trans s2
      -- for asker in range(len(rows))
      refine ⟨_, rfl, R, _, rfl, .inl (SqL.of hR2), _, rfl, by rw [rV_len, has.1]; omega, by rw [rV_len, has.1]; omega, for_range (lo := 0) (n := ((rV as).length : Int).toNat) (fun i σ H3 => ∃ v5 v6 v7 d u pp, σ = [some (.ref p), some (.ref a), some (.ref R), some (.ref D), none, v5, v6, v7] ∧ Same H H3 ∧ RowsAt (hid [D] H3) R rows ∧ H3 D = some (.lst (dV d)) ∧
          Cert rows (fun t => W.1.getD t 0) W.1.length i d u pp) ⟨none, none, none, _, _, _, rfl, s12, hRD, hD, cert_start _ (hRows.keys_lt hV)⟩ ?_ ?_⟩
      · rintro i σ H3 hi ⟨v5, v6, v7, d, u, pp, rfl, s3, hRD3, hD3, hC⟩
        have hi' : i < rows.length := by
          have := has.1
          rw [rV_len] at hi; omega
        have hdl := hC.feas.len
        obtain ⟨c3, l3, hp3, hc3, _⟩ := hW.same s3
        -- for one, thing in best_way(rows, wishes[0], dealt, asker)
        have hR3 : RowsAt H3 R rows := hRD3.same hid_same
        refine ⟨_, rfl, _, rfl, p, _, _, _, rfl, rfl, SqT.of hp3, rfl, _, rfl, _, rfl, R, c3, D, rows, W.1, d, i, u, pp, by rw [Int.zero_add]; rfl, hR3, hc3, hD3, hC, hi', by omega, hV.c6, hRows.nd, hRows.pos, fun H4 z es ws u' p' s4 nz hz hes hws hC' => ?_⟩
        have Dz : D ≠ z := ne_of_none hD3 nz
        refine ⟨z, rfl, ⟨_, SqL.of hz⟩, for_list (K := K) (a := z) (xs := rV es) (fun j σ H5 => ∃ v6 v7, σ = [some (.ref p), some (.ref a), some (.ref R), some (.ref D), none, some (.int (0 + (i : Int))), v6, v7] ∧ SameBut [D] H4 H5 ∧ H5 D = some (.lst (dV (gone d (ws.take j)))))
          ⟨_, _, rfl, fun _ _ e _ => e, s4 _ _ hD3⟩ (fun j σ H5 _ ⟨_, _, _, sb, _⟩ => SqL.of (sb _ _ hz (by simpa using Dz.symm))) ?_ ?_⟩
        · rintro j y σ H5 hy ⟨v6, v7, rfl, sb, hD5⟩
          obtain ⟨E, hE, rfl⟩ := rV_get hy
          obtain ⟨e, he, hst⟩ := hes.at hE
          have hst5 := sb E _ hst (by
            have : E ≠ D := ne_of hst (s4 _ _ hD3) (by intro z; cases z)
            simpa using this)
          have hel := hws e (List.mem_of_getElem? he)
          refine ⟨E, _, rfl, SqT.of hst5, rfl, _, _, rfl, _, _, rfl, rfl, ?_⟩
          refine ⟨_, rfl, _, rfl, _, rfl, D, _, _, e.1, rfl, rfl, hD5, ?_, ?_⟩
          · unfold ixN
            rw [dV_len, gone_len, if_pos (by omega), if_pos (by omega)]; simp
          · refine ⟨_, _, rfl, sb.trans (sameBut_upd (by simp)), ?_⟩
            rw [upd_same, dV_set, gone_take he]
        · rintro σ H5 ⟨v6, v7, rfl, sb, hD5⟩
          rw [rV_len, hes.1, List.take_length] at hD5
          refine ⟨_, _, _, _, u', p', rfl, fun b o e => sb b o (s4 _ _ (s3 _ _ e)) (by
            have : b ≠ D := fun z => by
              rw [z, s1.free nD] at e; cases e
            simpa using this), (hRD3.same (hid_mono (.of s4 _))).same (hid_mono sb), hD5, hC'⟩
      · rintro σ H3 ⟨v5, v6, v7, d, u, pp, rfl, s3, hRD3, hD3, hC⟩
        refine ⟨_, rfl, q H3 D rows d u pp s3 (s1.free nD) hD3 hRows ?_⟩
        rw [rV_len, has.1] at hC
        exact hC
end
end WD

set_option Elab.async false
set_option linter.all false
set_option maxRecDepth 100000
set_option maxHeartbeats 4000000
namespace WD
open PySem PySem.Spec PyProof.Rows L2
/-! ### the length of a chain -/
theorem Len.one {nx : Nat → Option Nat} {t n : Nat} (h : Len nx t n) : ∀ {k}, Len nx t k → n = k := by
  induction h with
  | end_ h =>
    intro k h'
    cases h' with
    | end_ => rfl
    | go g => rw [h] at g; cases g
  | go h _ ih =>
    intro k h'
    cases h' with
    | end_ g => rw [h] at g; cases g
    | go g g2 => rw [h] at g; cases g; rw [ih g2]
theorem Len.bound {nx : Nat → Option Nat} {m t n : Nat} (h : Len nx t n) (hm : ∀ y s, nx y = some s → y < m) : n ≤ m := by
  have key : ∃ l : List Nat, l.length = n ∧ l.Nodup ∧ ∀ y ∈ l, y < m ∧ ∃ k, k ≤ n ∧ Len nx y k := by
    induction h with
    | end_ h => exact ⟨[], rfl, List.nodup_nil, fun y h => by simp at h⟩
    | @go t s n h1 h2 ih =>
      obtain ⟨l, e1, e2, e3⟩ := ih
      refine ⟨t :: l, by rw [List.length_cons, e1], List.nodup_cons.mpr ⟨fun q => ?_, e2⟩, fun y hy => ?_⟩
      · obtain ⟨_, k, h3, h4⟩ := e3 t q
        have := h4.one (.go h1 h2)
        omega
      · rcases List.mem_cons.mp hy with e | hy
        · subst e; exact ⟨hm y s h1, n + 1, Nat.le_refl _, .go h1 h2⟩
        · obtain ⟨h3, k, h4, h5⟩ := e3 y hy
          exact ⟨h3, k, by omega, h5⟩
  obtain ⟨l, e1, e2, e3⟩ := key
  rw [← e1]
  exact nodup_bound m l e2 fun y hy => (e3 y hy).1
theorem Cert.congr {rows rows' : List (Al Int)} {cp : Nat → Nat} {m k : Nat} {d : Deal} {u p : Nat → Int} (C : Cert rows cp m k d u p) (hl : rows.length = rows'.length) (h : ∀ a t, look (row rows a) t = look (row rows' a) t) : Cert rows' cp m k d u p :=
  ⟨⟨by rw [← hl]; exact C.feas.len, (fun a t g => by rw [← h]; exact C.feas.wish a t g), C.feas.fits⟩, (fun a t w g => by rw [← h] at g; exact C.keys a t w g), C.off, C.u0, C.p0, (fun a t w ha g => by rw [← h] at g; exact C.cov a t w ha g),
    (fun a t w g1 g => by rw [← h] at g; exact C.tight a t w g1 g), C.some_, C.full⟩
theorem RowsOk.look_eq {o : Str} {old : Option (List (Option Nat))} {W : Wish} {rows rows' : List (Al Int)} (h : RowsOk o old W rows) (h' : RowsOk o old W rows') (a t : Nat) : look (row rows a) t = look (row rows' a) t := by
  cases e : look (row rows a) t with
  | some w =>
    exact ((h'.iff a t w).mpr ((h.iff a t w).mp e)).symm
  | none =>
    cases e' : look (row rows' a) t with
    | none => rfl
    | some w =>
      rw [(h.iff a t w).mpr ((h'.iff a t w).mp e')] at e; cases e
/-! ### rows that may be locked -/
def DicR (H : Hp) (a : Addr) (d : Al Int) : Prop := Rd H a (.dK (kvG V.int d))
theorem DicAt.r {H : Hp} {a : Addr} {d : Al Int} (h : DicAt H a d) : DicR H a d := .inl h
theorem DicR.get {H : Hp} {a : Addr} {d : Al Int} (h : DicR H a d) (k : Nat) : DGet H a (.int k) ((look d k).map V.int) := by
  have : DGet H a (kV (Sum.inl (k : Int) : Key)) (valV (kvG V.int d) (Sum.inl (k : Int) : Key)) := .inl ⟨_, _, h, rfl, rfl⟩
  rw [valV_kv] at this
  exact this
theorem DicR.same {H H' : Hp} {a : Addr} {d : Al Int} (h : DicR H a d) (s : Same H H') : DicR H' a d := by
  rcases h with h | ⟨o, h⟩
  · exact .inl (s _ _ h)
  · exact .inr ⟨o, s _ _ h⟩
def RowsR (H : Hp) (z : Addr) (rows : List (Al Int)) : Prop := ∃ as, H z = some (.lst (rV as)) ∧ AllAt (DicR H) as rows
theorem RowsAt.r {H : Hp} {z : Addr} {rows : List (Al Int)} (h : RowsAt H z rows) : RowsR H z rows := let ⟨as, h1, h2⟩ := h; ⟨as, h1, h2.mono fun _ _ x => x.r⟩
theorem RowsR.same {H H' : Hp} {z : Addr} {rows : List (Al Int)} (e : Same H H') (h : RowsR H z rows) : RowsR H' z rows := let ⟨as, h1, h2⟩ := h; ⟨as, e _ _ h1, h2.mono fun _ _ x => x.same e⟩
/-! ### a Prices -/
structure PrR (cP : Addr) (H : Hp) (x R D L qa ra : Addr) (rows : List (Al Int)) (cp : List Nat) (d : Deal) (q : List Int) (r : Deal) : Prop where
  ob : ∃ dx, H x = some (.ins cP dx (prF (.ref R) (.ref D) (.ref L) (.ref qa) (.ref ra)))
  rw_ : RowsR H R rows
  dl : H D = some (.lst (dV d))
  lf_ : H L = some (.lst (iV (lf cp d)))
  pr_ : H qa = some (.lst (iV q))
  rs : H ra = some (.lst (dV r))
structure PrAt (cP : Addr) (H : Hp) (x R D L qa ra : Addr) (rows : List (Al Int)) (cp : List Nat) (d : Deal) (q : List Int) (r : Deal) : Prop where
  R_ : PrR cP H x R D L qa ra rows cp d q r
  at_ : RowsAt (hid [qa, ra] H) R rows
  qr : qa ≠ ra
  dn : D ∉ [qa, ra]
  ln : L ∉ [qa, ra]
section
variable {cP : Addr} {H H' : Hp} {x R D L qa ra : Addr} {rows : List (Al Int)} {cp : List Nat} {d : Deal} {q q' : List Int} {r r' : Deal}
theorem PrR.same (h : PrR cP H x R D L qa ra rows cp d q r) (s : Same H H') : PrR cP H' x R D L qa ra rows cp d q r :=
  ⟨let ⟨dx, e⟩ := h.ob; ⟨dx, s _ _ e⟩, h.rw_.same s, s _ _ h.dl, s _ _ h.lf_, s _ _ h.pr_, s _ _ h.rs⟩
theorem PrR.row (h : PrR cP H x R D L qa ra rows cp d q r) {a : Nat} (ha : a < rows.length) : ∃ as b, H R = some (.lst (rV as)) ∧ (rV as)[a]? = some (.ref b) ∧ DicR H b (row rows a) := by
  obtain ⟨as, h1, h2⟩ := h.rw_
  obtain ⟨b, h3, h4⟩ := h2.at' (row_get ha)
  exact ⟨as, b, h1, rV_at h3, h4⟩
/-- a row is locked -/
theorem PrR.lock {b : Addr} {od : Obj} {kvs : List (Key × V)} (hb : H b = some (.frz od (.dK kvs))) (h : PrR cP (upd H b (.dK kvs)) x R D L qa ra rows cp d q r) : PrR cP H x R D L qa ra rows cp d q r := by
  have off : ∀ {c : Addr} {u : HO}, (upd H b (.dK kvs)) c = some u → (∀ k, u ≠ .dK k) → H c = some u := fun {c u} e hu => by
    by_cases z : c = b
    · subst z; rw [upd_same] at e; cases e; exact absurd rfl (hu kvs)
    · rwa [upd_ne z] at e
  obtain ⟨dx, e⟩ := h.ob
  obtain ⟨as, h1, h2⟩ := h.rw_
  refine ⟨⟨dx, off e (fun _ z => by cases z)⟩, ⟨as, off h1 (fun _ z => by cases z), h2.mono fun c al hc => ?_⟩, off h.dl (fun _ z => by cases z), off h.lf_ (fun _ z => by cases z), off h.pr_ (fun _ z => by cases z), off h.rs (fun _ z => by cases z)⟩
  by_cases z : c = b
  · subst z
    rcases hc with hc | ⟨o, hc⟩
    · rw [upd_same] at hc; cases hc; exact .inr ⟨od, hb⟩
    · rw [upd_same] at hc; cases hc
  · rcases hc with hc | ⟨o, hc⟩
    · rw [upd_ne z] at hc; exact .inl hc
    · rw [upd_ne z] at hc; exact .inr ⟨o, hc⟩
theorem PrAt.kind (h : PrAt cP H x R D L qa ra rows cp d q r) {b : Addr} {u : HO} (hb : H b = some u) (hu : ∀ k, u ≠ .lst k) : b ∉ [qa, ra] := fun hm => by
  simp only [List.mem_cons, List.not_mem_nil, or_false] at hm
  rcases hm with e | e <;> subst e
  · rw [h.R_.pr_] at hb; exact hu _ (Option.some.inj hb).symm
  · rw [h.R_.rs] at hb; exact hu _ (Option.some.inj hb).symm
theorem PrAt.move (h : PrAt cP H x R D L qa ra rows cp d q r) (sb : SameBut [qa, ra] H H') (hq : H' qa = some (.lst (iV q'))) (hr : H' ra = some (.lst (dV r'))) : PrAt cP H' x R D L qa ra rows cp d q' r' := by
  have ha := h.at_.same (hid_mono sb)
  refine ⟨⟨let ⟨dx, e⟩ := h.R_.ob; ⟨dx, sb _ _ e (h.kind e fun _ z => by cases z)⟩, (ha.same hid_same).r, sb _ _ h.R_.dl h.dn, sb _ _ h.R_.lf_ h.ln, hq, hr⟩, ha, h.qr, h.dn, h.ln⟩
theorem PrAt.same (h : PrAt cP H x R D L qa ra rows cp d q r) (s : Same H H') : PrAt cP H' x R D L qa ra rows cp d q r := h.move (.of s _) (s _ _ h.R_.pr_) (s _ _ h.R_.rs)
theorem PrAt.setQ (h : PrAt cP H x R D L qa ra rows cp d q r) : PrAt cP (upd H qa (.lst (iV q'))) x R D L qa ra rows cp d q' r :=
  h.move (sameBut_upd (by simp)) upd_same (by rw [upd_ne h.qr.symm]; exact h.R_.rs)
theorem PrAt.setR (h : PrAt cP H x R D L qa ra rows cp d q r) : PrAt cP (upd H ra (.lst (dV r'))) x R D L qa ra rows cp d q r' :=
  h.move (sameBut_upd (by simp)) (by rw [upd_ne h.qr]; exact h.R_.pr_) upd_same
theorem PrAt.row (h : PrAt cP H x R D L qa ra rows cp d q r) {a : Nat} (ha : a < rows.length) : ∃ as b, H R = some (.lst (rV as)) ∧ (rV as)[a]? = some (.ref b) ∧ DicAt H b (row rows a) ∧ b ∉ [qa, ra] := by
  obtain ⟨as, h1, h2⟩ := h.at_
  obtain ⟨b, h3, h4⟩ := h2.at' (row_get ha)
  obtain ⟨h5, h6⟩ := hid_some.mp h4
  exact ⟨as, b, hid_same _ _ h1, rV_at h3, h6, h5⟩
end
section
variable {P : Program} {w : World} {K : PySem.W.Frag} {mg : Str → Option Value} {base : Heap} {cS cR cP : Addr}
/-! ### Prices.__init__ -/
def sp_Prices_init (K : PySem.W.Frag) (cS cR cP : Addr) : Sp := fun vs H Q _ => ∃ (x dx R c D : Addr) (rows : List (Al Int)) (cp : List Nat) (d : Deal), vs = [.ref x, .ref R, .ref c, .ref D] ∧ H x = some (.ins cP dx []) ∧ RowsAt (hid [x] H) R rows ∧ H c = some (.lst (nV cp)) ∧ H D = some (.lst (dV d)) ∧
  (∀ t, some t ∈ d → t < cp.length) ∧ d.length ≤ 7 ∧ cp.length ≤ 6 ∧
  ∀ H' D' L qa ra, SameBut [x] H H' → PrAt cP H' x R D' L qa ra rows cp d (List.replicate cp.length 0) (List.replicate cp.length none) → (∀ b ∈ [qa, ra], hid [x] H b = none) → Q .non H'
abbrev nm_Prices_init : List Str := ["self", "rows", "copies", "dealt", "many"]
theorem sc_Prices_init : FnScope nm_Prices_init ["self", "rows", "copies", "dealt"] (defScope s_Prices_init) := ⟨rfl, rfl, rfl, by decide +kernel, rfl, by decide +kernel, by decide +kernel⟩
theorem k_Prices (T : Tx K mg cS cR cP) : C8.Mak P w K mg base 2 "Prices" cP (sp_Prices_init K cS cR cP) [] := by
  refine mak_of T.g_Prices T.i_Prices sc_Prices_init (fun _ _ _ _ _ _ us hl => match us, hl with | [_, _, _, _], _ => rfl) (fun vs H Q E h => ?_) (fun f cdv A outer s H vs Q E hr h => ?_)
  · obtain ⟨x, dx, R, c, D, rows, cp, d, rfl, hx, hR, hc, hD, hdt, hd7, hc6, q⟩ := h
    rfl
  · obtain ⟨x, dx, R, c, D, rows, cp, d, rfl, hx, hR, hc, hD, hdt, hd7, hc6, q⟩ := h
    have hu := hu_of hr
    refine ⟨_, 
    (pss_cons (ps_fld (pv 0) (pv 1) rfl)
    (pss_cons (ps_fld (pv 0) (pe_callTy call_list_of (by rfl) T.b_list bo_list (pa_cons (pv 3) pa_nil)) rfl)
    (pss_cons (ps_fld (pv 0) (C8.pe_c (c_left_by T) hr (by decide) rfl (pa_cons (pv 2) (pa_cons (pv 3) pa_nil))) rfl)
    (pss_cons (ps_fld (pv 0) (pe_lc (own := [("many", 4)]) (g := gName 4) (tt := tYes) rfl sc_Prices_init.nd (pi_list (pv 2)) (blkOk_by (own := [("many", 4)]) (N := nm_Prices_init) (sc := defScope s_Prices_init) (by decide +kernel)) (fun _ _ _ _ _ => (pg_name (i := 4) sc_Prices_init.nd rfl (by first | exact Or.inl rfl | exact Or.inr rfl))) (fun _ _ _ _ _ => pts_nil) (fun _ _ _ _ _ => pe_int)) rfl)
    (pss_one (ps_fld (pv 0) (pe_lc (own := [("many", 4)]) (g := gName 4) (tt := tYes) rfl sc_Prices_init.nd (pi_list (pv 2)) (blkOk_by (own := [("many", 4)]) (N := nm_Prices_init) (sc := defScope s_Prices_init) (by decide +kernel)) (fun _ _ _ _ _ => (pg_name (i := 4) sc_Prices_init.nd rfl (by first | exact Or.inl rfl | exact Or.inr rfl))) (fun _ _ _ _ _ => pts_nil) (fun _ _ _ _ _ => pe_non)) rfl)))))), ?_⟩
    refine ⟨_, rfl, _, rfl, x, cP, dx, [], rfl, hx, T.c_Prices, T.n_Prices_rows, few_lt few0 (by decide), ?_⟩
    have Dx : D ≠ x := ne_of hD hx (by intro z; cases z)
    have cx : c ≠ x := ne_of hc hx (by intro z; cases z)
    have sb1 : SameBut [x] H (upd H x (.ins cP dx (putF "rows" (.ref R) []))) := sameBut_upd (by simp)
    have hx1 : (upd H x (.ins cP dx (putF "rows" (.ref R) []))) x = _ := upd_same
    generalize upd H x (.ins cP dx (putF "rows" (.ref R) [])) = H1 at sb1 hx1
    -- self.dealt = list(dealt)
    refine ⟨_, rfl, D, _, rfl, .inl (SqL.of (sb1 D _ hD (by simpa using Dx))), fun D' nD' => ?_⟩
    have xD : D' ≠ x := (ne_of_none hx1 nD').symm
    refine ⟨_, rfl, x, cP, dx, _, rfl, by rw [upd_ne xD.symm]; exact hx1, T.c_Prices, T.n_Prices_dealt, few_lt (few1 few0) (by decide), ?_⟩
    have sb2 : SameBut [x] H (upd (upd H1 D' (.lst (dV d))) x (.ins cP dx (putF "dealt" (.ref D') (putF "rows" (.ref R) [])))) := (sb1.trans (.of (same_upd nD') _)).trans (sameBut_upd (by simp))
    have hx2 : (upd (upd H1 D' (.lst (dV d))) x (.ins cP dx (putF "dealt" (.ref D') (putF "rows" (.ref R) [])))) x = _ := upd_same
    have hD2 : (upd (upd H1 D' (.lst (dV d))) x (.ins cP dx (putF "dealt" (.ref D') (putF "rows" (.ref R) [])))) D' = some (.lst (dV d)) := by rw [upd_ne xD, upd_same]
    generalize upd (upd H1 D' (.lst (dV d))) x (.ins cP dx (putF "dealt" (.ref D') (putF "rows" (.ref R) []))) = H2 at sb2 hx2 hD2
    -- self.left = left_by(copies, dealt)
    refine ⟨_, rfl, _, rfl, c, D, cp, d, rfl, sb2 c _ hc (by simpa using cx), sb2 D _ hD (by simpa using Dx), hdt, fun H3 L s3 nL hL => ?_⟩
    have xL : L ≠ x := (ne_of_none hx2 nL).symm
    have DL : L ≠ D' := (ne_of_none hD2 nL).symm
    refine ⟨_, rfl, x, cP, dx, _, rfl, s3 _ _ hx2, T.c_Prices, T.n_Prices_left, few_lt (few1 (few1 few0)) (by decide), ?_⟩
    have sb4 : SameBut [x] H (upd H3 x (.ins cP dx (putF "left" (.ref L) (putF "dealt" (.ref D') (putF "rows" (.ref R) []))))) := (sb2.trans (.of s3 _)).trans (sameBut_upd (by simp))
    have hx4 : (upd H3 x (.ins cP dx (putF "left" (.ref L) (putF "dealt" (.ref D') (putF "rows" (.ref R) []))))) x = _ := upd_same
    have hD4 : (upd H3 x (.ins cP dx (putF "left" (.ref L) (putF "dealt" (.ref D') (putF "rows" (.ref R) []))))) D' = some (.lst (dV d)) := by rw [upd_ne xD]; exact s3 _ _ hD2
    have hL4 : (upd H3 x (.ins cP dx (putF "left" (.ref L) (putF "dealt" (.ref D') (putF "rows" (.ref R) []))))) L = some (.lst (iV (lf cp d))) := by rw [upd_ne xL]; exact hL
    generalize upd H3 x (.ins cP dx (putF "left" (.ref L) (putF "dealt" (.ref D') (putF "rows" (.ref R) [])))) = H4 at sb4 hx4 hD4 hL4
    have hc4 := sb4 c _ hc (by simpa using cx)
    -- self.prices = [0 for many in copies]
    refine ⟨_, rfl, c, rfl, ⟨_, SqL.of hc4⟩, fun qa nq => ?_⟩
    refine lc_list (K := K) (a := c) (xs := nV cp) (fun i H5 => Same H4 H5 ∧ H5 qa = some (.lst (iV (List.replicate i 0)))) ⟨same_upd nq, upd_same⟩ (fun i H5 _ ⟨s5, _⟩ => SqL.of (s5 _ _ hc4)) ?_ ?_
    · rintro i y H5 hy ⟨s5, hq⟩
      refine ⟨rfl, ?_⟩
      have hi := (List.getElem?_eq_some_iff.mp hy).1
      rw [nV_len] at hi
      refine ⟨_, hq, ?_, fun b u h => ?_, ?_⟩
      · rw [iV_len, List.length_replicate]; exact small1000 (by omega)
      · rw [upd_ne (ne_of_none h nq)]; exact s5 _ _ h
      · rw [upd_same, List.replicate_succ']; unfold iV; rw [List.map_append]; rfl
    rintro H5 ⟨s5, hq⟩
    rw [nV_len] at hq
    have xq : qa ≠ x := (ne_of_none hx4 nq).symm
    have Dq : D' ≠ qa := ne_of_none hD4 nq
    have Lq : L ≠ qa := ne_of_none hL4 nq
    refine ⟨_, rfl, x, cP, dx, _, rfl, s5 _ _ hx4, T.c_Prices, T.n_Prices_prices, few_lt (few1 (few1 (few1 few0))) (by decide), ?_⟩
    have sb6 : SameBut [x] H (upd H5 x (.ins cP dx (putF "prices" (.ref qa) (putF "left" (.ref L) (putF "dealt" (.ref D') (putF "rows" (.ref R) [])))))) := (sb4.trans (.of s5 _)).trans (sameBut_upd (by simp))
    have hx6 : (upd H5 x (.ins cP dx (putF "prices" (.ref qa) (putF "left" (.ref L) (putF "dealt" (.ref D') (putF "rows" (.ref R) [])))))) x = _ := upd_same
    have hD6 : (upd H5 x (.ins cP dx (putF "prices" (.ref qa) (putF "left" (.ref L) (putF "dealt" (.ref D') (putF "rows" (.ref R) [])))))) D' = some (.lst (dV d)) := by rw [upd_ne xD]; exact s5 _ _ hD4
    have hL6 : (upd H5 x (.ins cP dx (putF "prices" (.ref qa) (putF "left" (.ref L) (putF "dealt" (.ref D') (putF "rows" (.ref R) [])))))) L = some (.lst (iV (lf cp d))) := by rw [upd_ne xL]; exact s5 _ _ hL4
    have hq6 : (upd H5 x (.ins cP dx (putF "prices" (.ref qa) (putF "left" (.ref L) (putF "dealt" (.ref D') (putF "rows" (.ref R) [])))))) qa = some (.lst (iV (List.replicate cp.length 0))) := by rw [upd_ne xq]; exact hq
    generalize upd H5 x (.ins cP dx (putF "prices" (.ref qa) (putF "left" (.ref L) (putF "dealt" (.ref D') (putF "rows" (.ref R) []))))) = H6 at sb6 hx6 hD6 hL6 hq6
    have hc6' := sb6 c _ hc (by simpa using cx)
    -- self.raisers = [None for many in copies]
    refine ⟨_, rfl, c, rfl, ⟨_, SqL.of hc6'⟩, fun ra nr => ?_⟩
    refine lc_list (K := K) (a := c) (xs := nV cp) (fun i H7 => Same H6 H7 ∧ H7 ra = some (.lst (dV (List.replicate i none)))) ⟨same_upd nr, upd_same⟩ (fun i H7 _ ⟨s7, _⟩ => SqL.of (s7 _ _ hc6')) ?_ ?_
    · rintro i y H7 hy ⟨s7, hr⟩
      refine ⟨rfl, ?_⟩
      have hi := (List.getElem?_eq_some_iff.mp hy).1
      rw [nV_len] at hi
      refine ⟨_, hr, ?_, fun b u h => ?_, ?_⟩
      · rw [dV_len, List.length_replicate]; exact small1000 (by omega)
      · rw [upd_ne (ne_of_none h nr)]; exact s7 _ _ h
      · rw [upd_same, List.replicate_succ']; unfold dV; rw [List.map_append]; rfl
    rintro H7 ⟨s7, hr⟩
    rw [nV_len] at hr
    have xr : ra ≠ x := (ne_of_none hx6 nr).symm
    have Dr : D' ≠ ra := ne_of_none hD6 nr
    have Lr : L ≠ ra := ne_of_none hL6 nr
    have qr : qa ≠ ra := ne_of_none hq6 nr
    refine ⟨_, rfl, x, cP, dx, _, rfl, s7 _ _ hx6, T.c_Prices, T.n_Prices_raisers, few_lt (few1 (few1 (few1 (few1 few0)))) (by decide), ?_⟩
    have sb8 := (sb6.trans (.of s7 _)).trans (sameBut_upd (p := x) (o := .ins cP dx (putF "raisers" (.ref ra) (putF "prices" (.ref qa) (putF "left" (.ref L) (putF "dealt" (.ref D') (putF "rows" (.ref R) [])))))) (by simp))
    have hRx : RowsAt (hid [x] (upd H7 x (.ins cP dx (putF "raisers" (.ref ra) (putF "prices" (.ref qa) (putF "left" (.ref L) (putF "dealt" (.ref D') (putF "rows" (.ref R) [])))))))) R rows := hR.same (hid_mono sb8)
    have fq : ∀ b ∈ [qa, ra], hid [x] H b = none := fun b hb => by
      cases e : hid [x] H b with
      | none => rfl
      | some o =>
        obtain ⟨h1, h2⟩ := hid_some.mp e
        simp only [List.mem_cons, List.not_mem_nil, or_false] at hb
        rcases hb with z | z <;> subst z
        · have := sb4 _ _ h2 h1; rw [nq] at this; cases this
        · have := sb6 _ _ h2 h1; rw [nr] at this; cases this
    refine q _ D' L qa ra sb8 ⟨⟨⟨dx, upd_same⟩, (hRx.same hid_same).r, ?_, ?_, ?_, ?_⟩, hR.same fun b u e => ?_, qr, by simp [Dq, Dr], by simp [Lq, Lr]⟩ fq
    · rw [upd_ne xD]; exact s7 _ _ hD6
    · rw [upd_ne xL]; exact s7 _ _ hL6
    · rw [upd_ne xq]; exact s7 _ _ hq6
    · rw [upd_ne xr]; exact hr
    · obtain ⟨h1, h2⟩ := hid_some.mp e
      refine hid_some.mpr ⟨fun hm => ?_, sb8 _ _ h2 h1⟩
      rw [fq b hm] at e; cases e
/-! ### rest -/
def sp_Prices_rest (K : PySem.W.Frag) (cS cR cP : Addr) : Sp := fun vs H Q _ => ∃ (x R D L qa ra : Addr) (rows : List (Al Int)) (cp : List Nat) (d : Deal) (q : List Int) (r : Deal) (a : Nat), vs = [.ref x, .int a] ∧ PrR cP H x R D L qa ra rows cp d q r ∧ a < d.length ∧ rows.length = d.length ∧
  (∀ t, got d a = some t → t < q.length ∧ ∃ w, look (row rows a) t = some w) ∧ ∀ H', Same H H' → Q (.int (rest rows d q a)) H'
abbrev nm_Prices_rest : List Str := ["self", "asker", "thing"]
theorem sc_Prices_rest : FnScope nm_Prices_rest ["self", "asker"] (defScope s_Prices_rest) := ⟨rfl, rfl, rfl, by decide +kernel, rfl, by decide +kernel, by decide +kernel⟩
theorem c_Prices_rest (T : Tx K mg cS cR cP) : C8.Met P w K mg base 1 cP "rest" (sp_Prices_rest K cS cR cP) [] := by
  refine met_of T.c_Prices T.m_Prices_rest sc_Prices_rest (fun _ _ _ _ _ _ us hl => match us, hl with | [_, _], _ => rfl) (fun vs H Q E h => ?_) (fun f cdv A outer s H vs Q E hr h => ?_)
  · obtain ⟨x, R, D, L, qa, ra, rows, cp, d, q, r, a, rfl, hP, ha, hlen, hw, k⟩ := h
    rfl
  · obtain ⟨x, R, D, L, qa, ra, rows, cp, d, q, r, a, rfl, hP, ha, hlen, hw, k⟩ := h
    have hu := hu_of hr
    refine ⟨_, 
    (pss_cons (ps_set (i := 2) sc_Prices_rest.nd rfl (by first | exact Or.inl rfl | exact Or.inr rfl) (pe_ix ix_list (pe_fld (pv 0) rfl) (pv 1) (fun _ _ => rfl)))
    (pss_cons (ps_if (pt_cmpR op_isN (pv 2) pe_non (nomark _)) 
      (pss_one (ps_ret pe_int)) pss_nil)
    (pss_one (ps_ret (pe_op op_sub (pe_dget hu (pe_ix ix_list (pe_fld (pv 0) rfl) (pv 1) (fun _ _ => rfl)) (pv 2) (fun _ _ => rfl)) (pe_ix ix_list (pe_fld (pv 0) rfl) (pv 2) (fun _ _ => rfl))))))), ?_⟩
    obtain ⟨dx, hx⟩ := hP.ob
    refine ⟨_, rfl, x, cP, dx, _, _, rfl, hx, T.c_Prices, T.n_Prices_dealt, prF_dealt, _, rfl, D, _, _, _, rfl, rfl, SqL.of hP.dl, atI_nat (dV_at (got_get ha)), ?_⟩
    cases e : got d a with
    | none =>
      refine ⟨_, rfl, rfl, true, rfl, iteT ?_⟩
      have : rest rows d q a = 0 := by unfold rest; rw [e]
      rw [this] at k
      exact k H fun _ _ h => h
    | some t =>
      obtain ⟨htq, w', hw'⟩ := hw t e
      obtain ⟨as, b, hR, hb, hdic⟩ := hP.row (a := a) (by omega)
      have hget := hdic.get t
      rw [hw'] at hget
      have hq : (iV q)[t]? = some (.int (pAt q t)) := iV_at (by unfold pAt; rw [List.getD_eq_getElem?_getD, List.getElem?_eq_getElem htq]; rfl)
      refine ⟨_, rfl, rfl, false, rfl, iteF ?_⟩
      refine ⟨_, rfl, x, cP, dx, _, _, rfl, hx, T.c_Prices, T.n_Prices_rows, prF_rows, _, rfl, R, _, _, _, rfl, rfl, SqL.of hR, atI_nat hb, _, rfl, b, _, rfl, hget, _, rfl, x, cP, dx, _, _, rfl, hx, T.c_Prices, T.n_Prices_prices, prF_prices, _, rfl, qa, _, _, _, rfl, rfl, SqL.of hP.pr_, atI_nat hq, _, _, rfl, rfl, ?_⟩
      have : rest rows d q a = w' - pAt q t := by unfold rest; rw [e]; simp only [hw', Option.getD_some]
      rw [this] at k
      exact k H fun _ _ h => h
/-! ### chain -/
def chM (d r : Deal) (s : Option Nat) (n : Nat) : Prop := match s with
  | none => n = 0
  | some y => ∃ k, Len (pn d r) y k ∧ n = k + 1
def sp_Prices_chain (K : PySem.W.Frag) (cS cR cP : Addr) : Sp := fun vs H Q _ => ∃ (x R D L qa ra : Addr) (rows : List (Al Int)) (cp : List Nat) (d : Deal) (q : List Int) (r : Deal) (t a0 : Nat) (u p : Nat → Int), vs = [.ref x, .int t] ∧ PrR cP H x R D L qa ra rows cp d q r ∧
  PInv rows (fun t => cp.getD t 0) cp.length d u p q r ∧ got r t = some a0 ∧ cp.length ≤ 6 ∧
  ∀ H' z es e ws, Same H H' → H z = none → H' z = some (.lst (rV es)) → AllAt (StepAt H') es (e :: ws) → e.1 < rows.length → ws.length ≤ 20 → Q (.ref z) H'
abbrev nm_Prices_chain : List Str := ["self", "thing", "steps", "at", "asker"]
theorem sc_Prices_chain : FnScope nm_Prices_chain ["self", "thing"] (defScope s_Prices_chain) := ⟨rfl, rfl, rfl, by decide +kernel, rfl, by decide +kernel, by decide +kernel⟩
theorem c_Prices_chain (T : Tx K mg cS cR cP) : C8.Met P w K mg base 1 cP "chain" (sp_Prices_chain K cS cR cP) [] := by
  refine met_of T.c_Prices T.m_Prices_chain sc_Prices_chain (fun _ _ _ _ _ _ us hl => match us, hl with | [_, _], _ => rfl) (fun vs H Q E h => ?_) (fun f cdv A outer s H vs Q E hr h => ?_)
  · obtain ⟨x, R, D, L, qa, ra, rows, cp, d, q, r, t, a0, u, p, rfl, hP, hJ, ht0, hc6, k⟩ := h
    rfl
  · obtain ⟨x, R, D, L, qa, ra, rows, cp, d, q, r, t, a0, u, p, rfl, hP, hJ, ht0, hc6, k⟩ := h
    have hu := hu_of hr
    refine ⟨_, 
    (pss_cons (ps_set (i := 2) sc_Prices_chain.nd rfl (by first | exact Or.inl rfl | exact Or.inr rfl) (pe_lst pa_nil))
    (pss_cons (ps_set (i := 3) sc_Prices_chain.nd rfl (by first | exact Or.inl rfl | exact Or.inr rfl) (pv 1))
    (pss_cons (ps_while PassesOwn.never (PW.pt (pw_and (pt_cmpR op_notN (pv 3) pe_non (nomark _)) (pw_and1 (pt_cmpR op_notN (pe_ix ix_list (pe_fld (pv 0) rfl) (pv 3) (fun _ _ => rfl)) pe_non (nomark _))))) 
      (pss_cons (ps_set (i := 4) sc_Prices_chain.nd rfl (by first | exact Or.inl rfl | exact Or.inr rfl) (pe_ix ix_list (pe_fld (pv 0) rfl) (pv 3) (fun _ _ => rfl)))
      (pss_cons (ps_expr (pe_bm PySem.F.plainAttrs_list PySem.F.slot_list_insert PySem.F.type_list_insert mt_insert (pv 2) (pa_cons pe_int (pa_cons (pe_tup (pa_cons (pv 4) (pa_cons (pv 3) pa_nil))) pa_nil))))
      (pss_cons (ps_set (i := 3) sc_Prices_chain.nd rfl (by first | exact Or.inl rfl | exact Or.inr rfl) (pe_ix ix_list (pe_fld (pv 0) rfl) (pv 4) (fun _ _ => rfl)))
      (pss_one (ps_if (pt_cmpR op_eq (pv 3) (pv 1) (nomark _)) 
        (pss_one (ps_ret (pv 2))) pss_nil))))))
    (pss_one (ps_ret (pv 2)))))), ?_⟩
    have rlt : ∀ y a, got r y = some a → y < cp.length := fun y a h => by have := got_lt h; rw [hJ.lr] at this; exact this
    obtain ⟨n0, hn0⟩ := (hJ.ch t).len
    have hbd : n0 ≤ cp.length := hn0.bound fun y s h => by
      unfold pn at h
      cases e : got r y with
      | none => rw [e] at h; cases h
      | some a => exact rlt y a e
    refine ⟨Nat.zero_le _, fun z nz => ?_⟩
    have s0 : Same H (upd H z (.lst (rV []))) := same_upd nz
    refine ⟨_, rfl, fun n σ H1 => ∃ v4 es ws s, σ = [some (.ref x), some (.int t), some (.ref z), some (oV s), v4] ∧ Same H H1 ∧ H1 z = some (.lst (rV es)) ∧ AllAt (StepAt H1) es ws ∧ chM d r s n ∧ ws.length + n ≤ 7 ∧ (∀ y, s = some y → y < cp.length) ∧ ((ws = [] ∧ s = some t) ∨ ∃ e ws', ws = e :: ws' ∧ e.1 < rows.length),
      ⟨n0 + 1, none, [], [], some t, rfl, s0, upd_same, AllAt.nil, ⟨n0, hn0, rfl⟩, by simp; omega, (fun y h => by cases h; exact rlt t a0 ht0), .inl ⟨rfl, rfl⟩⟩, ?_⟩
    rintro n σ H1 ⟨v4, es, ws, s, rfl, s1, hz, hes, hm, hl, hy, hor⟩
    have hP1 := hP.same s1
    obtain ⟨dx, hx⟩ := hP1.ob
    cases s with
    | none =>
      refine ⟨_, rfl, rfl, false, rfl, iteF (iteF ?_)⟩
      rcases hor with ⟨_, h⟩ | ⟨e, ws', rfl, he⟩
      · cases h
      · exact ⟨_, rfl, k H1 z es e ws' s1 nz hz hes he (by rw [List.length_cons] at hl; omega)⟩
    | some y =>
      have hym := hy y rfl
      have hry : (dV r)[y]? = some (oV (got r y)) := dV_at (got_get (by rw [hJ.lr]; exact hym))
      refine ⟨_, rfl, rfl, true, rfl, iteT ?_⟩
      refine ⟨_, rfl, x, cP, dx, _, _, rfl, hx, T.c_Prices, T.n_Prices_raisers, prF_raisers, _, rfl, ra, _, _, _, rfl, rfl, SqL.of hP1.rs, atI_nat hry, ?_⟩
      cases hr : got r y with
      | none =>
        refine ⟨rfl, false, rfl, iteF ?_⟩
        rcases hor with ⟨_, h⟩ | ⟨e, ws', rfl, he⟩
        · cases h; rw [ht0] at hr; cases hr
        · exact ⟨_, rfl, k H1 z es e ws' s1 nz hz hes he (by rw [List.length_cons] at hl; omega)⟩
      | some a =>
        rw [hr] at hry
        obtain ⟨kk, hk1, rfl⟩ := hm
        have han := (hJ.r1 y a hr).1
        have hdl := hJ.C.feas.len
        have hda : (dV d)[a]? = some (oV (got d a)) := dV_at (got_get (by omega))
        refine ⟨rfl, true, rfl, iteT ?_⟩
        refine ⟨fun σ' H' => ∃ v4 es ws s n', σ' = [some (.ref x), some (.int t), some (.ref z), some (oV s), v4] ∧ Same H H' ∧ H' z = some (.lst (rV es)) ∧ AllAt (StepAt H') es ws ∧ chM d r s n' ∧ n' < kk + 1 ∧ ws.length + n' ≤ 7 ∧ (∀ y, s = some y → y < cp.length) ∧ ((ws = [] ∧ s = some t) ∨ ∃ e ws', ws = e :: ws' ∧ e.1 < rows.length), ?_, ?_⟩
        · rintro σ' H' ⟨v4, es, ws, s, n', g0, g1, g2, g3, g4, g5, g6, g7, g8⟩
          exact ⟨n', g5, v4, es, ws, s, g0, g1, g2, g3, g4, g6, g7, g8⟩
        refine ⟨_, rfl, x, cP, dx, _, _, rfl, hx, T.c_Prices, T.n_Prices_raisers, prF_raisers, _, rfl, ra, _, _, _, rfl, rfl, SqL.of hP1.rs, atI_nat hry, ?_⟩
        refine ⟨_, rfl, .inl ⟨rfl, _, SqL.of hz⟩, _, rfl, _, rfl, (by show 2 ≤ sizeLine; decide), fun E2 nE2 => ?_⟩
        have s2 : Same H1 (upd H1 E2 (.tup [.int a, .int y])) := same_upd nE2
        have hz2 := s2 _ _ hz
        refine ⟨z, _, 0, _, rfl, rfl, hz2, ?_, by decide, by decide, ?_⟩
        · rw [rV_len, hes.1]; exact small1000 (by omega)
        have s3 : Same H (upd (upd H1 E2 (.tup [.int a, .int y])) z (.lst (rV (E2 :: es)))) := fun b' u' e' => by
          rw [upd_ne (ne_of_none e' nz)]; exact s2 _ _ (s1 _ _ e')
        have hes3 : AllAt (StepAt (upd (upd H1 E2 (.tup [.int a, .int y])) z (.lst (rV (E2 :: es))))) (E2 :: es) ((a, some y) :: ws) := by
          have hne : ∀ {b' : Addr} {e : End}, StepAt (upd H1 E2 (.tup [.int a, .int y])) b' e → StepAt (upd (upd H1 E2 (.tup [.int a, .int y])) z (.lst (rV (E2 :: es)))) b' e := fun {b' e} hh => by
            show upd _ z _ b' = _
            rw [upd_ne (ne_of hh hz2 (by intro z; cases z))]; exact hh
          refine ⟨by rw [List.length_cons, List.length_cons, hes.1], fun i b' y' g1 g2 => ?_⟩
          cases i with
          | zero =>
            cases g1; cases g2
            exact hne upd_same
          | succ i => exact hne (s2 _ _ (hes.2 i b' y' g1 g2))
        have hz3 : (upd (upd H1 E2 (.tup [.int a, .int y])) z (.lst (rV (E2 :: es)))) z = some (.lst (rV (E2 :: es))) := upd_same
        show tSeq _ _ _ _ (upd (upd H1 E2 (.tup [.int a, .int y])) z (.lst (rV (E2 :: es))))
        generalize upd (upd H1 E2 (.tup [.int a, .int y])) z (.lst (rV (E2 :: es))) = H3 at s3 hes3 hz3
        have hP3 := hP.same s3
        obtain ⟨dx3, hx3⟩ := hP3.ob
        refine ⟨_, rfl, x, cP, dx3, _, _, rfl, hx3, T.c_Prices, T.n_Prices_dealt, prF_dealt, _, rfl, D, _, _, _, rfl, rfl, SqL.of hP3.dl, atI_nat hda, ?_⟩
        refine ⟨_, rfl, _, rfl, (by cases got d a <;> rfl), _, rfl, ite2B (fun _ => ?_) (fun _ => ?_)⟩
        · exact ⟨_, rfl, k H3 z _ _ ws s3 nz hz3 hes3 han (by omega)⟩
        · cases hd : got d a with
          | none =>
            refine ⟨_, _, _, none, 0, rfl, s3, hz3, hes3, rfl, by omega, by rw [List.length_cons]; omega, (fun y h => by cases h), .inr ⟨_, _, rfl, han⟩⟩
          | some s =>
            have hpn : pn d r y = some s := by unfold pn; rw [hr]; exact hd
            cases hk1 with
            | end_ h => rw [hpn] at h; cases h
            | go h1 h2 =>
              rw [hpn] at h1; cases h1
              obtain ⟨w', hw'⟩ := hJ.C.feas.wish a s hd
              exact ⟨_, _, _, some s, _, rfl, s3, hz3, hes3, ⟨_, h2, rfl⟩, by omega, by rw [List.length_cons]; omega, (fun y h => by cases h; exact hJ.C.keys a s w' hw'), .inr ⟨_, _, rfl, han⟩⟩
end
end WD

set_option Elab.async false
set_option linter.all false
set_option maxRecDepth 100000
set_option maxHeartbeats 4000000
namespace WD
open PySem PySem.Spec PyProof.Rows L2
section
variable {P : Program} {w : World} {K : PySem.W.Frag} {mg : Str → Option Value} {base : Heap} {cS cR cP : Addr}
/-! ### way_by -/
theorem PInv.restOk {rows : List (Al Int)} {cp : Nat → Nat} {m : Nat} {d : Deal} {u p : Nat → Int} {q : List Int} {r : Deal} (J : PInv rows cp m d u p q r) (a : Nat) : ∀ t, got d a = some t → t < q.length ∧ ∃ w, look (row rows a) t = some w := fun t h => by
  obtain ⟨w', hw'⟩ := J.C.feas.wish a t h
  exact ⟨by rw [J.lq]; exact J.C.keys a t w' hw', w', hw'⟩
def sp_Prices_way_by (K : PySem.W.Frag) (cS cR cP : Addr) : Sp := fun vs H Q _ => ∃ (x R D L qa ra : Addr) (rows : List (Al Int)) (cp : List Nat) (d : Deal) (q : List Int) (r : Deal) (t a0 : Nat) (u p : Nat → Int), vs = [.ref x, .int t] ∧ PrR cP H x R D L qa ra rows cp d q r ∧
  PInv rows (fun t => cp.getD t 0) cp.length d u p q r ∧ got r t = some a0 ∧ cp.length ≤ 6 ∧
  ∀ H' v, Same H H' → (v = .non ∨ ∃ z, v = .ref z) → Q v H'
abbrev nm_Prices_way_by : List Str := ["self", "thing", "steps", "asker", "had"]
theorem sc_Prices_way_by : FnScope nm_Prices_way_by ["self", "thing"] (defScope s_Prices_way_by) := ⟨rfl, rfl, rfl, by decide +kernel, rfl, by decide +kernel, by decide +kernel⟩
theorem c_Prices_way_by (T : Tx K mg cS cR cP) : C8.Met P w K mg base 2 cP "way_by" (sp_Prices_way_by K cS cR cP) [] := by
  refine met_of T.c_Prices T.m_Prices_way_by sc_Prices_way_by (fun _ _ _ _ _ _ us hl => match us, hl with | [_, _], _ => rfl) (fun vs H Q E h => ?_) (fun f cdv A outer s H vs Q E hr h => ?_)
  · obtain ⟨x, R, D, L, qa, ra, rows, cp, d, q, r, t, a0, u, p, rfl, hP, hJ, ht0, hc6, k⟩ := h
    rfl
  · obtain ⟨x, R, D, L, qa, ra, rows, cp, d, q, r, t, a0, u, p, rfl, hP, hJ, ht0, hc6, k⟩ := h
    have hu := hu_of hr
    refine ⟨_, 
    (pss_cons (ps_set (i := 2) sc_Prices_way_by.nd rfl (by first | exact Or.inl rfl | exact Or.inr rfl) (C8.pe_mt (c_Prices_chain T) hr (by decide) (pv 0) (pa_cons (pv 1) pa_nil)))
    (pss_cons (ps_if (PW.pt (pw_or (pt_cmpR op_gt (pe_ix ix_list (pe_fld (pv 0) rfl) (pv 1) (fun _ _ => rfl)) pe_int (nomark _)) (pw_or1 (pt_cmpR op_eq (pe_ix ix_list (pe_fld (pv 0) rfl) (pe_ix ix_tup (pe_ix ix_list (pv 2) pe_int (fun _ _ => rfl)) pe_int (fun _ _ => rfl)) (fun _ _ => rfl)) (pv 1) (nomark _))))) 
      (pss_one (ps_ret (pv 2))) pss_nil)
    (pss_cons (ps_for PassesOwn.never rfl (pi_enum (by rfl) T.b_enumerate (pa_cons (pe_fld (pv 0) rfl) pa_nil)) (pg_tup rfl (pgs_cons (pg_name (i := 3) sc_Prices_way_by.nd rfl (by first | exact Or.inl rfl | exact Or.inr rfl)) (pgs_cons (pg_name (i := 4) sc_Prices_way_by.nd rfl (by first | exact Or.inl rfl | exact Or.inr rfl)) pgs_nil))) 
      (pss_one (ps_if (PW.pt (pw_and (pt_cmpR op_eq (pv 4) (pv 1) (nomark _)) (pw_and1 (pt_cmpR op_lt (C8.pe_mt (c_Prices_rest T) hr (by decide) (pv 0) (pa_cons (pv 3) pa_nil)) pe_int (nomark _))))) 
        (pss_one (ps_ret (pe_op op_cat (pv 2) (pe_lst (pa_cons (pe_tup (pa_cons (pv 3) (pa_cons pe_non pa_nil))) pa_nil))))) pss_nil)))
    (pss_one (ps_ret pe_non))))), ?_⟩
    obtain ⟨dx, hx⟩ := hP.ob
    have htm : t < cp.length := by have := got_lt ht0; rw [hJ.lr] at this; exact this
    have hdl := hJ.C.feas.len
    refine ⟨_, rfl, x, dx, _, rfl, hx, prF_no_chain, _, rfl, x, R, D, L, qa, ra, rows, cp, d, q, r, t, a0, u, p, rfl, hP, hJ, ht0, hc6, fun H1 z es e ws s1 nz hz hes hen hwl => ?_⟩
    have hP1 := hP.same s1
    obtain ⟨dx1, hx1⟩ := hP1.ob
    have hlt := iV_at (lf_at (cp := cp) (d := d) htm)
    refine ⟨_, rfl, x, cP, dx1, _, _, rfl, hx1, T.c_Prices, T.n_Prices_left, prF_left, _, rfl, L, _, _, _, rfl, rfl, SqL.of hP1.lf_, atI_nat hlt, _, _, rfl, rfl, _, rfl, ite2B (fun _ => iteT ⟨_, rfl, k H1 _ s1 (.inr ⟨_, rfl⟩)⟩) (fun _ => ?_)⟩
    obtain ⟨E, hE, hst⟩ := hes.at' (i := 0) (x := e) rfl
    have hda : (dV d)[e.1]? = some (oV (got d e.1)) := dV_at (got_get (by omega))
    refine ⟨_, rfl, x, cP, dx1, _, _, rfl, hx1, T.c_Prices, T.n_Prices_dealt, prF_dealt, _, rfl, z, _, _, _, rfl, rfl, SqL.of hz, (atI_nat (j := 0) (rV_at hE)), E, _, _, _, rfl, rfl, SqT.of hst, rfl, D, _, _, _, rfl, rfl, SqL.of hP1.dl, atI_nat hda, ?_⟩
    refine ⟨_, rfl, (by cases got d e.1 <;> rfl), _, rfl, ite2B (fun _ => ⟨_, rfl, k H1 _ s1 (.inr ⟨_, rfl⟩)⟩) (fun _ => ?_)⟩
    refine ⟨_, rfl, x, cP, dx1, _, _, rfl, hx1, T.c_Prices, T.n_Prices_dealt, prF_dealt, D, _, rfl, SqL.of hP1.dl, for_enum (K := K) (a := D) (xs := dV d) (fun i σ H2 => ∃ v3 v4, σ = [some (.ref x), some (.int t), some (.ref z), v3, v4] ∧ Same H1 H2)
      ⟨none, none, rfl, fun _ _ e => e⟩ (fun i σ H2 _ ⟨_, _, _, s2⟩ => SqL.of (s2 _ _ hP1.dl)) ?_ ?_⟩
    · rintro i y T' σ H2 hy nT ⟨v3, v4, rfl, s2⟩
      obtain ⟨o, ho, rfl⟩ := dV_get hy
      have hi := (List.getElem?_eq_some_iff.mp ho).1
      have s3 := s2.trans (same_upd (o := .tup [.int (i : Nat), oV o]) nT)
      refine ⟨T', _, rfl, SqT.of upd_same, rfl, _, _, rfl, _, _, rfl, rfl, ?_⟩
      generalize upd H2 T' (.tup [.int (i : Nat), oV o]) = H3 at s3
      have hP3 := hP1.same s3
      obtain ⟨dx3, hx3⟩ := hP3.ob
      refine ⟨_, rfl, _, rfl, (by cases o <;> rfl), _, rfl, ite2B (fun _ => ?_) (fun _ => iteF ⟨_, _, rfl, s3⟩)⟩
      refine ⟨_, rfl, x, dx3, _, rfl, hx3, prF_no_rest, _, rfl, x, R, D, L, qa, ra, rows, cp, d, q, r, i, rfl, hP3, hi, by omega, hJ.restOk i, fun H4 s4 => ⟨_, _, rfl, rfl, _, rfl, ite2B (fun _ => ?_) (fun _ => ⟨_, _, rfl, s3.trans s4⟩)⟩⟩
      refine ⟨_, rfl, _, rfl, (by show 2 ≤ sizeLine; decide), fun E4 nE4 => ⟨(by show 1 ≤ sizeLine; decide), fun z4 nz4 => ?_⟩⟩
      have s5 : Same H4 (upd H4 E4 (.tup [.int (i : Nat), .non])) := same_upd nE4
      have s6 := s5.trans (same_upd (o := .lst [.ref E4]) nz4)
      refine ⟨z, z4, _, _, rfl, rfl, s6 _ _ (s4 _ _ (s3 _ _ hz)), upd_same, ?_, fun z5 nz5 => ?_⟩
      · rw [rV_len, hes.1, List.length_cons, List.length_cons]; exact Nat.le_of_lt (small1000 (by simp; omega))
      · exact k _ _ (s1.trans (s3.trans (s4.trans (s6.trans (same_upd nz5))))) (.inr ⟨_, rfl⟩)
    · rintro σ H2 ⟨v3, v4, rfl, s2⟩
      exact k H2 _ (s1.trans s2) (.inl rfl)
/-! ### raised_by -/
def Better (m : Nat) (p : Nat → Int) (q q' : List Int) (b : Bool) : Prop := nuP m p q' ≤ nuP m p q ∧ (b = true → nuP m p q' < nuP m p q)
def sp_Prices_raised_by (K : PySem.W.Frag) (cS cR cP : Addr) : Sp := fun vs H Q _ => ∃ (x R D L qa ra : Addr) (rows : List (Al Int)) (cp : List Nat) (d : Deal) (q : List Int) (r : Deal) (a : Nat) (u p : Nat → Int), vs = [.ref x, .int a] ∧ PrAt cP H x R D L qa ra rows cp d q r ∧
  PInv rows (fun t => cp.getD t 0) cp.length d u p q r ∧ a < rows.length ∧ cp.length ≤ 6 ∧ (∀ a, (keys (row rows a)).Nodup) ∧
  ∀ H' E b v q' r', SameBut [qa, ra] H H' → PrAt cP H' x R D L qa ra rows cp d q' r' → PInv rows (fun t => cp.getD t 0) cp.length d u p q' r' → H' E = some (.tup [.bl b, v]) → (v = .non ∨ ∃ z, v = .ref z) → Better cp.length p q q' b → Q (.ref E) H'
abbrev nm_Prices_raised_by : List Str := ["self", "asker", "raised", "thing", "worth", "price", "way"]
theorem sc_Prices_raised_by : FnScope nm_Prices_raised_by ["self", "asker"] (defScope s_Prices_raised_by) := ⟨rfl, rfl, rfl, by decide +kernel, rfl, by decide +kernel, by decide +kernel⟩
theorem c_Prices_raised_by (T : Tx K mg cS cR cP) : C8.Met P w K mg base 3 cP "raised_by" (sp_Prices_raised_by K cS cR cP) [] := by
  refine met_of T.c_Prices T.m_Prices_raised_by sc_Prices_raised_by (fun _ _ _ _ _ _ us hl => match us, hl with | [_, _], _ => rfl) (fun vs H Q E h => ?_) (fun f cdv A outer s H vs Q E hr h => ?_)
  · obtain ⟨x, R, D, L, qa, ra, rows, cp, d, q, r, a, u, p, rfl, hA0, hJ0, ha, hc6, nr, k⟩ := h
    rfl
  · obtain ⟨x, R, D, L, qa, ra, rows, cp, d, q, r, a, u, p, rfl, hA0, hJ0, ha, hc6, nr, k⟩ := h
    have hu := hu_of hr
    refine ⟨_, 
    (pss_cons (ps_set (i := 2) sc_Prices_raised_by.nd rfl (by first | exact Or.inl rfl | exact Or.inr rfl) pe_bl)
    (pss_cons (ps_lock (ps_for PassesOwn.never rfl (pi_items (pe_ix ix_list (pe_fld (pv 0) rfl) (pv 1) (fun _ _ => rfl))) (pg_tup rfl (pgs_cons (pg_name (i := 3) sc_Prices_raised_by.nd rfl (by first | exact Or.inl rfl | exact Or.inr rfl)) (pgs_cons (pg_name (i := 4) sc_Prices_raised_by.nd rfl (by first | exact Or.inl rfl | exact Or.inr rfl)) pgs_nil))) 
      (pss_cons (ps_set (i := 5) sc_Prices_raised_by.nd rfl (by first | exact Or.inl rfl | exact Or.inr rfl) (pe_op op_sub (pv 4) (C8.pe_mt (c_Prices_rest T) hr (by decide) (pv 0) (pa_cons (pv 1) pa_nil))))
      (pss_one (ps_if (pt_cmpR op_gt (pv 5) (pe_ix ix_list (pe_fld (pv 0) rfl) (pv 3) (fun _ _ => rfl)) (nomark _)) 
        (pss_cons (ps_asg (pv 5) (pg_sub (pe_fld (pv 0) rfl) (pv 3) set_list))
        (pss_cons (ps_asg (pv 1) (pg_sub (pe_fld (pv 0) rfl) (pv 3) set_list))
        (pss_cons (ps_set (i := 2) sc_Prices_raised_by.nd rfl (by first | exact Or.inl rfl | exact Or.inr rfl) pe_bl)
        (pss_cons (ps_set (i := 6) sc_Prices_raised_by.nd rfl (by first | exact Or.inl rfl | exact Or.inr rfl) (C8.pe_mt (c_Prices_way_by T) hr (by decide) (pv 0) (pa_cons (pv 3) pa_nil)))
        (pss_one (ps_if (pt_cmpR op_notN (pv 6) pe_non (nomark _)) 
          (pss_one (ps_ret (pe_tup (pa_cons (pv 2) (pa_cons (pv 6) pa_nil))))) pss_nil)))))) pss_nil)))))
    (pss_one (ps_ret (pe_tup (pa_cons (pv 2) (pa_cons pe_non pa_nil))))))), ?_⟩
    obtain ⟨as, br, hRl, hbr, hbd, hbn⟩ := hA0.row ha
    obtain ⟨dx, hx⟩ := hA0.R_.ob
    have hdl := hJ0.C.feas.len
    refine ⟨br, _, hbd, True.intro, fun od => ?_⟩
    have xb : x ≠ br := ne_of hx hbd (by intro z; cases z)
    have Rb : R ≠ br := ne_of hRl hbd (by intro z; cases z)
    have qb : qa ≠ br := ne_of hA0.R_.pr_ hbd (by intro z; cases z)
    have rb : ra ≠ br := ne_of hA0.R_.rs hbd (by intro z; cases z)
    refine ⟨_, rfl, x, cP, dx, _, _, rfl, by rw [upd_ne xb]; exact hx, T.c_Prices, T.n_Prices_rows, prF_rows, _, rfl, R, _, _, _, rfl, rfl, SqL.of (by rw [upd_ne Rb]; exact hRl), atI_nat hbr, br, od, _, rfl, upd_same, ?_⟩
    refine for_items (Pv := fun j σ H4 => ∃ v3 v4 v5 v6 b q' r', σ = [some (.ref x), some (.int a), some (.bl b), v3, v4, v5, v6] ∧ H4 br = some (.frz od (.dK (kvG V.int (row rows a)))) ∧
        SameBut [qa, ra] H (upd H4 br (.dK (kvG V.int (row rows a)))) ∧ PrAt cP (upd H4 br (.dK (kvG V.int (row rows a)))) x R D L qa ra rows cp d q' r' ∧ PInv rows (fun t => cp.getD t 0) cp.length d u p q' r' ∧ Better cp.length p q q' b)
      ⟨none, none, none, none, false, q, r, rfl, upd_same, ?_, ?_, hJ0, Nat.le_refl _, (fun e => by cases e)⟩ (fun j σ H4 _ ⟨_, _, _, _, _, _, _, _, h, _⟩ => h) ?_ ?_
    · rw [upd_upd, upd_self hbd]; exact fun _ _ e _ => e
    · rw [upd_upd, upd_self hbd]; exact hA0
    · rintro j kk vv T4 σ H4 hkv nT4 ⟨v3, v4, v5, v6, b, q', r', rfl, hb4, sb4, hA4, hJ, hbt⟩
      obtain ⟨⟨t, w'⟩, hqj, rfl, rfl⟩ := kvG_get hkv
      have hlook : look (row rows a) t = some w' := mem_look (nr a) (List.mem_of_getElem? hqj)
      have htm : t < cp.length := hJ.C.keys a t w' hlook
      have nbr : T4 ≠ br := (ne_of_none hb4 nT4).symm
      have hT5 : (upd H4 T4 (.tup [kV (Sum.inl (t : Int)), V.int w'])) T4 = some (.tup [V.int (t : Int), V.int w']) := upd_same
      have h45 : Same H4 (upd H4 T4 (.tup [kV (Sum.inl (t : Int)), V.int w'])) := same_upd nT4
      generalize upd H4 T4 (.tup [kV (Sum.inl (t : Int)), V.int w']) = H5 at hT5 h45
      -- a move of the true heap is a move of the heap as it is seen unlocked
      have up : ∀ {Ha Hb : Hp}, Same Ha Hb → Same (upd Ha br (.dK (kvG V.int (row rows a)))) (upd Hb br (.dK (kvG V.int (row rows a)))) := fun {Ha Hb} s c o e => by
        by_cases z : c = br
        · subst z; rw [upd_same] at e ⊢; exact e
        · rw [upd_ne z] at e ⊢; exact s _ _ e
      have hb5 := h45 _ _ hb4
      have hA5 := hA4.same (up h45)
      have sb5 := sb4.trans (.of (up h45) _)
      have hR5 := PrR.lock hb5 hA5.R_
      obtain ⟨dx5, hx5⟩ := hR5.ob
      refine ⟨T4, _, rfl, SqT.of hT5, rfl, _, _, rfl, _, _, rfl, rfl, ?_⟩
      -- price = worth - self.rest(asker)
      refine ⟨_, rfl, _, rfl, x, dx5, _, rfl, hx5, prF_no_rest, _, rfl, x, R, D, L, qa, ra, rows, cp, d, q', r', a, rfl, hR5, by omega, by omega, hJ.restOk a, fun H6 s6 => ⟨_, _, rfl, rfl, ?_⟩⟩
      have hb6 := s6 _ _ hb5
      have hA6 := hA5.same (up s6)
      have sb6 := sb5.trans (.of (up s6) _)
      have hR6 := PrR.lock hb6 hA6.R_
      obtain ⟨dx6, hx6⟩ := hR6.ob
      have htq : t < q'.length := by rw [hJ.lq]; exact htm
      have hq6 : (iV q')[t]? = some (.int (pAt q' t)) := iV_at (by unfold pAt; rw [List.getD_eq_getElem?_getD, List.getElem?_eq_getElem htq]; rfl)
      refine ⟨_, rfl, _, rfl, x, cP, dx6, _, _, rfl, hx6, T.c_Prices, T.n_Prices_prices, prF_prices, _, rfl, qa, _, _, _, rfl, rfl, SqL.of hR6.pr_, atI_nat hq6, _, _, rfl, rfl, _, rfl, ite2B (fun hgt => ?_) (fun _ => ?_)⟩
      · have hgt' : pAt q' t < w' - rest rows d q' a := of_decide_eq_true hgt
        obtain ⟨hJ7, hnu⟩ := hJ.raise hlook hgt'
        -- self.prices[thing] = price
        refine ⟨_, rfl, _, rfl, x, cP, dx6, _, _, rfl, hx6, T.c_Prices, T.n_Prices_prices, prF_prices, _, rfl, qa, _, _, t, rfl, rfl, hR6.pr_, ?_, ?_⟩
        · unfold ixN
          rw [iV_len, if_pos (by omega), if_pos (by omega)]; simp
        have eQ : (iV q').set t (.int (w' - rest rows d q' a)) = iV (q'.set t (w' - rest rows d q' a)) := by unfold iV; rw [List.map_set]
        rw [eQ]
        have hb7 : (upd H6 qa (.lst (iV (q'.set t (w' - rest rows d q' a))))) br = some (.frz od (.dK (kvG V.int (row rows a)))) := by rw [upd_ne qb.symm]; exact hb6
        have eU : upd (upd H6 qa (.lst (iV (q'.set t (w' - rest rows d q' a))))) br (.dK (kvG V.int (row rows a))) = upd (upd H6 br (.dK (kvG V.int (row rows a)))) qa (.lst (iV (q'.set t (w' - rest rows d q' a)))) := upd_comm qb
        have hA7 : PrAt cP (upd (upd H6 qa (.lst (iV (q'.set t (w' - rest rows d q' a))))) br (.dK (kvG V.int (row rows a)))) x R D L qa ra rows cp d (q'.set t (w' - rest rows d q' a)) r' := by rw [eU]; exact hA6.setQ
        have sb7 : SameBut [qa, ra] H (upd (upd H6 qa (.lst (iV (q'.set t (w' - rest rows d q' a))))) br (.dK (kvG V.int (row rows a)))) := by rw [eU]; exact sb6.trans (sameBut_upd (by simp))
        generalize upd H6 qa (.lst (iV (q'.set t (w' - rest rows d q' a)))) = H7 at hb7 hA7 sb7
        have hR7 := PrR.lock hb7 hA7.R_
        obtain ⟨dx7, hx7⟩ := hR7.ob
        -- self.raisers[thing] = asker
        refine ⟨_, rfl, _, rfl, x, cP, dx7, _, _, rfl, hx7, T.c_Prices, T.n_Prices_raisers, prF_raisers, _, rfl, ra, _, _, t, rfl, rfl, hR7.rs, ?_, ?_⟩
        · unfold ixN
          rw [dV_len, hJ.lr, if_pos (by omega), if_pos (by omega)]; simp
        have eR : (dV r').set t (.int (a : Nat)) = dV (r'.set t (some a)) := dV_set r' t (some a)
        rw [eR]
        have hb8 : (upd H7 ra (.lst (dV (r'.set t (some a))))) br = some (.frz od (.dK (kvG V.int (row rows a)))) := by rw [upd_ne rb.symm]; exact hb7
        have eU2 : upd (upd H7 ra (.lst (dV (r'.set t (some a))))) br (.dK (kvG V.int (row rows a))) = upd (upd H7 br (.dK (kvG V.int (row rows a)))) ra (.lst (dV (r'.set t (some a)))) := upd_comm rb
        have hA8 : PrAt cP (upd (upd H7 ra (.lst (dV (r'.set t (some a))))) br (.dK (kvG V.int (row rows a)))) x R D L qa ra rows cp d (q'.set t (w' - rest rows d q' a)) (r'.set t (some a)) := by rw [eU2]; exact hA7.setR
        have sb8 : SameBut [qa, ra] H (upd (upd H7 ra (.lst (dV (r'.set t (some a))))) br (.dK (kvG V.int (row rows a)))) := by rw [eU2]; exact sb7.trans (sameBut_upd (by simp))
        generalize upd H7 ra (.lst (dV (r'.set t (some a)))) = H8 at hb8 hA8 sb8
        have hR8 := PrR.lock hb8 hA8.R_
        obtain ⟨dx8, hx8⟩ := hR8.ob
        have hgot : got (r'.set t (some a)) t = some a := by rw [got_set, if_pos ⟨rfl, by rw [hJ.lr]; exact htm⟩]
        have hbt8 : Better cp.length p q (q'.set t (w' - rest rows d q' a)) true := ⟨by have := hbt.1; omega, fun _ => by have := hbt.1; omega⟩
        -- way = self.way_by(thing)
        refine ⟨_, rfl, x, dx8, _, rfl, hx8, prF_no_way_by, _, rfl, x, R, D, L, qa, ra, rows, cp, d, _, _, t, a, u, p, rfl, hR8, hJ7, hgot, hc6, fun H9 v s9 hv => ?_⟩
        have hb9 := s9 _ _ hb8
        have hA9 := hA8.same (up s9)
        have sb9 := sb8.trans (.of (up s9) _)
        refine ⟨_, rfl, rfl, _, rfl, ite2B (fun _ => ?_) (fun _ => ?_)⟩
        · refine ⟨_, rfl, _, rfl, (by show 2 ≤ sizeLine; decide), fun E nE => ?_⟩
          have s10 : Same H9 (upd H9 E (.tup [.bl true, v])) := same_upd nE
          have Eb : E ≠ br := (ne_of_none hb9 nE).symm
          exact ⟨s10 _ _ hb9, k _ E true v _ _ (sb9.trans (.of (up s10) _)) (hA9.same (up s10)) hJ7 (by rw [upd_ne Eb, upd_same]) hv hbt8⟩
        · exact ⟨_, _, _, _, true, _, _, rfl, hb9, sb9, hA9, hJ7, hbt8⟩
      · exact ⟨_, _, _, _, b, q', r', rfl, hb6, sb6, hA6, hJ, hbt⟩
    · rintro σ H4 ⟨v3, v4, v5, v6, b, q', r', rfl, hb4, sb4, hA4, hJ, hbt⟩
      refine ⟨hb4, _, rfl, (by show 2 ≤ sizeLine; decide), fun E nE => ?_⟩
      have s5 := same_upd (o := .tup [.bl b, .non]) nE
      exact k _ E b .non q' r' (sb4.trans (.of s5 _)) (hA4.same s5) hJ upd_same (.inl rfl) hbt
end
end WD

set_option Elab.async false
set_option linter.all false
set_option maxRecDepth 100000
set_option maxHeartbeats 4000000
namespace WD
open PySem PySem.Spec PyProof.Rows L2
section
variable {P : Program} {w : World} {K : PySem.W.Frag} {mg : Str → Option Value} {base : Heap} {cS cR cP : Addr}
theorem Better.trans {m : Nat} {p : Nat → Int} {q q1 q2 : List Int} {b c : Bool} (h1 : Better m p q q1 b) (h2 : Better m p q1 q2 c) : Better m p q q2 (b || c) := by
  obtain ⟨h3, h4⟩ := h1
  obtain ⟨h5, h6⟩ := h2
  refine ⟨by omega, fun e => ?_⟩
  rcases Bool.or_eq_true_iff.mp e with e | e
  · have := h4 e; omega
  · have := h6 e; omega
/-! ### settle -/
def sp_Prices_settle (K : PySem.W.Frag) (cS cR cP : Addr) : Sp := fun vs H Q _ => ∃ (x R D L qa ra : Addr) (rows : List (Al Int)) (cp : List Nat) (d : Deal) (q : List Int) (r : Deal) (u p : Nat → Int), vs = [.ref x] ∧ PrAt cP H x R D L qa ra rows cp d q r ∧
  PInv rows (fun t => cp.getD t 0) cp.length d u p q r ∧ cp.length ≤ 6 ∧ rows.length ≤ 7 ∧ (∀ a, (keys (row rows a)).Nodup) ∧
  ∀ H' v q' r', SameBut [qa, ra] H H' → PrAt cP H' x R D L qa ra rows cp d q' r' → PInv rows (fun t => cp.getD t 0) cp.length d u p q' r' → Q v H'
abbrev nm_Prices_settle : List Str := ["self", "raised", "asker", "more", "way"]
theorem sc_Prices_settle : FnScope nm_Prices_settle ["self"] (defScope s_Prices_settle) := ⟨rfl, rfl, rfl, by decide +kernel, rfl, by decide +kernel, by decide +kernel⟩
theorem c_Prices_settle (T : Tx K mg cS cR cP) : C8.Met P w K mg base 4 cP "settle" (sp_Prices_settle K cS cR cP) [] := by
  refine met_of T.c_Prices T.m_Prices_settle sc_Prices_settle (fun _ _ _ _ _ _ us hl => match us, hl with | [_], _ => rfl) (fun vs H Q E h => ?_) (fun f cdv A outer s H vs Q E hr h => ?_)
  · obtain ⟨x, R, D, L, qa, ra, rows, cp, d, q, r, u, p, rfl, hA0, hJ0, hc6, h7, nr, k⟩ := h
    rfl
  · obtain ⟨x, R, D, L, qa, ra, rows, cp, d, q, r, u, p, rfl, hA0, hJ0, hc6, h7, nr, k⟩ := h
    have hu := hu_of hr
    refine ⟨_, 
    (pss_cons (ps_set (i := 1) sc_Prices_settle.nd rfl (by first | exact Or.inl rfl | exact Or.inr rfl) pe_bl)
    (pss_cons (ps_while PassesOwn.never (pt_val (pv 1)) 
      (pss_cons (ps_set (i := 1) sc_Prices_settle.nd rfl (by first | exact Or.inl rfl | exact Or.inr rfl) pe_bl)
      (pss_one (ps_for PassesOwn.never rfl (pi_range1 rfl T.b_range (pa_cons (pe_callB call_len_seq (by rfl) T.b_len bo_len (pa_cons (pe_fld (pv 0) rfl) pa_nil)) pa_nil)) (pg_name (i := 2) sc_Prices_settle.nd rfl (by first | exact Or.inl rfl | exact Or.inr rfl)) 
        (pss_cons (ps_asg (C8.pe_mt (c_Prices_raised_by T) hr (by decide) (pv 0) (pa_cons (pv 2) pa_nil)) (pg_tup rfl (pgs_cons (pg_name (i := 3) sc_Prices_settle.nd rfl (by first | exact Or.inl rfl | exact Or.inr rfl)) (pgs_cons (pg_name (i := 4) sc_Prices_settle.nd rfl (by first | exact Or.inl rfl | exact Or.inr rfl)) pgs_nil))))
        (pss_cons (ps_if (pt_cmpR op_notN (pv 4) pe_non (nomark _)) 
          (pss_one (ps_ret (pv 4))) pss_nil)
        (pss_one (ps_set (i := 1) sc_Prices_settle.nd rfl (by first | exact Or.inl rfl | exact Or.inr rfl) (pe_or (pv 1) (pe_one (pv 3)))))))))))
    (pss_one (ps_ret pe_non)))), ?_⟩
    refine ⟨fun n σ H1 => ∃ b v2 v3 v4 q1 r1, σ = [some (.ref x), some (.bl b), v2, v3, v4] ∧ SameBut [qa, ra] H H1 ∧ PrAt cP H1 x R D L qa ra rows cp d q1 r1 ∧ PInv rows (fun t => cp.getD t 0) cp.length d u p q1 r1 ∧ n = 2 * nuP cp.length p q1 + (if b = true then 1 else 0),
      ⟨_, true, none, none, none, q, r, rfl, fun _ _ e _ => e, hA0, hJ0, rfl⟩, ?_⟩
    rintro n σ H1 ⟨b, v2, v3, v4, q1, r1, rfl, sb1, hA1, hJ1, rfl⟩
    refine ⟨_, rfl, b, rfl, ?_⟩
    cases b with
    | false =>
      exact iteF (k H1 _ q1 r1 sb1 hA1 hJ1)
    | true =>
      refine iteT ⟨fun σ' H' => ∃ b v2 v3 v4 q2 r2, σ' = [some (.ref x), some (.bl b), v2, v3, v4] ∧ SameBut [qa, ra] H H' ∧ PrAt cP H' x R D L qa ra rows cp d q2 r2 ∧ PInv rows (fun t => cp.getD t 0) cp.length d u p q2 r2 ∧ Better cp.length p q1 q2 b, ?_, ?_⟩
      · rintro σ' H' ⟨b, v2, v3, v4, q2, r2, rfl, g1, g2, g3, g4⟩
        refine ⟨_, ?_, b, v2, v3, v4, q2, r2, rfl, g1, g2, g3, rfl⟩
        obtain ⟨h1, h2⟩ := g4
        cases b with
        | false => simp; omega
        | true => have := h2 rfl; simp; omega
      obtain ⟨dx, hx⟩ := hA1.R_.ob
      obtain ⟨as, hRl, has⟩ := hA1.R_.rw_
      refine ⟨_, rfl, x, cP, dx, _, _, rfl, hx, T.c_Prices, T.n_Prices_rows, prF_rows, R, _, rfl, .inl (SqL.of hRl), _, rfl, by rw [rV_len, has.1]; omega, by rw [rV_len, has.1]; omega, for_range (lo := 0) (n := ((rV as).length : Int).toNat) (fun i σ H3 => ∃ b v2 v3 v4 q2 r2, σ = [some (.ref x), some (.bl b), v2, v3, v4] ∧ SameBut [qa, ra] H H3 ∧ PrAt cP H3 x R D L qa ra rows cp d q2 r2 ∧
          PInv rows (fun t => cp.getD t 0) cp.length d u p q2 r2 ∧ Better cp.length p q1 q2 b) ⟨false, _, _, _, q1, r1, rfl, sb1, hA1, hJ1, Nat.le_refl _, (fun e => by cases e)⟩ ?_ ?_⟩
      · rintro i σ H3 hi ⟨b, v2, v3, v4, q2, r2, rfl, sb3, hA3, hJ3, hB3⟩
        have hi' : i < rows.length := by
          have := has.1
          rw [rV_len] at hi; omega
        obtain ⟨dx3, hx3⟩ := hA3.R_.ob
        refine ⟨_, rfl, x, dx3, _, rfl, hx3, prF_no_raised_by, _, rfl, x, R, D, L, qa, ra, rows, cp, d, q2, r2, i, u, p, by rw [Int.zero_add]; rfl, hA3, hJ3, hi', hc6, nr, fun H4 E c v q4 r4 sb4 hA4 hJ4 hE hv hB4 => ?_⟩
        refine ⟨E, _, rfl, SqT.of hE, rfl, _, _, rfl, _, _, rfl, rfl, ?_⟩
        refine ⟨_, rfl, rfl, _, rfl, ite2B (fun _ => ?_) (fun _ => ?_)⟩
        · exact ⟨_, rfl, k H4 v q4 r4 (sb3.trans sb4) hA4 hJ4⟩
        · have hB5 := hB3.trans hB4
          refine ⟨_, rfl, b, rfl, ?_⟩
          cases b with
          | true => exact iteT ⟨true, _, _, _, q4, r4, rfl, sb3.trans sb4, hA4, hJ4, hB5⟩
          | false => exact iteF ⟨_, rfl, c, _, _, _, q4, r4, rfl, sb3.trans sb4, hA4, hJ4, hB5⟩
      · rintro σ H3 ⟨b, v2, v3, v4, q2, r2, rfl, sb3, hA3, hJ3, hB3⟩
        exact ⟨b, v2, v3, v4, q2, r2, rfl, sb3, hA3, hJ3, hB3⟩
/-! ### told -/
def sp_Prices_told (K : PySem.W.Frag) (cS cR cP : Addr) : Sp := fun vs H Q _ => ∃ (x R D L qa ra : Addr) (rows : List (Al Int)) (cp : List Nat) (d : Deal) (q : List Int) (r : Deal) (u p : Nat → Int), vs = [.ref x] ∧ PrAt cP H x R D L qa ra rows cp d q r ∧
  PInv rows (fun t => cp.getD t 0) cp.length d u p q r ∧ cp.length ≤ 6 ∧ rows.length ≤ 7 ∧
  ∀ H' E, Same H H' → Q (.ref E) H'
abbrev nm_Prices_told : List Str := ["self", "asks", "asker"]
theorem sc_Prices_told : FnScope nm_Prices_told ["self"] (defScope s_Prices_told) := ⟨rfl, rfl, rfl, by decide +kernel, rfl, by decide +kernel, by decide +kernel⟩
theorem c_Prices_told (T : Tx K mg cS cR cP) : C8.Met P w K mg base 2 cP "told" (sp_Prices_told K cS cR cP) [] := by
  refine met_of T.c_Prices T.m_Prices_told sc_Prices_told (fun _ _ _ _ _ _ us hl => match us, hl with | [_], _ => rfl) (fun vs H Q E h => ?_) (fun f cdv A outer s H vs Q E hr h => ?_)
  · obtain ⟨x, R, D, L, qa, ra, rows, cp, d, q, r, u, p, rfl, hA0, hJ0, hc6, h7, k⟩ := h
    rfl
  · obtain ⟨x, R, D, L, qa, ra, rows, cp, d, q, r, u, p, rfl, hA0, hJ0, hc6, h7, k⟩ := h
    have hu := hu_of hr
    refine ⟨_, 
    (pss_cons (ps_setLc (i := 1) (own := [("asker", 2)]) (g := gName 2) (tt := tYes) rfl sc_Prices_told.nd rfl rfl (sw_true rfl rfl rfl (by decide +kernel)) (pi_range1 rfl T.b_range (pa_cons (pe_callB call_len_seq (by rfl) T.b_len bo_len (pa_cons (pe_fld (pv 0) rfl) pa_nil)) pa_nil)) (blkOk_by (own := [("asker", 2)]) (N := nm_Prices_told) (sc := defScope s_Prices_told) (by decide +kernel)) (fun _ _ _ _ _ => (pg_name (i := 2) sc_Prices_told.nd rfl (by first | exact Or.inl rfl | exact Or.inr rfl))) (fun _ _ _ _ _ => pts_nil) (fun _ _ _ _ _ => (C8.pe_mt (c_Prices_rest T) hr (by decide) (pv 0) (pa_cons (pv 2) pa_nil))))
    (pss_one (ps_ret (pe_tup (pa_cons pe_int (pa_cons (pv 1) (pa_cons (pe_callTy call_list_of (by rfl) T.b_list bo_list (pa_cons (pe_fld (pv 0) rfl) pa_nil)) pa_nil))))))), ?_⟩
    obtain ⟨dx, hx⟩ := hA0.R_.ob
    obtain ⟨as, hRl, has⟩ := hA0.R_.rw_
    have hdl := hJ0.C.feas.len
    refine ⟨_, rfl, x, cP, dx, _, _, rfl, hx, T.c_Prices, T.n_Prices_rows, prF_rows, R, _, rfl, .inl (SqL.of hRl), _, rfl, by rw [rV_len, has.1]; omega, by rw [rV_len, has.1]; omega, fun z nz => ?_⟩
    refine lc_range (lo := 0) (n := ((rV as).length : Int).toNat) (fun i H2 => ∃ ys : List Int, Same H H2 ∧ H2 z = some (.lst (iV ys)) ∧ ys.length = i) ⟨[], same_upd nz, upd_same, rfl⟩ ?_ ?_
    · rintro i H2 hi ⟨ys, s2, hz, hyl⟩
      have hi' : i < rows.length := by
        have := has.1
        rw [rV_len] at hi; omega
      have hA2 := hA0.same s2
      obtain ⟨dx2, hx2⟩ := hA2.R_.ob
      refine ⟨rfl, ?_⟩
      refine ⟨_, rfl, x, dx2, _, rfl, hx2, prF_no_rest, _, rfl, x, R, D, L, qa, ra, rows, cp, d, q, r, i, by rw [Int.zero_add]; rfl, hA2.R_, by omega, by omega, hJ0.restOk i, fun H3 s3 => ?_⟩
      refine ⟨_, s3 _ _ hz, ?_, ys ++ [rest rows d q i], fun b u h => ?_, ?_, ?_⟩
      · rw [iV_len, hyl]; exact small1000 (by omega)
      · rw [upd_ne (ne_of_none h nz)]; exact s3 _ _ (s2 _ _ h)
      · rw [upd_same]; unfold iV; rw [List.map_append]; rfl
      · rw [List.length_append, hyl]; rfl
    · rintro H2 ⟨ys, s2, hz, hyl⟩
      have hA2 := hA0.same s2
      obtain ⟨dx2, hx2⟩ := hA2.R_.ob
      refine ⟨_, rfl, _, rfl, x, cP, dx2, _, _, rfl, hx2, T.c_Prices, T.n_Prices_prices, prF_prices, qa, _, rfl, .inl (SqL.of hA2.R_.pr_), fun l nl => ⟨(by show 3 ≤ sizeLine; decide), fun E nE => ?_⟩⟩
      exact k _ E (s2.trans ((same_upd nl).trans (same_upd nE)))
/-! ### best_dealing -/
def sp_best_dealing : Sp := fun vs H Q _ => ∃ (p a : Addr) (W : Wish) (o : Str) (old : Option (List (Option Nat))), vs = [.ref p, .ref a] ∧ WAt H p W ∧ VW W ∧ AimAt H a o old ∧ Ord o ∧ OldOk W old ∧
  ∀ H' E z v (rows : List (Al Int)) d u pp, Same H H' → H z = none → H' E = some (.tup [.ref z, v]) → H' z = some (.lst (dV d)) → RowsOk o old W rows → Cert rows (fun t => W.1.getD t 0) W.1.length rows.length d u pp → Q (.ref E) H'
abbrev nm_best_dealing : List Str := ["wishes", "aim", "dealing", "prices"]
theorem sc_best_dealing : FnScope nm_best_dealing ["wishes", "aim"] (defScope s_best_dealing) := ⟨rfl, rfl, rfl, by decide +kernel, rfl, by decide +kernel, by decide +kernel⟩
theorem c_best_dealing (T : Tx K mg cS cR cP) : C8.Cal P w K mg base 11 "best_dealing" sp_best_dealing [] := by
  refine cal_of T.d_best_dealing sc_best_dealing (fun _ _ _ _ _ _ us hl => match us, hl with | [_, _], _ => rfl) (fun vs H Q E h => ?_) (fun f cdv A outer s H vs Q E hr h => ?_)
  · obtain ⟨p, a, W, o, old, rfl, hW, hV, hA, ho, hK, k⟩ := h
    rfl
  · obtain ⟨p, a, W, o, old, rfl, hW, hV, hA, ho, hK, k⟩ := h
    have hu := hu_of hr
    refine ⟨_, 
    (pss_cons (ps_set (i := 2) sc_best_dealing.nd rfl (by first | exact Or.inl rfl | exact Or.inr rfl) (C8.pe_c (c_dealt_best T) hr (by decide) rfl (pa_cons (pv 0) (pa_cons (pv 1) pa_nil))))
    (pss_cons (ps_set (i := 3) sc_best_dealing.nd rfl (by first | exact Or.inl rfl | exact Or.inr rfl) (C8.pe_mk (k_Prices T) hr (by decide) rfl (pa_cons (C8.pe_c (c_rows_by T) hr (by decide) rfl (pa_cons (pv 0) (pa_cons (pv 1) pa_nil))) (pa_cons (pe_ix ix_tup (pv 0) pe_int (fun _ _ => rfl)) (pa_cons (pv 2) pa_nil)))))
    (pss_cons (ps_expr (C8.pe_mt0 (c_Prices_settle T) hr (by decide) (pv 3)))
    (pss_one (ps_ret (pe_tup (pa_cons (pv 2) (pa_cons (C8.pe_mt0 (c_Prices_told T) hr (by decide) (pv 3)) pa_nil)))))))), ?_⟩
    refine ⟨_, rfl, _, rfl, p, a, W, o, old, rfl, hW, hV, hA, ho, hK, fun H1 z rows1 d u pp s1 nz hz hR1 hC1 => ?_⟩
    refine ⟨_, rfl, _, rfl, p, a, W, o, old, rfl, hW.same s1, hV, hA.same s1, ho, hK, fun H2 R rows s2 hR hRO => ?_⟩
    have hC : Cert rows (fun t => W.1.getD t 0) W.1.length rows.length d u pp := by
      have e : rows1.length = rows.length := by rw [hR1.len, hRO.len]
      have := hC1.congr e (fun a t => hR1.look_eq hRO a t)
      rw [e] at this; exact this
    have s12 := s1.trans s2
    obtain ⟨c, l, hp, hc, bs, hl, hbs⟩ := hW.same s12
    have hz2 := s2 _ _ hz
    have hl7 := hV.l7
    have hlen := hRO.len
    have hdl := hC.feas.len
    have hlt : ∀ a t, got d a = some t → t < W.1.length := fun a t h => by
      obtain ⟨w', hw'⟩ := hC.feas.wish a t h
      exact hC.keys a t w' hw'
    -- prices = Prices(rows_by(wishes, aim), wishes[0], dealing)
    refine ⟨_, rfl, p, _, _, _, rfl, rfl, SqT.of hp, rfl, _, rfl, fun x dx nx ndx nex => ?_⟩
    have sx : Same H2 (upd (upd H2 dx (.own x)) x (.ins cP dx [])) := fun b u e => by
      rw [upd_ne (ne_of_none e nx), upd_ne (ne_of_none e ndx)]; exact e
    have hx1 : ∀ b ∈ [x], H2 b = none := fun b hb => by
      have : b = x := by simpa using hb
      rw [this]; exact nx
    refine ⟨x, dx, R, c, z, rows, W.1, d, rfl, upd_same, hR.same (hid_new sx hx1), sx _ _ hc, sx _ _ hz2, fun t ht => ?_, by omega, hV.c6, fun H3 D' L qa ra sb3 hA3 fq => ⟨rfl, ?_⟩⟩
    · obtain ⟨i, hi, e⟩ := List.mem_iff_getElem.mp ht
      exact hlt i t (got_of (by rw [List.getElem?_eq_getElem hi, e]))
    have s3 : Same H2 H3 := fun b u e => sb3 b u (sx b u e) (fun q => by rw [hx1 b q] at e; cases e)
    have old2 : ∀ {b : Addr} {u : HO}, H2 b = some u → b ∉ [qa, ra] := fun {b u} e hm => by
      have h1 := fq b hm
      have h2 : hid [x] (upd (upd H2 dx (.own x)) x (.ins cP dx [])) b = some u := hid_new sx hx1 b u e
      rw [h1] at h2; cases h2
    obtain ⟨dx3, hx3⟩ := hA3.R_.ob
    -- prices.settle()
    refine ⟨_, rfl, x, dx3, _, rfl, hx3, prF_no_settle, x, R, D', L, qa, ra, rows, W.1, d, _, _, u, pp, rfl, hA3, pinv_start hC, hV.c6, by omega, hRO.nd, fun H4 v q4 r4 sb4 hA4 hJ4 => ?_⟩
    have s4 : Same H2 H4 := fun b u e => sb4 b u (s3 b u e) (old2 e)
    obtain ⟨dx4, hx4⟩ := hA4.R_.ob
    -- (dealing, prices.told())
    refine ⟨_, rfl, _, rfl, x, dx4, _, rfl, hx4, prF_no_told, x, R, D', L, qa, ra, rows, W.1, d, q4, r4, u, pp, rfl, hA4, hJ4, hV.c6, by omega, fun H5 E5 s5 => ⟨(by show 2 ≤ sizeLine; decide), fun E nE => ?_⟩⟩
    have s6 := s5.trans (same_upd (o := .tup [.ref z, .ref E5]) nE)
    exact k _ E z _ rows d u pp (s12.trans (s4.trans s6)) nz upd_same (s6 _ _ (s4 _ _ hz2)) hRO hC
end
end WD

set_option Elab.async false
set_option linter.all false
set_option maxRecDepth 100000
set_option maxHeartbeats 4000000
namespace WD
open PySem PySem.Spec PyProof.Rows L2
/-! ### changes, in plain -/
inductive Chg where
  | list (a : Nat) (rs : List (List Nat))
  | copies (t c : Nat)
  | come (rs : List (List Nat))
  | go (a : Nat)
  | thing (c : Nat)
def behind (W : Wish) : Chg → Wish
  | .list a rs => (W.1, W.2.set a rs)
  | .copies t c => (W.1.set t c, W.2)
  | .come rs => (W.1, W.2 ++ [rs])
  | .go a => (W.1, W.2.eraseIdx a)
  | .thing c => (W.1 ++ [c], W.2)
def carry (g : Chg) (d : List (Option Nat)) : List (Option Nat) := match g with
  | .come _ => d ++ [none]
  | .go a => d.eraseIdx a
  | _ => d
def Good (W : Wish) : Chg → Prop
  | .list a rs => a < W.2.length ∧ VR W.1.length rs
  | .copies t c => t < W.1.length ∧ c ≤ 7
  | .come rs => W.2.length < 7 ∧ VR W.1.length rs
  | .go a => a < W.2.length ∧ 1 < W.2.length
  | .thing c => W.1.length < 6 ∧ c ≤ 7
theorem VR.more {m m' : Nat} {rs : List (List Nat)} (h : VR m rs) (e : m ≤ m') : VR m' rs := ⟨h.few, h.ne, h.nd, fun t ht => Nat.lt_of_lt_of_le (h.lt t ht) e⟩
theorem Good.vw {W : Wish} {g : Chg} (hV : VW W) (hg : Good W g) : VW (behind W g) := by
  cases g with
  | list a rs =>
    obtain ⟨h1, h2⟩ := hg
    refine ⟨hV.c1, hV.c6, hV.c7, by show 1 ≤ (W.2.set a rs).length; rw [List.length_set]; exact hV.l1, by show (W.2.set a rs).length ≤ 7; rw [List.length_set]; exact hV.l7, fun x hx => ?_⟩
    rcases List.mem_or_eq_of_mem_set hx with h | h
    · exact hV.rs x h
    · rw [h]; exact h2
  | copies t c =>
    obtain ⟨h1, h2⟩ := hg
    refine ⟨by show 1 ≤ (W.1.set t c).length; rw [List.length_set]; exact hV.c1, by show (W.1.set t c).length ≤ 6; rw [List.length_set]; exact hV.c6, fun x hx => ?_, hV.l1, hV.l7, fun x hx => ?_⟩
    · rcases List.mem_or_eq_of_mem_set hx with h | h
      · exact hV.c7 x h
      · rw [h]; exact h2
    · show VR (W.1.set t c).length x
      rw [List.length_set]; exact hV.rs x hx
  | come rs =>
    obtain ⟨h1, h2⟩ := hg
    refine ⟨hV.c1, hV.c6, hV.c7, by show 1 ≤ (W.2 ++ [rs]).length; simp, by show (W.2 ++ [rs]).length ≤ 7; simp; omega, fun x hx => ?_⟩
    rcases List.mem_append.mp hx with h | h
    · exact hV.rs x h
    · have : x = rs := by simpa using h
      rw [this]; exact h2
  | go a =>
    obtain ⟨h1, h2⟩ := hg
    have := hV.l7
    refine ⟨hV.c1, hV.c6, hV.c7, by show 1 ≤ (W.2.eraseIdx a).length; rw [List.length_eraseIdx_of_lt h1]; omega, by show (W.2.eraseIdx a).length ≤ 7; rw [List.length_eraseIdx_of_lt h1]; omega, fun x hx => hV.rs x (List.mem_of_mem_eraseIdx hx)⟩
  | thing c =>
    obtain ⟨h1, h2⟩ := hg
    refine ⟨by show 1 ≤ (W.1 ++ [c]).length; simp, by show (W.1 ++ [c]).length ≤ 6; simp; omega, fun x hx => ?_, hV.l1, hV.l7, fun x hx => (hV.rs x hx).more (by show W.1.length ≤ (W.1 ++ [c]).length; simp)⟩
    rcases List.mem_append.mp hx with h | h
    · exact hV.c7 x h
    · have : x = c := by simpa using h
      rw [this]; exact h2
theorem Good.old {W : Wish} {g : Chg} {d : List (Option Nat)} (hg : Good W g) (hl : d.length = W.2.length) (ht : ∀ t, some t ∈ d → t < W.1.length) : OldOk (behind W g) (some (carry g d)) := by
  cases g with
  | list a rs => exact ⟨by show d.length = (W.2.set a rs).length; rw [List.length_set]; exact hl, ht⟩
  | copies t c => exact ⟨hl, fun s hs => by show s < (W.1.set t c).length; rw [List.length_set]; exact ht s hs⟩
  | come rs =>
    refine ⟨by show (d ++ [none]).length = (W.2 ++ [rs]).length; simp [hl], fun s hs => ?_⟩
    rcases List.mem_append.mp hs with h | h
    · exact ht s h
    · simp at h
  | go a => exact ⟨by show (d.eraseIdx a).length = (W.2.eraseIdx a).length; rw [List.length_eraseIdx_of_lt hg.1, List.length_eraseIdx_of_lt (by rw [hl]; exact hg.1), hl], fun s hs => ht s (List.mem_of_mem_eraseIdx hs)⟩
  | thing c => exact ⟨hl, fun s hs => by show s < (W.1 ++ [c]).length; have := ht s hs; simp; omega⟩
def ChgAt (H : Hp) (p : Addr) : Chg → Prop
  | .list a rs => ∃ z, H p = some (.tup [.str ("list" : Str), .int a, .ref z]) ∧ RksAt H z rs
  | .copies t c => H p = some (.tup [.str ("copies" : Str), .int t, .int c])
  | .come rs => ∃ z, H p = some (.tup [.str ("come" : Str), .ref z]) ∧ RksAt H z rs
  | .go a => H p = some (.tup [.str ("go" : Str), .int a])
  | .thing c => H p = some (.tup [.str ("thing" : Str), .int c])
theorem ChgAt.same {H H' : Hp} {p : Addr} {g : Chg} (s : Same H H') (h : ChgAt H p g) : ChgAt H' p g := by
  cases g with
  | list a rs => obtain ⟨z, h1, h2⟩ := h; exact ⟨z, s _ _ h1, h2.same s⟩
  | copies t c => exact s _ _ h
  | come rs => obtain ⟨z, h1, h2⟩ := h; exact ⟨z, s _ _ h1, h2.same s⟩
  | go a => exact s _ _ h
  | thing c => exact s _ _ h
theorem map_erase {α β : Type} (f : α → β) : ∀ (l : List α) (i : Nat), (l.map f).eraseIdx i = (l.eraseIdx i).map f
  | [], i => rfl
  | x :: l, 0 => rfl
  | x :: l, i + 1 => by
    show f x :: (l.map f).eraseIdx i = f x :: (l.eraseIdx i).map f
    rw [map_erase f l i]
theorem str_t (a : Str) : decide (V.str a = V.str a) = true := decide_eq_true rfl
theorem str_f {a b : Str} (h : a ≠ b) : decide (V.str a = V.str b) = false := decide_eq_false (fun e => h (by injection e))
theorem allAt_set {α : Type} {F : Addr → α → Prop} {as : List Addr} {xs : List α} (h : AllAt F as xs) (i : Nat) {a : Addr} {x : α} (hx : F a x) : AllAt F (as.set i a) (xs.set i x) := by
  refine ⟨by rw [List.length_set, List.length_set]; exact h.1, fun j b y h1 h2 => ?_⟩
  rw [List.getElem?_set] at h1 h2
  by_cases e : i = j
  · rw [if_pos e] at h1 h2
    split at h1
    · cases h1
      split at h2
      · cases h2; exact hx
      · cases h2
    · cases h1
  · rw [if_neg e] at h1 h2
    exact h.2 j b y h1 h2
theorem allAt_erase {α : Type} {F : Addr → α → Prop} {as : List Addr} {xs : List α} (h : AllAt F as xs) (i : Nat) : AllAt F (as.eraseIdx i) (xs.eraseIdx i) := by
  refine ⟨by rw [List.length_eraseIdx, List.length_eraseIdx, h.1], fun j b y h1 h2 => ?_⟩
  rw [List.getElem?_eraseIdx] at h1 h2
  split at h1
  · rename_i e; rw [if_pos e] at h2; exact h.2 _ b y h1 h2
  · rename_i e; rw [if_neg e] at h2; exact h.2 _ b y h1 h2
section
variable {P : Program} {w : World} {K : PySem.W.Frag} {mg : Str → Option Value} {base : Heap} {cS cR cP : Addr}
/-! ### copied -/
def sp_copied : Sp := fun vs H Q _ => ∃ (p : Addr) (W : Wish), vs = [.ref p] ∧ WAt H p W ∧ VW W ∧ ∀ H' z, Same H H' → WAt H' z W → Q (.ref z) H'
abbrev nm_copied : List Str := ["wishes", "copies", "lists", "own", "ranks", "row"]
theorem sc_copied : FnScope nm_copied ["wishes"] (defScope s_copied) := ⟨rfl, rfl, rfl, by decide +kernel, rfl, by decide +kernel, by decide +kernel⟩
theorem c_copied (T : Tx K mg cS cR cP) : C8.Cal P w K mg base 1 "copied" sp_copied [] := by
  refine cal_of T.d_copied sc_copied (fun _ _ _ _ _ _ us hl => match us, hl with | [_], _ => rfl) (fun vs H Q E h => ?_) (fun f cdv A outer s H vs Q E hr h => ?_)
  · obtain ⟨p, W, rfl, hW, hV, q⟩ := h
    rfl
  · obtain ⟨p, W, rfl, hW, hV, q⟩ := h
    have hu := hu_of hr
    refine ⟨_, 
    (pss_cons (ps_asg (pv 0) (pg_tup rfl (pgs_cons (pg_name (i := 1) sc_copied.nd rfl (by first | exact Or.inl rfl | exact Or.inr rfl)) (pgs_cons (pg_name (i := 2) sc_copied.nd rfl (by first | exact Or.inl rfl | exact Or.inr rfl)) pgs_nil))))
    (pss_cons (ps_set (i := 3) sc_copied.nd rfl (by first | exact Or.inl rfl | exact Or.inr rfl) (pe_lst pa_nil))
    (pss_cons (ps_for PassesOwn.never rfl (pi_list (pv 2)) (pg_name (i := 4) sc_copied.nd rfl (by first | exact Or.inl rfl | exact Or.inr rfl)) 
      (pss_one (ps_expr (pe_bm PySem.F.plainAttrs_list PySem.F.slot_list_append PySem.F.type_list_append mt_append (pv 3) (pa_cons (pe_lc (own := [("row", 5)]) (g := gName 5) (tt := tYes) rfl sc_copied.nd (pi_list (pv 4)) (blkOk_by (own := [("row", 5)]) (N := nm_copied) (sc := defScope s_copied) (by decide +kernel)) (fun _ _ _ _ _ => (pg_name (i := 5) sc_copied.nd rfl (by first | exact Or.inl rfl | exact Or.inr rfl))) (fun _ _ _ _ _ => pts_nil) (fun _ _ _ _ _ => (pe_callTy (r := rListOf K) call_list_of (by rfl) T.b_list bo_list (pa_cons (pv 5) pa_nil)))) pa_nil)))))
    (pss_one (ps_ret (pe_tup (pa_cons (pe_callTy call_list_of (by rfl) T.b_list bo_list (pa_cons (pv 1) pa_nil)) (pa_cons (pv 3) pa_nil)))))))), ?_⟩
    obtain ⟨c, l, hp, hc, bs, hl, hbs⟩ := id hW
    have hl7 := hV.l7
    refine ⟨_, rfl, p, _, rfl, SqT.of hp, rfl, _, _, rfl, _, _, rfl, rfl, ?_⟩
    refine ⟨Nat.zero_le _, fun O nO => ?_⟩
    refine ⟨_, rfl, l, rfl, ⟨_, SqL.of (same_upd nO _ _ hl)⟩, for_list (K := K) (a := l) (xs := rV bs) (fun i σ H2 => ∃ v4 v5 os, σ = [some (.ref p), some (.ref c), some (.ref l), some (.ref O), v4, v5] ∧ Same H H2 ∧ H2 O = some (.lst (rV os)) ∧ AllAt (RksAt (hid [O] H2)) os (W.2.take i))
      ⟨none, none, [], rfl, same_upd nO, upd_same, by rw [List.take_zero]; exact AllAt.nil⟩ (fun i σ H2 _ ⟨_, _, _, _, s2, _⟩ => SqL.of (s2 _ _ hl)) ?_ ?_⟩
    · rintro i y σ H2 hy ⟨v4, v5, os, rfl, s2, hO, hos⟩
      obtain ⟨br, hbr, rfl⟩ := rV_get hy
      obtain ⟨rs, hrs, ds0, hR, hds0⟩ := hbs.at hbr
      have hVr := hV.rs rs (List.mem_of_getElem? hrs)
      have hR2 := s2 _ _ hR
      have hi := (List.getElem?_eq_some_iff.mp hrs).1
      refine ⟨_, rfl, .inl ⟨rfl, _, SqL.of hO⟩, _, rfl, br, rfl, ⟨_, SqL.of hR2⟩, fun D nD => ?_⟩
      have OD : O ≠ D := ne_of_none hO nD
      refine lc_list (K := K) (a := br) (xs := rV ds0) (fun j H3 => ∃ ds, Same H2 H3 ∧ H3 D = some (.lst (rV ds)) ∧ AllAt (RowAt (hid [D, O] H3)) ds (rs.take j)) ⟨[], same_upd nD, upd_same, by rw [List.take_zero]; exact AllAt.nil⟩ (fun j H3 _ ⟨_, s3, _⟩ => SqL.of (s3 _ _ hR2)) ?_ ?_
      · rintro j y H3 hyj ⟨ds, s3, hD, hds⟩
        obtain ⟨b, hb, rfl⟩ := rV_get hyj
        obtain ⟨r0, hr0, hrow⟩ := hds0.at hb
        have hrow3 : H3 b = _ := s3 _ _ (s2 _ _ hrow)
        refine ⟨rfl, ?_⟩
        refine ⟨_, rfl, b, _, rfl, .inl (SqL.of hrow3), fun e ne => ?_⟩
        have s4 : Same H3 (upd H3 e (.lst (nV r0))) := same_upd ne
        have eD : e ≠ D := (ne_of_none hD ne).symm
        have eO : e ≠ O := (ne_of_none (s3 _ _ hO) ne).symm
        have hjl := (List.getElem?_eq_some_iff.mp hr0).1
        have hf := hVr.few
        have sb : SameBut [D, O] H3 (upd (upd H3 e (.lst (nV r0))) D (.lst (rV ds ++ [.ref e]))) := (SameBut.of s4 _).trans (sameBut_upd (by simp))
        refine ⟨_, s4 _ _ hD, ?_, ds ++ [e], fun b u h => ?_, ?_, ?_⟩
        · rw [rV_len, hds.1, List.length_take]; exact small1000 (by omega)
        · rw [upd_ne (ne_of_none h nD)]; exact s4 _ _ (s3 _ _ h)
        · rw [upd_same, rV_snoc]
        · rw [take_one hr0]
          refine AllAt.snoc (hds.mono fun _ _ h => h.same (hid_mono sb)) ?_
          refine hid_some.mpr ⟨by simp [eD, eO], ?_⟩
          rw [upd_ne eD, upd_same]
      · rintro H3 ⟨ds, s3, hD, hds⟩
        rw [rV_len, hds0.1, List.take_length] at hds
        have hO3 := s3 _ _ hO
        refine ⟨O, _, _, rfl, rfl, hO3, ?_, ?_⟩
        · rw [rV_len, hos.1, List.length_take]; exact small1000 (by omega)
        have sb : SameBut [O] H3 (upd H3 O (.lst (rV os ++ [.ref D]))) := sameBut_upd (by simp)
        refine ⟨_, _, os ++ [D], rfl, fun b u h => ?_, by rw [upd_same, rV_snoc], ?_⟩
        · rw [upd_ne (ne_of_none h nO)]; exact s3 _ _ (s2 _ _ h)
        · rw [take_one hrs]
          refine AllAt.snoc (hos.mono fun _ _ h => h.same ((hid_mono (.of s3 _)).trans (hid_mono sb))) ⟨ds, ?_, hds.mono fun b r h => ?_⟩
          · refine hid_some.mpr ⟨by simpa using OD.symm, ?_⟩
            rw [upd_ne OD.symm]; exact hD
          · obtain ⟨h1, h2⟩ := hid_some.mp h
            have hbO : b ≠ O := fun z => h1 (by simp [z])
            refine hid_some.mpr ⟨by simpa using hbO, ?_⟩
            rw [upd_ne hbO]; exact h2
    · rintro σ H2 ⟨v4, v5, os, rfl, s2, hO, hos⟩
      rw [rV_len, hbs.1, List.take_length] at hos
      refine ⟨_, rfl, c, _, rfl, .inl (SqL.of (s2 _ _ hc)), fun c' nc => ⟨_, rfl, (by show 2 ≤ sizeLine; decide), fun E nE => ?_⟩⟩
      have s3 := same_upd (o := .lst (nV W.1)) nc
      have s4 := same_upd (o := .tup [.ref c', .ref O]) nE
      exact q _ E (s2.trans (s3.trans s4)) ⟨c', O, upd_same, s4 _ _ upd_same, os, s4 _ _ (s3 _ _ hO), hos.mono fun _ _ h => h.same (hid_same.trans (s3.trans s4))⟩
/-! ### is_there, put, grown -/
def sp_is_there : Sp := fun vs H Q _ => ∃ (i : Nat) (b : Addr) (xs : List V), vs = [.int i, .ref b] ∧ H b = some (.lst xs) ∧ i < xs.length ∧ Q (.bl true) H
abbrev nm_is_there : List Str := ["number", "some"]
theorem sc_is_there : FnScope nm_is_there ["number", "some"] (defScope s_is_there) := ⟨rfl, rfl, rfl, by decide +kernel, rfl, by decide +kernel, by decide +kernel⟩
theorem c_is_there (T : Tx K mg cS cR cP) : C8.Cal P w K mg base 2 "is_there" sp_is_there [] := by
  refine cal_of T.d_is_there sc_is_there (fun _ _ _ _ _ _ us hl => match us, hl with | [_, _], _ => rfl) (fun vs H Q E h => ?_) (fun f cdv A outer s H vs Q E hr h => ?_)
  · obtain ⟨i, b, xs, rfl, hb, hi, q⟩ := h
    rfl
  · obtain ⟨i, b, xs, rfl, hb, hi, q⟩ := h
    have hu := hu_of hr
    refine ⟨_, 
    (pss_one (ps_ret (pe_and (C8.pe_c (c_is_whole T) hr (by decide) rfl (pa_cons (pv 0) pa_nil)) (pe_one (pe_chain op_le op_lt pe_int (pv 0) (pe_callB call_len_seq (by rfl) T.b_len bo_len (pa_cons (pv 1) pa_nil))))))), ?_⟩
    refine ⟨_, rfl, _, rfl, true, rfl, iteT ⟨_, rfl, _, _, rfl, rfl, true, congrArg V.bl (decide_eq_true (by omega)), iteT ⟨_, rfl, b, _, rfl, .inl (SqL.of hb), _, _, rfl, rfl, ?_⟩⟩⟩
    exact vb (decide_eq_true (by omega)) q
/-- the copies and lists that may be changed -/
structure Open2 (H : Hp) (c l : Addr) (W : Wish) (bs : List Addr) : Prop where
  cl : c ≠ l
  hc : H c = some (.lst (nV W.1))
  hl : H l = some (.lst (rV bs))
  hb : AllAt (RksAt (hid [c, l] H)) bs W.2
theorem ixN_nat {n i : Nat} (h : i < n) : ixN n (i : Int) = some i := by
  unfold ixN
  rw [if_pos (by omega), if_pos (by omega)]; simp
theorem seqIndex_nat {n i : Nat} (h : i < n) : seqIndex? (i : Int) n = some i := by
  unfold seqIndex?
  simp; omega
def sp_put : Sp := fun vs H Q _ => ∃ (c l ch : Addr) (W : Wish) (bs : List Addr) (g : Chg), vs = [.ref c, .ref l, .ref ch] ∧ Open2 H c l W bs ∧ ChgAt (hid [c, l] H) ch g ∧ Good W g ∧ ((∃ a rs, g = .list a rs) ∨ (∃ t k, g = .copies t k)) ∧
  ∀ H' bs', SameBut [c, l] H H' → Open2 H' c l (behind W g) bs' → Q .non H'
abbrev nm_put : List Str := ["copies", "lists", "change", "word", "number", "what"]
theorem sc_put : FnScope nm_put ["copies", "lists", "change"] (defScope s_put) := ⟨rfl, rfl, rfl, by decide +kernel, rfl, by decide +kernel, by decide +kernel⟩
theorem c_put (T : Tx K mg cS cR cP) : C8.Cal P w K mg base 3 "put" sp_put [] := by
  refine cal_of T.d_put sc_put (fun _ _ _ _ _ _ us hl => match us, hl with | [_, _, _], _ => rfl) (fun vs H Q E h => ?_) (fun f cdv A outer s H vs Q E hr h => ?_)
  · obtain ⟨c, l, ch, W, bs, g, rfl, hO, hC, hG, hor, q⟩ := h
    rfl
  · obtain ⟨c, l, ch, W, bs, g, rfl, hO, hC, hG, hor, q⟩ := h
    have hu := hu_of hr
    refine ⟨_, 
    (pss_cons (ps_asg (pv 2) (pg_tup rfl (pgs_cons (pg_name (i := 3) sc_put.nd rfl (by first | exact Or.inl rfl | exact Or.inr rfl)) (pgs_cons (pg_name (i := 4) sc_put.nd rfl (by first | exact Or.inl rfl | exact Or.inr rfl)) (pgs_cons (pg_name (i := 5) sc_put.nd rfl (by first | exact Or.inl rfl | exact Or.inr rfl)) pgs_nil)))))
    (pss_one (ps_if (PW.pt (pw_and (pt_cmpR op_eq (pv 3) pe_str (nomark _)) (pw_and1 (pt_val (C8.pe_c (c_is_there T) hr (by decide) rfl (pa_cons (pv 4) (pa_cons (pv 1) pa_nil))))))) 
      (pss_one (ps_asg (pv 5) (pg_sub (pv 1) (pv 4) set_list))) 
      (pss_one (ps_if (PW.pt (pw_and (pt_cmpR op_eq (pv 3) pe_str (nomark _)) (pw_and1 (pt_val (C8.pe_c (c_is_there T) hr (by decide) rfl (pa_cons (pv 4) (pa_cons (pv 0) pa_nil))))))) 
        (pss_one (ps_asg (pv 5) (pg_sub (pv 0) (pv 4) set_list))) 
        (pss_one ps_never)))))), ?_⟩
    have hcl := hO.cl
    rcases hor with ⟨a, rs, rfl⟩ | ⟨t, k, rfl⟩
    · obtain ⟨z, hch, hz⟩ := hC
      have hch' := hid_same _ _ hch
      refine ⟨_, rfl, ch, _, rfl, SqT.of hch', rfl, _, _, rfl, _, _, rfl, _, _, rfl, rfl, ?_⟩
      have hal : a < bs.length := by rw [hO.hb.1]; exact hG.1
      refine ⟨_, rfl, rfl, _, rfl, iteB (str_t _) ?_⟩
      refine ⟨_, rfl, _, rfl, a, l, _, rfl, hO.hl, by rw [rV_len]; exact hal, true, rfl, iteT ?_⟩
      refine ⟨_, rfl, _, rfl, _, rfl, l, _, _, a, rfl, rfl, hO.hl, ixN_nat (by rw [rV_len]; exact hal), ?_⟩
      have sb : SameBut [c, l] H (upd H l (.lst ((rV bs).set a (.ref z)))) := sameBut_upd (by simp)
      refine q _ (bs.set a z) sb ⟨hcl, ?_, ?_, ?_⟩
      · rw [upd_ne hcl]; exact hO.hc
      · rw [upd_same]; unfold rV; rw [List.map_set]
      · exact allAt_set (hO.hb.mono fun _ _ h => h.same (hid_mono sb)) a (hz.same (hid_mono sb))
    · have hch' := hid_same _ _ hC
      refine ⟨_, rfl, ch, _, rfl, SqT.of hch', rfl, _, _, rfl, _, _, rfl, _, _, rfl, rfl, ?_⟩
      have htl : t < W.1.length := hG.1
      refine ⟨_, rfl, rfl, _, rfl, iteBF (str_f (by decide +kernel)) (iteF ?_)⟩
      refine ⟨_, rfl, rfl, _, rfl, iteB (str_t _) ?_⟩
      refine ⟨_, rfl, _, rfl, t, c, _, rfl, hO.hc, by rw [nV_len]; exact htl, true, rfl, iteT ?_⟩
      refine ⟨_, rfl, _, rfl, _, rfl, c, _, _, t, rfl, rfl, hO.hc, ixN_nat (by rw [nV_len]; exact htl), ?_⟩
      have sb : SameBut [c, l] H (upd H c (.lst ((nV W.1).set t (.int k)))) := sameBut_upd (by simp)
      refine q _ bs sb ⟨hcl, ?_, ?_, ?_⟩
      · rw [upd_same]; unfold nV; rw [← List.map_set]; rfl
      · rw [upd_ne hcl.symm]; exact hO.hl
      · exact hO.hb.mono fun _ _ h => h.same (hid_mono sb)
def sp_grown : Sp := fun vs H Q _ => ∃ (c l ch : Addr) (W : Wish) (bs : List Addr) (g : Chg), vs = [.ref c, .ref l, .ref ch] ∧ Open2 H c l W bs ∧ ChgAt (hid [c, l] H) ch g ∧ VW W ∧ Good W g ∧ ((∃ rs, g = .come rs) ∨ (∃ k, g = .thing k) ∨ (∃ a, g = .go a)) ∧
  ∀ H' bs', SameBut [c, l] H H' → Open2 H' c l (behind W g) bs' → Q .non H'
abbrev nm_grown : List Str := ["copies", "lists", "change", "word", "what"]
theorem sc_grown : FnScope nm_grown ["copies", "lists", "change"] (defScope s_grown) := ⟨rfl, rfl, rfl, by decide +kernel, rfl, by decide +kernel, by decide +kernel⟩
theorem c_grown (T : Tx K mg cS cR cP) : C8.Cal P w K mg base 3 "grown" sp_grown [] := by
  refine cal_of T.d_grown sc_grown (fun _ _ _ _ _ _ us hl => match us, hl with | [_, _, _], _ => rfl) (fun vs H Q E h => ?_) (fun f cdv A outer s H vs Q E hr h => ?_)
  · obtain ⟨c, l, ch, W, bs, g, rfl, hO, hC, hV, hG, hor, q⟩ := h
    rfl
  · obtain ⟨c, l, ch, W, bs, g, rfl, hO, hC, hV, hG, hor, q⟩ := h
    have hu := hu_of hr
    refine ⟨_, 
    (pss_cons (ps_asg (pv 2) (pg_tup rfl (pgs_cons (pg_name (i := 3) sc_grown.nd rfl (by first | exact Or.inl rfl | exact Or.inr rfl)) (pgs_cons (pg_name (i := 4) sc_grown.nd rfl (by first | exact Or.inl rfl | exact Or.inr rfl)) pgs_nil))))
    (pss_one (ps_if (pt_cmpR op_eq (pv 3) pe_str (nomark _)) 
      (pss_one (ps_expr (pe_bm PySem.F.plainAttrs_list PySem.F.slot_list_append PySem.F.type_list_append mt_append (pv 1) (pa_cons (pv 4) pa_nil)))) 
      (pss_one (ps_if (pt_cmpR op_eq (pv 3) pe_str (nomark _)) 
        (pss_one (ps_expr (pe_bm PySem.F.plainAttrs_list PySem.F.slot_list_append PySem.F.type_list_append mt_append (pv 0) (pa_cons (pv 4) pa_nil)))) 
        (pss_one (ps_if (PW.pt (pw_and (pt_cmpR op_eq (pv 3) pe_str (nomark _)) (pw_and1 (pt_val (C8.pe_c (c_is_there T) hr (by decide) rfl (pa_cons (pv 4) (pa_cons (pv 1) pa_nil))))))) 
          (pss_one (ps_expr (pe_bm PySem.F.plainAttrs_list PySem.F.slot_list_pop PySem.F.type_list_pop mt_popAt (pv 1) (pa_cons (pv 4) pa_nil)))) 
          (pss_one ps_never)))))))), ?_⟩
    have hcl := hO.cl
    have hl7 := hV.l7
    have hc6 := hV.c6
    have hbl := hO.hb.1
    rcases hor with ⟨rs, rfl⟩ | ⟨k, rfl⟩ | ⟨a, rfl⟩
    · obtain ⟨z, hch, hz⟩ := hC
      have hch' := hid_same _ _ hch
      refine ⟨_, rfl, ch, _, rfl, SqT.of hch', rfl, _, _, rfl, _, _, rfl, rfl, ?_⟩
      refine ⟨_, rfl, rfl, _, rfl, iteB (str_t _) ?_⟩
      refine ⟨_, rfl, .inl ⟨rfl, _, SqL.of hO.hl⟩, _, rfl, l, _, _, rfl, rfl, hO.hl, ?_, ?_⟩
      · rw [rV_len]; exact small1000 (by omega)
      have sb : SameBut [c, l] H (upd H l (.lst (rV bs ++ [.ref z]))) := sameBut_upd (by simp)
      refine q _ (bs ++ [z]) sb ⟨hcl, ?_, ?_, ?_⟩
      · rw [upd_ne hcl]; exact hO.hc
      · rw [upd_same, rV_snoc]
      · exact AllAt.snoc (hO.hb.mono fun _ _ h => h.same (hid_mono sb)) (hz.same (hid_mono sb))
    · have hch' := hid_same _ _ hC
      refine ⟨_, rfl, ch, _, rfl, SqT.of hch', rfl, _, _, rfl, _, _, rfl, rfl, ?_⟩
      refine ⟨_, rfl, rfl, _, rfl, iteBF (str_f (by decide +kernel)) ?_⟩
      refine ⟨_, rfl, rfl, _, rfl, iteB (str_t _) ?_⟩
      refine ⟨_, rfl, .inl ⟨rfl, _, SqL.of hO.hc⟩, _, rfl, c, _, _, rfl, rfl, hO.hc, ?_, ?_⟩
      · rw [nV_len]; exact small1000 (by omega)
      have sb : SameBut [c, l] H (upd H c (.lst (nV W.1 ++ [.int k]))) := sameBut_upd (by simp)
      refine q _ bs sb ⟨hcl, ?_, ?_, ?_⟩
      · rw [upd_same]; unfold nV; show _ = some (HO.lst (List.map _ (W.1 ++ [k]))); rw [List.map_append]; rfl
      · rw [upd_ne hcl.symm]; exact hO.hl
      · exact hO.hb.mono fun _ _ h => h.same (hid_mono sb)
    · have hch' := hid_same _ _ hC
      have hal : a < bs.length := by rw [hO.hb.1]; exact hG.1
      refine ⟨_, rfl, ch, _, rfl, SqT.of hch', rfl, _, _, rfl, _, _, rfl, rfl, ?_⟩
      refine ⟨_, rfl, rfl, _, rfl, iteBF (str_f (by decide +kernel)) ?_⟩
      refine ⟨_, rfl, rfl, _, rfl, iteBF (str_f (by decide +kernel)) ?_⟩
      refine ⟨_, rfl, rfl, _, rfl, iteB (str_t _) ?_⟩
      refine ⟨_, rfl, _, rfl, a, l, _, rfl, hO.hl, by rw [rV_len]; exact hal, true, rfl, iteT ?_⟩
      refine ⟨_, rfl, .inl ⟨rfl, _, SqL.of hO.hl⟩, _, rfl, l, _, _, a, _, rfl, rfl, hO.hl, by omega, by omega, seqIndex_nat (by rw [rV_len]; exact hal), rV_at (List.getElem?_eq_getElem hal), ?_⟩
      have sb : SameBut [c, l] H (upd H l (.lst ((rV bs).eraseIdx a))) := sameBut_upd (by simp)
      refine q _ (bs.eraseIdx a) sb ⟨hcl, ?_, ?_, ?_⟩
      · rw [upd_ne hcl]; exact hO.hc
      · rw [upd_same]; unfold rV; rw [map_erase]
      · exact allAt_erase (hO.hb.mono fun _ _ h => h.same (hid_mono sb)) a
end
end WD

set_option Elab.async false
set_option linter.all false
set_option maxRecDepth 100000
set_option maxHeartbeats 4000000
namespace WD
open PySem PySem.Spec PyProof.Rows L2
section
variable {P : Program} {w : World} {K : PySem.W.Frag} {mg : Str → Option Value} {base : Heap} {cS cR cP : Addr}
/-! ### changed -/
theorem Open2.wat {H : Hp} {c l : Addr} {W : Wish} {bs : List Addr} (h : Open2 H c l W bs) {E : Addr} (nE : H E = none) : WAt (upd H E (.tup [.ref c, .ref l])) E W := by
  have s := same_upd (o := .tup [.ref c, .ref l]) nE
  exact ⟨c, l, upd_same, s _ _ h.hc, bs, s _ _ h.hl, h.hb.mono fun _ _ x => x.same (hid_same.trans s)⟩
theorem Open2.same {H H' : Hp} {c l : Addr} {W : Wish} {bs : List Addr} (h : Open2 H c l W bs) (s : Same H H') : Open2 H' c l W bs := ⟨h.cl, s _ _ h.hc, s _ _ h.hl, h.hb.mono fun _ _ x => x.same (hid_mono (.of s _))⟩
theorem bl_int {i j : Nat} : decide (V.int (i : Int) = V.int (j : Int)) = decide (i = j) := by
  rw [Bool.eq_iff_iff, decide_eq_true_eq, decide_eq_true_eq]
  exact ⟨fun e => by injection e with e; omega, fun e => by rw [e]⟩
theorem n33 : decide (V.int ((3 : Nat) : Int) = V.int 3) = true := by decide +kernel
theorem n22 : decide (V.int ((2 : Nat) : Int) = V.int 2) = true := by decide +kernel
theorem n23 : decide (V.int ((2 : Nat) : Int) = V.int 3) = false := by decide +kernel
def sp_changed : Sp := fun vs H Q _ => ∃ (p ch : Addr) (W : Wish) (g : Chg), vs = [.ref p, .ref ch] ∧ WAt H p W ∧ VW W ∧ ChgAt H ch g ∧ Good W g ∧ ∀ H' z, Same H H' → WAt H' z (behind W g) → Q (.ref z) H'
abbrev nm_changed : List Str := ["wishes", "change", "copies", "lists"]
theorem sc_changed : FnScope nm_changed ["wishes", "change"] (defScope s_changed) := ⟨rfl, rfl, rfl, by decide +kernel, rfl, by decide +kernel, by decide +kernel⟩
theorem c_changed (T : Tx K mg cS cR cP) : C8.Cal P w K mg base 5 "changed" sp_changed [] := by
  refine cal_of T.d_changed sc_changed (fun _ _ _ _ _ _ us hl => match us, hl with | [_, _], _ => rfl) (fun vs H Q E h => ?_) (fun f cdv A outer s H vs Q E hr h => ?_)
  · obtain ⟨p, ch, W, g, rfl, hW, hV, hC, hG, q⟩ := h
    rfl
  · obtain ⟨p, ch, W, g, rfl, hW, hV, hC, hG, q⟩ := h
    have hu := hu_of hr
    refine ⟨_, 
    (pss_cons (ps_expr (C8.pe_c (c_look_at_wishes T) hr (by decide) rfl (pa_cons (pv 0) pa_nil)))
    (pss_cons (ps_set (i := 2) sc_changed.nd rfl (by first | exact Or.inl rfl | exact Or.inr rfl) (pe_callTy call_list_of (by rfl) T.b_list bo_list (pa_cons (pe_ix ix_tup (pv 0) pe_int (fun _ _ => rfl)) pa_nil)))
    (pss_cons (ps_set (i := 3) sc_changed.nd rfl (by first | exact Or.inl rfl | exact Or.inr rfl) (pe_callTy call_list_of (by rfl) T.b_list bo_list (pa_cons (pe_ix ix_tup (pv 0) pe_int (fun _ _ => rfl)) pa_nil)))
    (pss_cons (ps_if (pt_not (pt_val (pe_callB call_isi (by rfl) T.b_isinstance bo_isinstance (pa_cons (pv 1) (pa_cons (pe_bltn (v := .ty "tuple") (by rfl) T.b_tuple bo_tuple rfl) pa_nil))))) 
      (pss_one ps_never) pss_nil)
    (pss_cons (ps_if (pt_cmpR op_eq (pe_callB call_len_seq (by rfl) T.b_len bo_len (pa_cons (pv 1) pa_nil)) pe_int (nomark _)) 
      (pss_one (ps_expr (C8.pe_c (c_put T) hr (by decide) rfl (pa_cons (pv 2) (pa_cons (pv 3) (pa_cons (pv 1) pa_nil)))))) 
      (pss_one (ps_if (pt_cmpR op_eq (pe_callB call_len_seq (by rfl) T.b_len bo_len (pa_cons (pv 1) pa_nil)) pe_int (nomark _)) 
        (pss_one (ps_expr (C8.pe_c (c_grown T) hr (by decide) rfl (pa_cons (pv 2) (pa_cons (pv 3) (pa_cons (pv 1) pa_nil)))))) 
        (pss_one ps_never))))
    (pss_cons (ps_try_thru0 
      (pss_one (ps_expr (C8.pe_c (c_look_at_wishes T) hr (by decide) rfl (pa_cons (pe_tup (pa_cons (pv 2) (pa_cons (pv 3) pa_nil))) pa_nil)))))
    (pss_one (ps_ret (C8.pe_c (c_copied T) hr (by decide) rfl (pa_cons (pe_tup (pa_cons (pv 2) (pa_cons (pv 3) pa_nil))) pa_nil)))))))))), ?_⟩
    refine ⟨_, rfl, p, W, rfl, hW, hV, fun H1 s1 => ?_⟩
    obtain ⟨c, l, hp, hc, bs, hl, hbs⟩ := hW.same s1
    refine ⟨_, rfl, p, _, _, _, rfl, rfl, SqT.of hp, rfl, c, _, rfl, .inl (SqL.of hc), fun c' nc => ?_⟩
    have sc : Same H1 (upd H1 c' (.lst (nV W.1))) := same_upd nc
    refine ⟨_, rfl, p, _, _, _, rfl, rfl, SqT.of (sc _ _ hp), rfl, l, _, rfl, .inl (SqL.of (sc _ _ hl)), fun l' nl => ?_⟩
    have sl : Same (upd H1 c' (.lst (nV W.1))) (upd (upd H1 c' (.lst (nV W.1))) l' (.lst (rV bs))) := same_upd nl
    have s12 := sc.trans sl
    have cl : c' ≠ l' := ne_of_none upd_same nl
    have hnew : ∀ b ∈ [c', l'], H1 b = none := fun b hb => by
      simp only [List.mem_cons, List.not_mem_nil, or_false] at hb
      rcases hb with z | z <;> subst z
      · exact nc
      · exact sc.free nl
    have hO : Open2 (upd (upd H1 c' (.lst (nV W.1))) l' (.lst (rV bs))) c' l' W bs := ⟨cl, by rw [upd_ne cl, upd_same], upd_same, hbs.mono fun _ _ h => h.same (hid_new s12 hnew)⟩
    have hC2 : ChgAt (hid [c', l'] (upd (upd H1 c' (.lst (nV W.1))) l' (.lst (rV bs)))) ch g := (hC.same s1).same (hid_new s12 hnew)
    generalize upd (upd H1 c' (.lst (nV W.1))) l' (.lst (rV bs)) = H2 at s12 hO hC2
    have s13 := s1.trans s12
    have hC2' := hC2.same hid_same
    cases g with
    | list a rs =>
      obtain ⟨z, hch, hz⟩ := hC2'
      refine ⟨_, rfl, _, _, _, _, true, rfl, .ty _, .base (.tup hch), kit_ty (by decide +kernel), true, rfl, iteF ?_⟩
      refine ⟨_, rfl, ch, _, rfl, .inr (SqT.of hch), rfl, _, rfl, iteB n33 ?_⟩
      refine ⟨_, rfl, _, rfl, _, rfl, c', l', ch, W, bs, .list a rs, rfl, hO, hC2, hG, .inl ⟨_, _, rfl⟩, fun H4 bs4 sb4 hO4 => ?_⟩
      have hVb := hG.vw hV
      refine ⟨_, rfl, _, rfl, (by show 2 ≤ sizeLine; decide), fun E nE => ?_⟩
      have sE := same_upd (o := .tup [.ref c', .ref l']) nE
      refine ⟨E, _, rfl, hO4.wat nE, hVb, fun H5 s5 => ?_⟩
      have s45 := sE.trans s5
      have hO5 := hO4.same s45
      refine ⟨_, rfl, _, rfl, (by show 2 ≤ sizeLine; decide), fun E2 nE2 => ?_⟩
      have sE2 := same_upd (o := .tup [.ref c', .ref l']) nE2
      refine ⟨E2, _, rfl, hO5.wat nE2, hVb, fun H6 z s6 hz => ?_⟩
      refine q H6 z (fun b u e => s6 _ _ (sE2 _ _ (s45 _ _ (sb4 b u (s13 b u e) fun hm => ?_)))) hz
      simp only [List.mem_cons, List.not_mem_nil, or_false] at hm
      rcases hm with z | z <;> subst z
      · rw [s1.free nc] at e; cases e
      · rw [(s1.trans sc).free nl] at e; cases e
    | copies t k =>
      have hch : H2 ch = _ := hC2'
      refine ⟨_, rfl, _, _, _, _, true, rfl, .ty _, .base (.tup hch), kit_ty (by decide +kernel), true, rfl, iteF ?_⟩
      refine ⟨_, rfl, ch, _, rfl, .inr (SqT.of hch), rfl, _, rfl, iteB n33 ?_⟩
      refine ⟨_, rfl, _, rfl, _, rfl, c', l', ch, W, bs, .copies t k, rfl, hO, hC2, hG, .inr ⟨_, _, rfl⟩, fun H4 bs4 sb4 hO4 => ?_⟩
      have hVb := hG.vw hV
      refine ⟨_, rfl, _, rfl, (by show 2 ≤ sizeLine; decide), fun E nE => ?_⟩
      have sE := same_upd (o := .tup [.ref c', .ref l']) nE
      refine ⟨E, _, rfl, hO4.wat nE, hVb, fun H5 s5 => ?_⟩
      have s45 := sE.trans s5
      have hO5 := hO4.same s45
      refine ⟨_, rfl, _, rfl, (by show 2 ≤ sizeLine; decide), fun E2 nE2 => ?_⟩
      have sE2 := same_upd (o := .tup [.ref c', .ref l']) nE2
      refine ⟨E2, _, rfl, hO5.wat nE2, hVb, fun H6 z s6 hz => ?_⟩
      refine q H6 z (fun b u e => s6 _ _ (sE2 _ _ (s45 _ _ (sb4 b u (s13 b u e) fun hm => ?_)))) hz
      simp only [List.mem_cons, List.not_mem_nil, or_false] at hm
      rcases hm with z | z <;> subst z
      · rw [s1.free nc] at e; cases e
      · rw [(s1.trans sc).free nl] at e; cases e
    | come rs =>
      obtain ⟨z, hch, hz⟩ := hC2'
      refine ⟨_, rfl, _, _, _, _, true, rfl, .ty _, .base (.tup hch), kit_ty (by decide +kernel), true, rfl, iteF ?_⟩
      refine ⟨_, rfl, ch, _, rfl, .inr (SqT.of hch), rfl, _, rfl, iteBF n23 ?_⟩
      refine ⟨_, rfl, ch, _, rfl, .inr (SqT.of hch), rfl, _, rfl, iteB n22 ?_⟩
      refine ⟨_, rfl, _, rfl, _, rfl, c', l', ch, W, bs, .come rs, rfl, hO, hC2, hV, hG, .inl ⟨_, rfl⟩, fun H4 bs4 sb4 hO4 => ?_⟩
      have hVb := hG.vw hV
      refine ⟨_, rfl, _, rfl, (by show 2 ≤ sizeLine; decide), fun E nE => ?_⟩
      have sE := same_upd (o := .tup [.ref c', .ref l']) nE
      refine ⟨E, _, rfl, hO4.wat nE, hVb, fun H5 s5 => ?_⟩
      have s45 := sE.trans s5
      have hO5 := hO4.same s45
      refine ⟨_, rfl, _, rfl, (by show 2 ≤ sizeLine; decide), fun E2 nE2 => ?_⟩
      have sE2 := same_upd (o := .tup [.ref c', .ref l']) nE2
      refine ⟨E2, _, rfl, hO5.wat nE2, hVb, fun H6 z s6 hz => ?_⟩
      refine q H6 z (fun b u e => s6 _ _ (sE2 _ _ (s45 _ _ (sb4 b u (s13 b u e) fun hm => ?_)))) hz
      simp only [List.mem_cons, List.not_mem_nil, or_false] at hm
      rcases hm with z | z <;> subst z
      · rw [s1.free nc] at e; cases e
      · rw [(s1.trans sc).free nl] at e; cases e
    | go a =>
      have hch : H2 ch = _ := hC2'
      refine ⟨_, rfl, _, _, _, _, true, rfl, .ty _, .base (.tup hch), kit_ty (by decide +kernel), true, rfl, iteF ?_⟩
      refine ⟨_, rfl, ch, _, rfl, .inr (SqT.of hch), rfl, _, rfl, iteBF n23 ?_⟩
      refine ⟨_, rfl, ch, _, rfl, .inr (SqT.of hch), rfl, _, rfl, iteB n22 ?_⟩
      refine ⟨_, rfl, _, rfl, _, rfl, c', l', ch, W, bs, .go a, rfl, hO, hC2, hV, hG, .inr (.inr ⟨_, rfl⟩), fun H4 bs4 sb4 hO4 => ?_⟩
      have hVb := hG.vw hV
      refine ⟨_, rfl, _, rfl, (by show 2 ≤ sizeLine; decide), fun E nE => ?_⟩
      have sE := same_upd (o := .tup [.ref c', .ref l']) nE
      refine ⟨E, _, rfl, hO4.wat nE, hVb, fun H5 s5 => ?_⟩
      have s45 := sE.trans s5
      have hO5 := hO4.same s45
      refine ⟨_, rfl, _, rfl, (by show 2 ≤ sizeLine; decide), fun E2 nE2 => ?_⟩
      have sE2 := same_upd (o := .tup [.ref c', .ref l']) nE2
      refine ⟨E2, _, rfl, hO5.wat nE2, hVb, fun H6 z s6 hz => ?_⟩
      refine q H6 z (fun b u e => s6 _ _ (sE2 _ _ (s45 _ _ (sb4 b u (s13 b u e) fun hm => ?_)))) hz
      simp only [List.mem_cons, List.not_mem_nil, or_false] at hm
      rcases hm with z | z <;> subst z
      · rw [s1.free nc] at e; cases e
      · rw [(s1.trans sc).free nl] at e; cases e
    | thing k =>
      have hch : H2 ch = _ := hC2'
      refine ⟨_, rfl, _, _, _, _, true, rfl, .ty _, .base (.tup hch), kit_ty (by decide +kernel), true, rfl, iteF ?_⟩
      refine ⟨_, rfl, ch, _, rfl, .inr (SqT.of hch), rfl, _, rfl, iteBF n23 ?_⟩
      refine ⟨_, rfl, ch, _, rfl, .inr (SqT.of hch), rfl, _, rfl, iteB n22 ?_⟩
      refine ⟨_, rfl, _, rfl, _, rfl, c', l', ch, W, bs, .thing k, rfl, hO, hC2, hV, hG, .inr (.inl ⟨_, rfl⟩), fun H4 bs4 sb4 hO4 => ?_⟩
      have hVb := hG.vw hV
      refine ⟨_, rfl, _, rfl, (by show 2 ≤ sizeLine; decide), fun E nE => ?_⟩
      have sE := same_upd (o := .tup [.ref c', .ref l']) nE
      refine ⟨E, _, rfl, hO4.wat nE, hVb, fun H5 s5 => ?_⟩
      have s45 := sE.trans s5
      have hO5 := hO4.same s45
      refine ⟨_, rfl, _, rfl, (by show 2 ≤ sizeLine; decide), fun E2 nE2 => ?_⟩
      have sE2 := same_upd (o := .tup [.ref c', .ref l']) nE2
      refine ⟨E2, _, rfl, hO5.wat nE2, hVb, fun H6 z s6 hz => ?_⟩
      refine q H6 z (fun b u e => s6 _ _ (sE2 _ _ (s45 _ _ (sb4 b u (s13 b u e) fun hm => ?_)))) hz
      simp only [List.mem_cons, List.not_mem_nil, or_false] at hm
      rcases hm with z | z <;> subst z
      · rw [s1.free nc] at e; cases e
      · rw [(s1.trans sc).free nl] at e; cases e
/-! ### carried -/
def sp_carried : Sp := fun vs H Q _ => ∃ (p ch D : Addr) (W : Wish) (g : Chg) (d : List (Option Nat)), vs = [.ref p, .ref ch, .ref D] ∧ WAt H p W ∧ VW W ∧ ChgAt H ch g ∧ Good W g ∧ H D = some (.lst (dV d)) ∧ d.length = W.2.length ∧
  ∀ H' z, Same H H' → H z = none → H' z = some (.lst (dV (carry g d))) → Q (.ref z) H'
abbrev nm_carried : List Str := ["wishes", "change", "dealing", "found"]
theorem sc_carried : FnScope nm_carried ["wishes", "change", "dealing"] (defScope s_carried) := ⟨rfl, rfl, rfl, by decide +kernel, rfl, by decide +kernel, by decide +kernel⟩
theorem c_carried (T : Tx K mg cS cR cP) : C8.Cal P w K mg base 6 "carried" sp_carried [] := by
  refine cal_of T.d_carried sc_carried (fun _ _ _ _ _ _ us hl => match us, hl with | [_, _, _], _ => rfl) (fun vs H Q E h => ?_) (fun f cdv A outer s H vs Q E hr h => ?_)
  · obtain ⟨p, ch, D, W, g, d, rfl, hW, hV, hC, hG, hD, hdl, q⟩ := h
    rfl
  · obtain ⟨p, ch, D, W, g, d, rfl, hW, hV, hC, hG, hD, hdl, q⟩ := h
    have hu := hu_of hr
    refine ⟨_, 
    (pss_cons (ps_expr (C8.pe_c (c_changed T) hr (by decide) rfl (pa_cons (pv 0) (pa_cons (pv 1) pa_nil))))
    (pss_cons (ps_set (i := 3) sc_carried.nd rfl (by first | exact Or.inl rfl | exact Or.inr rfl) (pe_callTy call_list_of (by rfl) T.b_list bo_list (pa_cons (pv 2) pa_nil)))
    (pss_cons (ps_if (pt_cmpR op_eq (pe_ix ix_tup (pv 1) pe_int (fun _ _ => rfl)) pe_str (nomark _)) 
      (pss_one (ps_expr (pe_bm PySem.F.plainAttrs_list PySem.F.slot_list_append PySem.F.type_list_append mt_append (pv 3) (pa_cons pe_non pa_nil)))) pss_nil)
    (pss_cons (ps_if (pt_cmpR op_eq (pe_ix ix_tup (pv 1) pe_int (fun _ _ => rfl)) pe_str (nomark _)) 
      (pss_one (ps_expr (pe_bm PySem.F.plainAttrs_list PySem.F.slot_list_pop PySem.F.type_list_pop mt_popAt (pv 3) (pa_cons (pe_ix ix_tup (pv 1) pe_int (fun _ _ => rfl)) pa_nil)))) pss_nil)
    (pss_one (ps_ret (pv 3))))))), ?_⟩
    have hl7 := hV.l7
    refine ⟨_, rfl, _, rfl, p, ch, W, g, rfl, hW, hV, hC, hG, fun H1 zb s1 _ => ?_⟩
    refine ⟨_, rfl, D, _, rfl, .inl (SqL.of (s1 _ _ hD)), fun z nz' => ?_⟩
    have nz : H z = none := s1.free nz'
    have s2 : Same H (upd H1 z (.lst (dV d))) := s1.trans (same_upd nz')
    have hz : (upd H1 z (.lst (dV d))) z = some (.lst (dV d)) := upd_same
    generalize upd H1 z (.lst (dV d)) = H2 at s2 hz
    have hC2 := hC.same s2
    cases g with
    | list a rs =>
      obtain ⟨_, hch, _⟩ := hC2
      refine ⟨_, rfl, ch, _, _, _, rfl, rfl, SqT.of hch, rfl, rfl, _, rfl, iteBF (str_f (by decide +kernel)) ?_⟩
      refine ⟨_, rfl, ch, _, _, _, rfl, rfl, SqT.of hch, rfl, rfl, _, rfl, iteBF (str_f (by decide +kernel)) ?_⟩
      exact ⟨_, rfl, q H2 z s2 nz hz⟩
    | copies t k =>
      have hch : H2 ch = _ := hC2
      refine ⟨_, rfl, ch, _, _, _, rfl, rfl, SqT.of hch, rfl, rfl, _, rfl, iteBF (str_f (by decide +kernel)) ?_⟩
      refine ⟨_, rfl, ch, _, _, _, rfl, rfl, SqT.of hch, rfl, rfl, _, rfl, iteBF (str_f (by decide +kernel)) ?_⟩
      exact ⟨_, rfl, q H2 z s2 nz hz⟩
    | thing k =>
      have hch : H2 ch = _ := hC2
      refine ⟨_, rfl, ch, _, _, _, rfl, rfl, SqT.of hch, rfl, rfl, _, rfl, iteBF (str_f (by decide +kernel)) ?_⟩
      refine ⟨_, rfl, ch, _, _, _, rfl, rfl, SqT.of hch, rfl, rfl, _, rfl, iteBF (str_f (by decide +kernel)) ?_⟩
      exact ⟨_, rfl, q H2 z s2 nz hz⟩
    | come rs =>
      obtain ⟨y, hch, _⟩ := hC2
      refine ⟨_, rfl, ch, _, _, _, rfl, rfl, SqT.of hch, rfl, rfl, _, rfl, iteB (str_t _) ?_⟩
      refine ⟨_, rfl, .inl ⟨rfl, _, SqL.of hz⟩, z, _, _, rfl, rfl, hz, ?_, ?_⟩
      · rw [dV_len]; exact small1000 (by omega)
      have zc : ch ≠ z := ne_of hch hz (by intro e; cases e)
      have hch3 : (upd H2 z (.lst (dV d ++ [.non]))) ch = some (.tup [.str ("come" : Str), .ref y]) := by rw [upd_ne zc]; exact hch
      refine ⟨_, rfl, ch, _, _, _, rfl, rfl, SqT.of hch3, rfl, rfl, _, rfl, iteBF (str_f (by decide +kernel)) ?_⟩
      refine ⟨_, rfl, q _ z (fun b u e => ?_) nz ?_⟩
      · rw [upd_ne (ne_of_none e nz)]; exact s2 _ _ e
      · rw [upd_same]; unfold dV; show _ = some (HO.lst (List.map oV (d ++ [none]))); rw [List.map_append]; rfl
    | go a =>
      have hch : H2 ch = some (.tup [.str ("go" : Str), .int a]) := hC2
      have hal : a < d.length := by rw [hdl]; exact hG.1
      refine ⟨_, rfl, ch, _, _, _, rfl, rfl, SqT.of hch, rfl, rfl, _, rfl, iteBF (str_f (by decide +kernel)) ?_⟩
      refine ⟨_, rfl, ch, _, _, _, rfl, rfl, SqT.of hch, rfl, rfl, _, rfl, iteB (str_t _) ?_⟩
      refine ⟨_, rfl, .inl ⟨rfl, _, SqL.of hz⟩, _, rfl, ch, _, _, _, rfl, rfl, SqT.of hch, rfl, z, _, _, a, _, rfl, rfl, hz, by omega, by omega, seqIndex_nat (by rw [dV_len]; exact hal), dV_at (List.getElem?_eq_getElem hal), ?_⟩
      refine ⟨_, rfl, q _ z (fun b u e => ?_) nz ?_⟩
      · rw [upd_ne (ne_of_none e nz)]; exact s2 _ _ e
      · rw [upd_same]; unfold dV; rw [map_erase]; rfl
/-! ### mended -/
def mvd (old d : List (Option Nat)) (n : Nat) : List Nat := (List.range n).filter fun a => (got old a).isSome && !decide (got d a = got old a)
theorem mvd_succ (old d : List (Option Nat)) (n : Nat) : mvd old d (n + 1) = mvd old d n ++ (if ((got old n).isSome && !decide (got d n = got old n)) = true then [n] else []) := by
  unfold mvd
  rw [List.range_succ, List.filter_append, List.filter_cons]
  split <;> simp
theorem mvd_len (old d : List (Option Nat)) (n : Nat) : (mvd old d n).length ≤ n := by
  unfold mvd
  refine Nat.le_trans (List.length_filter_le _ _) ?_
  rw [List.length_range]; exact Nat.le_refl _
def sp_mended : Sp := fun vs H Q _ => ∃ (p ch D : Addr) (W : Wish) (g : Chg) (o : Str) (d : List (Option Nat)), vs = [.ref p, .ref ch, .str o, .ref D] ∧ WAt H p W ∧ VW W ∧ ChgAt H ch g ∧ Good W g ∧ Ord o ∧ H D = some (.lst (dV d)) ∧ d.length = W.2.length ∧ (∀ t, some t ∈ d → t < W.1.length) ∧
  ∀ H' E zb zf zm v (rows : List (Al Int)) f u pp, Same H H' → H' E = some (.tup [.ref zb, .ref zf, .ref zm, v]) → WAt H' zb (behind W g) → H' zf = some (.lst (dV f)) → H' zm = some (.lst (nV (mvd (carry g d) f (carry g d).length))) →
    RowsOk o (some (carry g d)) (behind W g) rows → Cert rows (fun t => (behind W g).1.getD t 0) (behind W g).1.length rows.length f u pp → Q (.ref E) H'
abbrev nm_mended : List Str := ["wishes", "change", "order", "dealing", "behind", "old", "found", "paper", "moved", "asker", "thing"]
theorem sc_mended : FnScope nm_mended ["wishes", "change", "order", "dealing"] (defScope s_mended) := ⟨rfl, rfl, rfl, by decide +kernel, rfl, by decide +kernel, by decide +kernel⟩
theorem c_mended (T : Tx K mg cS cR cP) : C8.Cal P w K mg base 12 "mended" sp_mended [] := by
  refine cal_of T.d_mended sc_mended (fun _ _ _ _ _ _ us hl => match us, hl with | [_, _, _, _], _ => rfl) (fun vs H Q E h => ?_) (fun f cdv A outer s H vs Q E hr h => ?_)
  · obtain ⟨p, ch, D, W, g, o, d, rfl, hW, hV, hC, hG, ho, hD, hdl, hdt, q⟩ := h
    rfl
  · obtain ⟨p, ch, D, W, g, o, d, rfl, hW, hV, hC, hG, ho, hD, hdl, hdt, q⟩ := h
    have hu := hu_of hr
    refine ⟨_, 
    (pss_cons (ps_expr (C8.pe_c (c_look_at_aim T) hr (by decide) rfl (pa_cons (pv 0) (pa_cons (pe_tup (pa_cons (pv 2) (pa_cons pe_non (pa_cons (pe_lst pa_nil) pa_nil)))) pa_nil))))
    (pss_cons (ps_set (i := 4) sc_mended.nd rfl (by first | exact Or.inl rfl | exact Or.inr rfl) (C8.pe_c (c_changed T) hr (by decide) rfl (pa_cons (pv 0) (pa_cons (pv 1) pa_nil))))
    (pss_cons (ps_set (i := 5) sc_mended.nd rfl (by first | exact Or.inl rfl | exact Or.inr rfl) (C8.pe_c (c_carried T) hr (by decide) rfl (pa_cons (pv 0) (pa_cons (pv 1) (pa_cons (pv 3) pa_nil)))))
    (pss_cons (ps_asg (C8.pe_c (c_best_dealing T) hr (by decide) rfl (pa_cons (pv 4) (pa_cons (pe_tup (pa_cons (pv 2) (pa_cons (pv 5) (pa_cons (pe_lst pa_nil) pa_nil)))) pa_nil))) (pg_tup rfl (pgs_cons (pg_name (i := 6) sc_mended.nd rfl (by first | exact Or.inl rfl | exact Or.inr rfl)) (pgs_cons (pg_name (i := 7) sc_mended.nd rfl (by first | exact Or.inl rfl | exact Or.inr rfl)) pgs_nil))))
    (pss_cons (ps_set (i := 8) sc_mended.nd rfl (by first | exact Or.inl rfl | exact Or.inr rfl) (pe_lst pa_nil))
    (pss_cons (ps_for PassesOwn.never rfl (pi_enum (by rfl) T.b_enumerate (pa_cons (pv 5) pa_nil)) (pg_tup rfl (pgs_cons (pg_name (i := 9) sc_mended.nd rfl (by first | exact Or.inl rfl | exact Or.inr rfl)) (pgs_cons (pg_name (i := 10) sc_mended.nd rfl (by first | exact Or.inl rfl | exact Or.inr rfl)) pgs_nil))) 
      (pss_one (ps_if (PW.pt (pw_and (pt_cmpR op_notN (pv 10) pe_non (nomark _)) (pw_and1 (pt_cmpR op_ne (pe_ix ix_list (pv 6) (pv 9) (fun _ _ => rfl)) (pv 10) (nomark _))))) 
        (pss_one (ps_expr (pe_bm PySem.F.plainAttrs_list PySem.F.slot_list_append PySem.F.type_list_append mt_append (pv 8) (pa_cons (pv 9) pa_nil)))) pss_nil)))
    (pss_one (ps_ret (pe_tup (pa_cons (pv 4) (pa_cons (pv 6) (pa_cons (pv 8) (pa_cons (pv 7) pa_nil))))))))))))), ?_⟩
    -- look_at_aim(wishes, (order, None, []))
    refine ⟨_, rfl, _, rfl, Nat.zero_le _, fun t0 nt0 => ⟨(by show 3 ≤ sizeLine; decide), fun E0 nE0 => ?_⟩⟩
    have s0 := (same_upd (o := .lst []) nt0).trans (same_upd (o := .tup [.str o, .non, .ref t0]) nE0)
    refine ⟨p, E0, W, o, none, rfl, hW.same s0, hV, ⟨.non, t0, upd_same, rfl, same_upd nE0 _ _ upd_same⟩, ho, True.intro, fun H1 s1' => ?_⟩
    have s1 := s0.trans s1'
    -- behind = changed(wishes, change)
    refine ⟨_, rfl, _, rfl, p, ch, W, g, rfl, hW.same s1, hV, hC.same s1, hG, fun H2 zb s2' hzb => ?_⟩
    have s2 := s1.trans s2'
    -- old = carried(wishes, change, dealing)
    refine ⟨_, rfl, _, rfl, _, rfl, p, ch, D, W, g, d, rfl, hW.same s2, hV, hC.same s2, hG, s2 _ _ hD, hdl, fun H3 zo s3' _ hzo => ?_⟩
    have s3 := s2.trans s3'
    have hVb := hG.vw hV
    have hOb := hG.old hdl hdt
    -- found, paper = best_dealing(behind, (order, old, []))
    refine ⟨_, rfl, _, rfl, _, rfl, Nat.zero_le _, fun t4 nt4 => ⟨(by show 3 ≤ sizeLine; decide), fun E4 nE4 => ?_⟩⟩
    have s4 := (same_upd (o := .lst []) nt4).trans (same_upd (o := .tup [.str o, .ref zo, .ref t4]) nE4)
    refine ⟨zb, E4, behind W g, o, some (carry g d), rfl, (hzb.same s3').same s4, hVb, ⟨.ref zo, t4, upd_same, ⟨zo, rfl, s4 _ _ hzo⟩, same_upd nE4 _ _ upd_same⟩, ho, hOb, fun H5 E5 zf v rows f u pp s5' nzf hE5 hzf hRO hCe => ?_⟩
    have s5 := s3.trans (s4.trans s5')
    have hzo5 := s5' _ _ (s4 _ _ hzo)
    have hzb5 := ((hzb.same s3').same s4).same s5'
    refine ⟨E5, _, rfl, SqT.of hE5, rfl, _, _, rfl, _, _, rfl, rfl, ?_⟩
    -- moved = []
    refine ⟨Nat.zero_le _, fun zm nzm => ?_⟩
    have hfl := hCe.feas.len
    have hrl := hRO.len
    have hob : (carry g d).length = (behind W g).2.length := hOb.1
    have h7 := hVb.l7
    refine ⟨_, rfl, zo, _, rfl, SqL.of (same_upd nzm _ _ hzo5), for_enum (K := K) (a := zo) (xs := dV (carry g d)) (fun i σ H6 => ∃ v9 v10, σ = [some (.ref p), some (.ref ch), some (.str o), some (.ref D), some (.ref zb), some (.ref zo), some (.ref zf), some v, some (.ref zm), v9, v10] ∧ Same H5 H6 ∧ H6 zm = some (.lst (nV (mvd (carry g d) f i))))
      ⟨none, none, rfl, same_upd nzm, upd_same⟩ (fun i σ H6 _ ⟨_, _, _, s6, _⟩ => SqL.of (s6 _ _ hzo5)) ?_ ?_⟩
    · rintro i y T' σ H6 hy nT ⟨v9, v10, rfl, s6, hzm⟩
      obtain ⟨ob, hob', rfl⟩ := dV_get hy
      have eo : got (carry g d) i = ob := got_of hob'
      have hi := (List.getElem?_eq_some_iff.mp hob').1
      have s7' : Same H6 (upd H6 T' (.tup [.int (i : Nat), oV ob])) := same_upd nT
      have s7 := s6.trans s7'
      have hzm7 := s7' _ _ hzm
      refine ⟨T', _, rfl, SqT.of upd_same, rfl, _, _, rfl, _, _, rfl, rfl, ?_⟩
      generalize upd H6 T' (.tup [.int (i : Nat), oV ob]) = H7 at s7' s7 hzm7
      have hzf7 := s7 _ _ hzf
      have hfi : (dV f)[i]? = some (oV (got f i)) := dV_at (got_get (by omega))
      have hms := mvd_succ (carry g d) f i
      rw [eo] at hms
      cases ob with
      | none =>
        refine ⟨_, rfl, rfl, false, rfl, iteF (iteF ⟨_, _, rfl, s7, ?_⟩)⟩
        rw [hms]
        simp only [Option.isSome_none, Bool.false_and, Bool.false_eq_true, if_false, List.append_nil]
        exact hzm7
      | some t =>
        refine ⟨_, rfl, rfl, true, rfl, iteT ?_⟩
        refine ⟨_, rfl, _, rfl, zf, _, _, _, rfl, rfl, SqL.of hzf7, atI_nat hfi, _, rfl, (by cases got f i <;> rfl), _, rfl, ite2B (fun e => ?_) (fun e => ?_)⟩
        · have hne : got f i ≠ some t := fun e2 => by
            rw [e2] at e
            simp at e
          refine ⟨_, rfl, .inl ⟨rfl, _, SqL.of hzm7⟩, _, rfl, zm, _, _, rfl, rfl, hzm7, ?_, ?_⟩
          · have := mvd_len (carry g d) f i
            rw [nV_len]; exact small1000 (by omega)
          refine ⟨_, _, rfl, fun b u e => ?_, ?_⟩
          · rw [upd_ne (ne_of_none e nzm)]; exact s7 _ _ e
          · rw [upd_same, hms]
            simp only [Option.isSome_some, Bool.true_and, decide_eq_false hne, Bool.not_false, if_true]
            unfold nV; rw [List.map_append]; rfl
        · have heq : got f i = some t := by
            cases h : got f i with
            | none => rw [h] at e; simp [oV] at e
            | some t' => rw [h] at e; simp [oV] at e; rw [show t' = t by omega]
          refine ⟨_, _, rfl, s7, ?_⟩
          rw [hms, heq]
          simp only [Option.isSome_some, Bool.true_and, decide_true, Bool.not_true, Bool.false_eq_true, if_false, List.append_nil]
          exact hzm7
    · rintro σ H6 ⟨v9, v10, rfl, s6, hzm⟩
      rw [dV_len] at hzm
      refine ⟨_, rfl, _, rfl, _, rfl, _, rfl, (by show 4 ≤ sizeLine; decide), fun E nE => ?_⟩
      have s7 := same_upd (o := .tup [.ref zb, .ref zf, .ref zm, v]) nE
      have s67 := s6.trans s7
      exact q _ E zb zf zm v rows f u pp (s5.trans s67) upd_same (hzb5.same s67) (s67 _ _ hzf) (s7 _ _ hzm) hRO hCe
end
end WD

set_option Elab.async false
set_option linter.all false
set_option maxRecDepth 100000
set_option maxHeartbeats 4000000
namespace WD
open PySem PySem.Spec PyProof.Rows L2
theorem sqlSame {K : PySem.W.Frag} {H H' : Hp} {a : Addr} {xs : List V} (h : SqL K H a xs) (s : Same H H') : SqL K H' a xs := by
  rcases h with (h | ⟨o, h⟩) | h
  · exact .inl (.inl (s _ _ h))
  · exact .inl (.inr ⟨o, s _ _ h⟩)
  · exact .inr h
structure DigOk (sz ds : List Nat) : Prop where
  len : ds.length ≤ sz.length
  lt : ∀ k, k < ds.length → ds.getD k 0 < sz.getD k 0
theorem DigOk.snoc {sz ds : List Nat} (h : DigOk sz ds) {x : Nat} (hl : ds.length < sz.length) (hx : x < sz.getD ds.length 0) : DigOk sz (ds ++ [x]) := by
  refine ⟨by rw [List.length_append]; show ds.length + 1 ≤ _; omega, fun k hk => ?_⟩
  rw [List.getD_eq_getElem?_getD]
  by_cases e : k < ds.length
  · rw [List.getElem?_append_left e, ← List.getD_eq_getElem?_getD]; exact h.lt k e
  · have : k = ds.length := by rw [List.length_append] at hk; have : k < ds.length + 1 := hk; omega
    subst this
    simp [List.getElem?_append_right (Nat.le_refl _)]
    rw [← List.getD_eq_getElem?_getD]; exact hx
theorem pm1 : (0 : Int) < 2147483647 := by decide
theorem pm2 : (0 : Int) < 2147483629 := by decide
theorem cm_mod (x y : Int) : CMul (x % 2147483647) y := .inl ⟨by have := Int.emod_nonneg x (show (2147483647 : Int) ≠ 0 by decide); omega, by have := Int.emod_lt_of_pos x (show (0 : Int) < 2147483647 by decide); omega⟩
section
variable {P : Program} {w : World} {K : PySem.W.Frag} {mg : Str → Option Value} {base : Heap} {cS cR cP : Addr}
/-! ### cells, numbers -/
def sp_law_cell_at (K : PySem.W.Frag) (cS cR cP : Addr) : Sp := fun vs H Q _ => ∃ (b : Addr) (cs : List Int) (k : Int), vs = [.ref b, .int k] ∧ 0 ≤ k ∧ SqL K H b (cs.map V.int) ∧ ∀ i, Q (.int i) H
abbrev nm_law_cell_at : List Str := ["_law_script", "_law_k"]
theorem sc_law_cell_at : FnScope nm_law_cell_at ["_law_script", "_law_k"] (defScope s_law_cell_at) := ⟨rfl, rfl, rfl, by decide +kernel, rfl, by decide +kernel, by decide +kernel⟩
theorem c_law_cell_at (T : Tx K mg cS cR cP) : C8.Cal P w K mg base 1 "_law_cell_at" (sp_law_cell_at K cS cR cP) [] := by
  refine cal_of T.d_law_cell_at sc_law_cell_at (fun _ _ _ _ _ _ us hl => match us, hl with | [_, _], _ => rfl) (fun vs H Q E h => ?_) (fun f cdv A outer s H vs Q E hr h => ?_)
  · obtain ⟨b, cs, k, rfl, hk0, hb, q⟩ := h
    rfl
  · obtain ⟨b, cs, k, rfl, hk0, hb, q⟩ := h
    have hu := hu_of hr
    refine ⟨_, 
    (pss_cons (ps_if (pt_cmpR op_lt (pv 1) (pe_callB call_len_seq (by rfl) T.b_len bo_len (pa_cons (pv 0) pa_nil)) (nomark _)) 
      (pss_one (ps_ret (pe_ix ix_list (pv 0) (pv 1) (fun _ _ => rfl)))) pss_nil)
    (pss_one (ps_ret pe_int))), ?_⟩
    obtain ⟨k, rfl⟩ := Int.eq_ofNat_of_zero_le hk0
    refine ⟨_, rfl, _, rfl, b, _, rfl, .inl hb, _, _, rfl, rfl, _, rfl, ite2B (fun e => ?_) (fun e => q 0)⟩
    have e1 : (k : Int) < ((cs.map V.int).length : Int) := of_decide_eq_true e
    rw [List.length_map] at e1
    have hk : k < cs.length := by omega
    exact ⟨_, rfl, _, rfl, b, _, _, _, rfl, rfl, hb, atI_nat (v := .int cs[k]) (by rw [List.getElem?_map, List.getElem?_eq_getElem hk]; rfl), q _⟩
def sp_law_numbers : Sp := fun vs H Q _ => ∃ (i j : Int) (b : Addr) (sz : List Nat), vs = [.int i, .int j, .ref b] ∧ H b = some (.lst (nV sz)) ∧ (∀ s ∈ sz, 1 ≤ s ∧ s ≤ 1000) ∧ sz.length ≤ 100 ∧
  ∀ H' z (ds : List Nat), Same H H' → H z = none → H' z = some (.lst (nV ds)) → ds.length = sz.length → DigOk sz ds → Q (.ref z) H'
abbrev nm_law_numbers : List Str := ["_law_cell", "_law_salt", "_law_sizes", "_law_number", "_law_left", "_law_found", "_law_k", "_law_one"]
theorem sc_law_numbers : FnScope nm_law_numbers ["_law_cell", "_law_salt", "_law_sizes"] (defScope s_law_numbers) := ⟨rfl, rfl, rfl, by decide +kernel, rfl, by decide +kernel, by decide +kernel⟩
theorem c_law_numbers (T : Tx K mg cS cR cP) : C8.Cal P w K mg base 1 "_law_numbers" sp_law_numbers [] := by
  refine cal_of T.d_law_numbers sc_law_numbers (fun _ _ _ _ _ _ us hl => match us, hl with | [_, _, _], _ => rfl) (fun vs H Q E h => ?_) (fun f cdv A outer s H vs Q E hr h => ?_)
  · obtain ⟨i, j, b, sz, rfl, hb, hsz, hl, q⟩ := h
    rfl
  · obtain ⟨i, j, b, sz, rfl, hb, hsz, hl, q⟩ := h
    have hu := hu_of hr
    refine ⟨_, 
    (pss_cons (ps_set (i := 3) sc_law_numbers.nd rfl (by first | exact Or.inl rfl | exact Or.inr rfl) (pe_callB (call_max2 rfl) (by rfl) T.b_max bo_max (pa_cons (pv 0) (pa_cons (pe_op op_sub (pe_un un_neg pe_int) (pv 0)) pa_nil))))
    (pss_cons (ps_set (i := 4) sc_law_numbers.nd rfl (by first | exact Or.inl rfl | exact Or.inr rfl) (pv 3))
    (pss_cons (ps_set (i := 5) sc_law_numbers.nd rfl (by first | exact Or.inl rfl | exact Or.inr rfl) (pe_lst pa_nil))
    (pss_cons (ps_for PassesOwn.never rfl (pi_range1 rfl T.b_range (pa_cons (pe_callB call_len_seq (by rfl) T.b_len bo_len (pa_cons (pv 2) pa_nil)) pa_nil)) (pg_name (i := 6) sc_law_numbers.nd rfl (by first | exact Or.inl rfl | exact Or.inr rfl)) 
      (pss_one (ps_if (PW.pt (pw_and (pt_cmpR op_ge (pv 3) (pe_op op_pow pe_int pe_int) (nomark _)) (pw_and1 (pt_cmpR op_gt (pv 4) pe_int (nomark _))))) 
        (pss_cons (ps_expr (pe_bm PySem.F.plainAttrs_list PySem.F.slot_list_append PySem.F.type_list_append mt_append (pv 5) (pa_cons (pe_op op_mod (pv 4) (pe_ix ix_list (pv 2) (pv 6) (fun _ _ => rfl))) pa_nil)))
        (pss_one (ps_set (i := 4) sc_law_numbers.nd rfl (by first | exact Or.inl rfl | exact Or.inr rfl) (pe_op op_fdiv (pv 4) (pe_ix ix_list (pv 2) (pv 6) (fun _ _ => rfl)))))) 
        (pss_cons (ps_set (i := 7) sc_law_numbers.nd rfl (by first | exact Or.inl rfl | exact Or.inr rfl) (pe_op op_mod (pe_op op_add (pe_op op_add (pe_op op_add (pv 3) (pe_op op_mul pe_int (pv 1))) (pe_op op_mul (pe_op op_mul pe_int (pv 6)) (pv 6))) (pv 6)) pe_int))
        (pss_cons (ps_set (i := 7) sc_law_numbers.nd rfl (by first | exact Or.inl rfl | exact Or.inr rfl) (pe_op op_mod (pe_op op_mul (pv 7) pe_int) pe_int))
        (pss_cons (ps_set (i := 7) sc_law_numbers.nd rfl (by first | exact Or.inl rfl | exact Or.inr rfl) (pe_op op_mod (pe_op op_mul (pe_op op_mod (pe_op op_mul (pv 7) (pv 7)) pe_int) pe_int) pe_int))
        (pss_one (ps_expr (pe_bm PySem.F.plainAttrs_list PySem.F.slot_list_append PySem.F.type_list_append mt_append (pv 5) (pa_cons (pe_op op_mod (pe_op op_fdiv (pv 7) pe_int) (pe_ix ix_list (pv 2) (pv 6) (fun _ _ => rfl))) pa_nil))))))))))
    (pss_one (ps_ret (pv 5))))))), ?_⟩
    refine ⟨_, rfl, _, rfl, _, rfl, _, _, rfl, rfl, _, _, rfl, ?_⟩
    have hN : 0 ≤ (if -1 - i > i then -1 - i else i) := by split <;> omega
    generalize hNe : (if -1 - i > i then -1 - i else i) = N at hN
    refine ⟨_, rfl, Nat.zero_le _, fun z nz => ?_⟩
    have s0 : Same H (upd H z (.lst [])) := same_upd nz
    refine ⟨_, rfl, b, _, rfl, .inl (SqL.of (s0 _ _ hb)), _, rfl, by rw [nV_len]; omega, by rw [nV_len]; omega, for_range (lo := 0) (n := ((nV sz).length : Int).toNat) (fun k σ H2 => ∃ (L : Int) (v6 v7 : Option V) (ds : List Nat), 0 ≤ L ∧ σ = [some (.int i), some (.int j), some (.ref b), some (.int N), some (.int L), some (.ref z), v6, v7] ∧ Same H H2 ∧ H2 z = some (.lst (nV ds)) ∧ ds.length = k ∧ DigOk sz ds)
      ⟨N, none, none, [], hN, by rw [← hNe]; rfl, s0, upd_same, rfl, ⟨Nat.zero_le _, fun k hk => absurd hk (Nat.not_lt_zero _)⟩⟩ ?_ ?_⟩
    · rintro k σ H2 hk ⟨L, v6, v7, ds, hL, rfl, s2, hz, hdl, hD⟩
      have hk' : k < sz.length := by rw [nV_len] at hk; omega
      have hb2 := s2 _ _ hb
      have hs := hsz _ (List.getElem_mem hk')
      have hat : atI (nV sz) (0 + (k : Int)) = some (.int (sz[k] : Nat)) := by rw [Int.zero_add]; exact atI_nat (nV_at (List.getElem?_eq_getElem hk'))
      have hgd : sz.getD ds.length 0 = sz[k] := by rw [hdl, List.getD_eq_getElem?_getD, List.getElem?_eq_getElem hk']; rfl
      have hzs : ∀ x : Int, (nV ds).length < sizeLine := fun _ => by rw [nV_len]; exact small1000 (by omega)
      have fin : ∀ (x : Int), 0 ≤ x → x < sz[k] → ∃ ds' : List Nat, Same H (upd H2 z (.lst (nV ds ++ [.int x]))) ∧ (upd H2 z (.lst (nV ds ++ [.int x]))) z = some (.lst (nV ds')) ∧ ds'.length = k + 1 ∧ DigOk sz ds' := fun x h1 h2 => by
        refine ⟨ds ++ [x.toNat], fun b' u e => ?_, ?_, ?_, ?_⟩
        · rw [upd_ne (ne_of_none e nz)]; exact s2 _ _ e
        · rw [upd_same, ← nV_snoc, Int.toNat_of_nonneg h1]
        · rw [List.length_append, hdl]; rfl
        · exact hD.snoc (by omega) (by rw [hgd]; omega)
      refine ⟨_, rfl, _, _, rfl, rfl, ⟨by decide, by decide, by decide⟩, _, _, rfl, rfl, _, rfl, ite2B (fun _ => ?_) (fun _ => iteF ?_)⟩
      · refine ⟨_, rfl, _, _, rfl, rfl, _, rfl, ite2B (fun _ => ?_) (fun _ => ?_)⟩
        · obtain ⟨ds', g1, g2, g3, g4⟩ := fin (L % (sz[k] : Nat)) (Int.emod_nonneg _ (by omega)) (Int.emod_lt_of_pos _ (by omega))
          refine ⟨_, rfl, .inl ⟨rfl, _, SqL.of hz⟩, _, rfl, _, rfl, _, rfl, b, _, _, _, rfl, rfl, SqL.of hb2, hat, _, _, rfl, rfl, by omega, z, _, _, rfl, rfl, hz, hzs 0, ?_⟩
          refine ⟨_, rfl, _, rfl, _, rfl, b, _, _, _, rfl, rfl, SqL.of (g1 _ _ hb), hat, _, _, rfl, rfl, ⟨by omega, by omega⟩, ?_⟩
          exact ⟨_, _, _, ds', Int.ediv_nonneg hL (by omega), rfl, g1, g2, g3, g4⟩
        ·
          refine ⟨_, rfl, _, rfl, _, _, rfl, rfl, .inl ⟨by decide, by decide⟩, _, _, rfl, rfl, _, rfl, _, _, rfl, rfl, .inl ⟨by decide, by decide⟩, _, rfl, _, _, rfl, rfl, .inr ⟨by omega, by omega⟩, _, _, rfl, rfl, _, rfl, _, _, rfl, rfl, _, _, rfl, rfl, pm1, ?_⟩
          refine ⟨_, rfl, _, _, rfl, rfl, .inr ⟨by decide, by decide⟩, _, _, rfl, rfl, pm1, ?_⟩
          refine ⟨_, rfl, _, rfl, _, _, rfl, rfl, cm_mod _ _, _, _, rfl, rfl, pm2, _, _, rfl, rfl, .inr ⟨by decide, by decide⟩, _, _, rfl, rfl, pm1, ?_⟩
          refine ⟨_, rfl, .inl ⟨rfl, _, SqL.of hz⟩, _, rfl, _, _, rfl, rfl, ⟨by decide, by decide⟩, _, rfl, _, rfl, b, _, _, _, rfl, rfl, SqL.of hb2, hat, _, _, rfl, rfl, by omega, z, _, _, rfl, rfl, hz, hzs 0, ?_⟩
          obtain ⟨ds', g1, g2, g3, g4⟩ := fin _ (Int.emod_nonneg _ (show ((sz[k] : Nat) : Int) ≠ 0 by omega)) (Int.emod_lt_of_pos _ (by omega))
          exact ⟨_, _, _, ds', hL, rfl, g1, g2, g3, g4⟩
      ·
        refine ⟨_, rfl, _, rfl, _, _, rfl, rfl, .inl ⟨by decide, by decide⟩, _, _, rfl, rfl, _, rfl, _, _, rfl, rfl, .inl ⟨by decide, by decide⟩, _, rfl, _, _, rfl, rfl, .inr ⟨by omega, by omega⟩, _, _, rfl, rfl, _, rfl, _, _, rfl, rfl, _, _, rfl, rfl, pm1, ?_⟩
        refine ⟨_, rfl, _, _, rfl, rfl, .inr ⟨by decide, by decide⟩, _, _, rfl, rfl, pm1, ?_⟩
        refine ⟨_, rfl, _, rfl, _, _, rfl, rfl, cm_mod _ _, _, _, rfl, rfl, pm2, _, _, rfl, rfl, .inr ⟨by decide, by decide⟩, _, _, rfl, rfl, pm1, ?_⟩
        refine ⟨_, rfl, .inl ⟨rfl, _, SqL.of hz⟩, _, rfl, _, _, rfl, rfl, ⟨by decide, by decide⟩, _, rfl, _, rfl, b, _, _, _, rfl, rfl, SqL.of hb2, hat, _, _, rfl, rfl, by omega, z, _, _, rfl, rfl, hz, hzs 0, ?_⟩
        obtain ⟨ds', g1, g2, g3, g4⟩ := fin _ (Int.emod_nonneg _ (show ((sz[k] : Nat) : Int) ≠ 0 by omega)) (Int.emod_lt_of_pos _ (by omega))
        exact ⟨_, _, _, ds', hL, rfl, g1, g2, g3, g4⟩
    · rintro σ H2 ⟨L, v6, v7, ds, hL, rfl, s2, hz, hdl, hD⟩
      rw [nV_len] at hdl
      exact ⟨_, rfl, q H2 z ds s2 nz hz (by omega) hD⟩
end
end WD

set_option Elab.async false
set_option linter.all false
set_option maxRecDepth 100000
set_option maxHeartbeats 4000000
namespace WD
open PySem PySem.Spec PyProof.Rows L2
theorem nV_flatten : ∀ rs : List (List Nat), (rs.map nV).flatten = nV rs.flatten
  | [] => rfl
  | r :: rs => by
    rw [List.map_cons, List.flatten_cons, List.flatten_cons, nV_flatten rs]
    unfold nV; rw [List.map_append]
section
variable {P : Program} {w : World} {K : PySem.W.Frag} {mg : Str → Option Value} {base : Heap} {cS cR cP : Addr}
/-! ### ranks of a wish -/
def sp_law_rank : Sp := fun vs H Q _ => ∃ (p : Addr) (W : Wish) (a t : Nat), vs = [.ref p, .int a, .int t] ∧ WAt H p W ∧ VW W ∧ a < W.2.length ∧ ∀ H', Same H H' → Q (.int (rk (W.2.getD a []) t : Nat)) H'
abbrev nm_law_rank : List Str := ["_law_wishes_here", "_law_asker", "_law_thing", "_law_k", "_law_row"]
theorem sc_law_rank : FnScope nm_law_rank ["_law_wishes_here", "_law_asker", "_law_thing"] (defScope s_law_rank) := ⟨rfl, rfl, rfl, by decide +kernel, rfl, by decide +kernel, by decide +kernel⟩
theorem c_law_rank (T : Tx K mg cS cR cP) : C8.Cal P w K mg base 1 "_law_rank" sp_law_rank [] := by
  refine cal_of T.d_law_rank sc_law_rank (fun _ _ _ _ _ _ us hl => match us, hl with | [_, _, _], _ => rfl) (fun vs H Q E h => ?_) (fun f cdv A outer s H vs Q E hr h => ?_)
  · obtain ⟨p, W, a, t, rfl, hW, hV, ha, q⟩ := h
    rfl
  · obtain ⟨p, W, a, t, rfl, hW, hV, ha, q⟩ := h
    have hu := hu_of hr
    refine ⟨_, 
    (pss_cons (ps_for PassesOwn.never rfl (pi_enum (by rfl) T.b_enumerate (pa_cons (pe_ix ix_list (pe_ix ix_tup (pv 0) pe_int (fun _ _ => rfl)) (pv 1) (fun _ _ => rfl)) pa_nil)) (pg_tup rfl (pgs_cons (pg_name (i := 3) sc_law_rank.nd rfl (by first | exact Or.inl rfl | exact Or.inr rfl)) (pgs_cons (pg_name (i := 4) sc_law_rank.nd rfl (by first | exact Or.inl rfl | exact Or.inr rfl)) pgs_nil))) 
      (pss_one (ps_if (pt_cmpR op_in_seq (pv 2) (pv 4) (by rfl)) 
        (pss_one (ps_ret (pe_op op_add (pv 3) pe_int))) pss_nil)))
    (pss_one (ps_ret pe_int))), ?_⟩
    obtain ⟨c, l, hp, hc, bs, hl, hbs⟩ := id hW
    have hrs : W.2[a]? = some (W.2.getD a []) := by rw [List.getD_eq_getElem?_getD, List.getElem?_eq_getElem ha]; rfl
    have hVr := hV.rs _ (List.mem_of_getElem? hrs)
    generalize W.2.getD a [] = rs at hrs hVr q
    obtain ⟨br, hbr, ds, hR, hds⟩ := hbs.at' hrs
    refine ⟨_, rfl, p, _, _, _, rfl, rfl, SqT.of hp, rfl, _, rfl, l, _, _, _, rfl, rfl, SqL.of hl, atI_nat (rV_at hbr), br, _, rfl, SqL.of hR, for_enum (K := K) (a := br) (xs := rV ds) (fun i σ H2 => ∃ v3 v4, σ = [some (.ref p), some (.int a), some (.int t), v3, v4] ∧ Same H H2 ∧ ∀ j r, j < i → rs[j]? = some r → t ∉ r)
      ⟨none, none, rfl, fun _ _ e => e, fun j r hj => absurd hj (Nat.not_lt_zero _)⟩ (fun i σ H2 _ ⟨_, _, _, s2, _⟩ => SqL.of (s2 _ _ hR)) ?_ ?_⟩
    · rintro i y T' σ H2 hy nT ⟨v3, v4, rfl, s2, hno⟩
      obtain ⟨b, hb, rfl⟩ := rV_get hy
      obtain ⟨r, hr, hrow⟩ := hds.at hb
      have s3 := s2.trans (same_upd (o := .tup [.int (i : Nat), .ref b]) nT)
      have hrow3 := s3 _ _ hrow
      refine ⟨T', _, rfl, SqT.of upd_same, rfl, _, _, rfl, _, _, rfl, rfl, ?_⟩
      generalize upd H2 T' (.tup [.int (i : Nat), .ref b]) = H3 at s3 hrow3
      refine ⟨_, rfl, _, rfl, b, _, rfl, .inl (SqL.of hrow3), rfl, nV_flat _, _, rfl, ite2B (fun e => ?_) (fun e => ?_)⟩
      · have e1 : inV (.int t) (nV r) = true := e
        rw [inV_nV] at e1
        have e2 := of_decide_eq_true e1
        have e3 := rk_at hr e2 hVr.nd
        refine ⟨_, rfl, _, _, rfl, rfl, ?_⟩
        have := q H3 s3
        rw [e3] at this
        exact this
      · have e1 : inV (.int t) (nV r) = false := e
        rw [inV_nV] at e1
        have e2 := of_decide_eq_false e1
        refine ⟨_, _, rfl, s3, fun j r' hj hr' => ?_⟩
        rcases Nat.lt_succ_iff_lt_or_eq.mp hj with hj | hj
        · exact hno j r' hj hr'
        · subst hj; rw [hr] at hr'; cases hr'; exact e2
    · rintro σ H2 ⟨v3, v4, rfl, s2, hno⟩
      rw [rV_len, hds.1] at hno
      have e0 : rk rs t = 0 := rk_zero fun hm => by
        obtain ⟨r, h1, h2⟩ := List.mem_flatten.mp hm
        obtain ⟨j, hj, e⟩ := List.mem_iff_getElem.mp h1
        exact hno j r hj (by rw [List.getElem?_eq_getElem hj, e]) h2
      have := q H2 s2
      rw [e0] at this
      exact this
def sp_law_longest : Sp := fun vs H Q _ => ∃ (p : Addr) (W : Wish), vs = [.ref p] ∧ WAt H p W ∧ VW W ∧ ∀ H', Same H H' → Q (.int (lg W.2 : Nat)) H'
abbrev nm_law_longest : List Str := ["_law_wishes_here", "_law_ranks_here"]
theorem sc_law_longest : FnScope nm_law_longest ["_law_wishes_here"] (defScope s_law_longest) := ⟨rfl, rfl, rfl, by decide +kernel, rfl, by decide +kernel, by decide +kernel⟩
theorem c_law_longest (T : Tx K mg cS cR cP) : C8.Cal P w K mg base 1 "_law_longest" sp_law_longest [] := by
  refine cal_of T.d_law_longest sc_law_longest (fun _ _ _ _ _ _ us hl => match us, hl with | [_], _ => rfl) (fun vs H Q E h => ?_) (fun f cdv A outer s H vs Q E hr h => ?_)
  · obtain ⟨p, W, rfl, hW, hV, q⟩ := h
    rfl
  · obtain ⟨p, W, rfl, hW, hV, q⟩ := h
    have hu := hu_of hr
    refine ⟨_, 
    (pss_one (ps_ret (pe_callB (cr_max rfl) (by rfl) T.b_max bo_max (pa_cons (pe_lc (own := [("_law_ranks_here", 1)]) (g := gName 1) (tt := tYes) rfl sc_law_longest.nd (pi_list (pe_ix ix_tup (pv 0) pe_int (fun _ _ => rfl))) (blkOk_by (own := [("_law_ranks_here", 1)]) (N := nm_law_longest) (sc := defScope s_law_longest) (by decide +kernel)) (fun _ _ _ _ _ => (pg_name (i := 1) sc_law_longest.nd rfl (by first | exact Or.inl rfl | exact Or.inr rfl))) (fun _ _ _ _ _ => pts_nil) (fun _ _ _ _ _ => (pe_callB (r := rLenS K) call_len_seq (by rfl) T.b_len bo_len (pa_cons (pv 1) pa_nil)))) pa_nil)))), ?_⟩
    obtain ⟨c, l, hp, hc, bs, hl, hbs⟩ := id hW
    refine ⟨_, rfl, p, _, _, _, rfl, rfl, SqT.of hp, rfl, l, rfl, ⟨_, SqL.of hl⟩, fun D nD => ?_⟩
    refine lc_list (K := K) (a := l) (xs := rV bs) (fun i H2 => Same H H2 ∧ H2 D = some (.lst (nV ((W.2.take i).map List.length)))) ⟨same_upd nD, upd_same⟩ (fun i H2 _ ⟨s2, _⟩ => SqL.of (s2 _ _ hl)) ?_ ?_
    · rintro i x H2 hx ⟨s2, hD⟩
      obtain ⟨b, hb, rfl⟩ := rV_get hx
      obtain ⟨rs, hrs, cs, hb2, hcs⟩ := hbs.at hb
      have hi := (List.getElem?_eq_some_iff.mp hrs).1
      refine ⟨rfl, ?_⟩
      refine ⟨_, rfl, b, _, rfl, .inl (SqL.of (s2 _ _ hb2)), _, hD, ?_, fun d o e => ?_, ?_⟩
      · rw [nV_len, List.length_map, List.length_take]
        exact small1000 (by have := hV.l7; omega)
      · rw [upd_ne (ne_of_none e nD)]; exact s2 d o e
      · rw [upd_same, rV_len, hcs.1]
        show some (HO.lst (nV _ ++ [V.int ((rs.length : Nat) : Int)])) = _
        rw [nV_snoc, List.take_succ_eq_append_getElem hi, (List.getElem?_eq_some_iff.mp hrs).2, List.map_append]; rfl
    · rintro H2 ⟨s2, hD⟩
      rw [rV_len, hbs.1, List.take_length] at hD
      have e1 : nV (W.2.map List.length) = ((W.2.map List.length).map fun (n : Nat) => (n : Int)).map V.int := by simp only [nV, List.map_map]; rfl
      rw [e1] at hD
      refine ⟨D, _, rfl, SqL.of hD, by rw [List.length_map, List.length_map]; exact hV.l1, fun m hm hmax => ?_⟩
      obtain ⟨n, hn, rfl⟩ := List.mem_map.mp hm
      have e2 : lg W.2 = n := foldr_max _ n hn fun x hx => by
        have := hmax (x : Int) (List.mem_map.mpr ⟨x, hx, rfl⟩)
        omega
      have := q H2 s2
      rw [e2] at this
      exact this
/-! ### wished -/
def sp_law_wished : Sp := fun vs H Q _ => ∃ (p : Addr) (W : Wish) (a : Nat), vs = [.ref p, .int a] ∧ WAt H p W ∧ VW W ∧ a < W.2.length ∧ ∀ H' z ns, Same H H' → H z = none → H' z = some (.lst (nV ns)) → ns.Perm (W.2.getD a []).flatten → Q (.ref z) H'
abbrev nm_law_wished : List Str := ["_law_wishes_here", "_law_asker"]
theorem sc_law_wished : FnScope nm_law_wished ["_law_wishes_here", "_law_asker"] (defScope s_law_wished) := ⟨rfl, rfl, rfl, by decide +kernel, rfl, by decide +kernel, by decide +kernel⟩
theorem c_law_wished (T : Tx K mg cS cR cP) : C8.Cal P w K mg base 1 "_law_wished" sp_law_wished [] := by
  refine cal_of T.d_law_wished sc_law_wished (fun _ _ _ _ _ _ us hl => match us, hl with | [_, _], _ => rfl) (fun vs H Q E h => ?_) (fun f cdv A outer s H vs Q E hr h => ?_)
  · obtain ⟨p, W, a, rfl, hW, hV, ha, q⟩ := h
    rfl
  · obtain ⟨p, W, a, rfl, hW, hV, ha, q⟩ := h
    have hu := hu_of hr
    refine ⟨_, 
    (pss_one (ps_ret (pe_callB cr_sorted (by rfl) T.b_sorted bo_sorted (pa_cons (pe_callB (cr_sumL rfl) (by rfl) T.b_sum bo_sum (pa_cons (pe_ix ix_list (pe_ix ix_tup (pv 0) pe_int (fun _ _ => rfl)) (pv 1) (fun _ _ => rfl)) (pa_cons (pe_lst pa_nil) pa_nil))) pa_nil)))), ?_⟩
    obtain ⟨c, l, hp, hc, bs, hl, hbs⟩ := id hW
    have hrs : W.2[a]? = some (W.2.getD a []) := by rw [List.getD_eq_getElem?_getD, List.getElem?_eq_getElem ha]; rfl
    have hVr := hV.rs _ (List.mem_of_getElem? hrs)
    generalize W.2.getD a [] = rs at hrs hVr q
    obtain ⟨br, hbr, ds, hR, hds⟩ := hbs.at' hrs
    have hfl := flat_len hVr
    have hc6 := hV.c6
    refine ⟨_, rfl, p, _, _, _, rfl, rfl, SqT.of hp, rfl, _, rfl, l, _, _, _, rfl, rfl, SqL.of hl, atI_nat (rV_at hbr), Nat.zero_le _, fun b nb => ?_⟩
    have s1 : Same H (upd H b (.lst [])) := same_upd nb
    refine ⟨br, b, ds, rs.map nV, rfl, SqL.of (s1 _ _ hR), upd_same, by rw [List.length_map]; exact hds.1, fun i x xs h1 h2 => ?_, ?_, fun H2 q2 s2 hq2 => ?_⟩
    · rw [List.getElem?_map] at h2
      obtain ⟨r, hr, rfl⟩ := Option.map_eq_some_iff.mp h2
      exact s1 _ _ (hds.2 i x r h1 hr)
    · rw [nV_flatten, nV_len]; exact Nat.le_of_lt (small1000 (by omega))
    rw [nV_flatten] at hq2
    have e1 : nV rs.flatten = (rs.flatten.map fun (n : Nat) => (n : Int)).map V.int := by simp only [nV, List.map_map]; rfl
    refine ⟨q2, rs.flatten.map fun (n : Nat) => (n : Int), rfl, SqL.of (by rw [← e1]; exact hq2), by rw [List.length_map]; omega, fun ys z hperm _ nz => ?_⟩
    obtain ⟨ns, ens, hns⟩ := perm_nats hperm
    rw [ens]
    have s12 := s1.trans s2
    exact q _ z ns (s12.trans (same_upd nz)) (s12.free nz) upd_same hns
/-! ### carried, moved -/
def sp_law_carried : Sp := fun vs H Q _ => ∃ (ch D : Addr) (W : Wish) (g : Chg) (d : List (Option Nat)), vs = [.ref ch, .ref D] ∧ ChgAt H ch g ∧ VW W ∧ Good W g ∧ H D = some (.lst (dV d)) ∧ d.length = W.2.length ∧
  ∀ H' z, Same H H' → H z = none → H' z = some (.lst (dV (carry g d))) → Q (.ref z) H'
abbrev nm_law_carried : List Str := ["_law_change_here", "_law_dealing", "_law_found"]
theorem sc_law_carried : FnScope nm_law_carried ["_law_change_here", "_law_dealing"] (defScope s_law_carried) := ⟨rfl, rfl, rfl, by decide +kernel, rfl, by decide +kernel, by decide +kernel⟩
theorem c_law_carried (T : Tx K mg cS cR cP) : C8.Cal P w K mg base 1 "_law_carried" sp_law_carried [] := by
  refine cal_of T.d_law_carried sc_law_carried (fun _ _ _ _ _ _ us hl => match us, hl with | [_, _], _ => rfl) (fun vs H Q E h => ?_) (fun f cdv A outer s H vs Q E hr h => ?_)
  · obtain ⟨ch, D, W, g, d, rfl, hC, hV, hG, hD, hdl, q⟩ := h
    rfl
  · obtain ⟨ch, D, W, g, d, rfl, hC, hV, hG, hD, hdl, q⟩ := h
    have hu := hu_of hr
    refine ⟨_, 
    (pss_cons (ps_set (i := 2) sc_law_carried.nd rfl (by first | exact Or.inl rfl | exact Or.inr rfl) (pe_callTy call_list_of (by rfl) T.b_list bo_list (pa_cons (pv 1) pa_nil)))
    (pss_cons (ps_if (pt_cmpR op_eq (pe_ix ix_tup (pv 0) pe_int (fun _ _ => rfl)) pe_str (nomark _)) 
      (pss_one (ps_expr (pe_bm PySem.F.plainAttrs_list PySem.F.slot_list_append PySem.F.type_list_append mt_append (pv 2) (pa_cons pe_non pa_nil)))) pss_nil)
    (pss_cons (ps_if (pt_cmpR op_eq (pe_ix ix_tup (pv 0) pe_int (fun _ _ => rfl)) pe_str (nomark _)) 
      (pss_one (ps_expr (pe_bm PySem.F.plainAttrs_list PySem.F.slot_list_pop PySem.F.type_list_pop mt_popAt (pv 2) (pa_cons (pe_ix ix_tup (pv 0) pe_int (fun _ _ => rfl)) pa_nil)))) pss_nil)
    (pss_one (ps_ret (pv 2)))))), ?_⟩
    have hl7 := hV.l7
    refine ⟨_, rfl, D, _, rfl, .inl (SqL.of hD), fun z nz => ?_⟩
    have s2 : Same H (upd H z (.lst (dV d))) := same_upd nz
    have hz : (upd H z (.lst (dV d))) z = some (.lst (dV d)) := upd_same
    generalize upd H z (.lst (dV d)) = H2 at s2 hz
    have hC2 := hC.same s2
    cases g with
    | list a rs =>
      obtain ⟨_, hch, _⟩ := hC2
      refine ⟨_, rfl, ch, _, _, _, rfl, rfl, SqT.of hch, rfl, rfl, _, rfl, iteBF (str_f (by decide +kernel)) ?_⟩
      refine ⟨_, rfl, ch, _, _, _, rfl, rfl, SqT.of hch, rfl, rfl, _, rfl, iteBF (str_f (by decide +kernel)) ?_⟩
      exact ⟨_, rfl, q H2 z s2 nz hz⟩
    | copies t k =>
      have hch : H2 ch = _ := hC2
      refine ⟨_, rfl, ch, _, _, _, rfl, rfl, SqT.of hch, rfl, rfl, _, rfl, iteBF (str_f (by decide +kernel)) ?_⟩
      refine ⟨_, rfl, ch, _, _, _, rfl, rfl, SqT.of hch, rfl, rfl, _, rfl, iteBF (str_f (by decide +kernel)) ?_⟩
      exact ⟨_, rfl, q H2 z s2 nz hz⟩
    | thing k =>
      have hch : H2 ch = _ := hC2
      refine ⟨_, rfl, ch, _, _, _, rfl, rfl, SqT.of hch, rfl, rfl, _, rfl, iteBF (str_f (by decide +kernel)) ?_⟩
      refine ⟨_, rfl, ch, _, _, _, rfl, rfl, SqT.of hch, rfl, rfl, _, rfl, iteBF (str_f (by decide +kernel)) ?_⟩
      exact ⟨_, rfl, q H2 z s2 nz hz⟩
    | come rs =>
      obtain ⟨y, hch, _⟩ := hC2
      refine ⟨_, rfl, ch, _, _, _, rfl, rfl, SqT.of hch, rfl, rfl, _, rfl, iteB (str_t _) ?_⟩
      refine ⟨_, rfl, .inl ⟨rfl, _, SqL.of hz⟩, z, _, _, rfl, rfl, hz, ?_, ?_⟩
      · rw [dV_len]; exact small1000 (by omega)
      have zc : ch ≠ z := ne_of hch hz (by intro e; cases e)
      have hch3 : (upd H2 z (.lst (dV d ++ [.non]))) ch = some (.tup [.str ("come" : Str), .ref y]) := by rw [upd_ne zc]; exact hch
      refine ⟨_, rfl, ch, _, _, _, rfl, rfl, SqT.of hch3, rfl, rfl, _, rfl, iteBF (str_f (by decide +kernel)) ?_⟩
      refine ⟨_, rfl, q _ z (fun b u e => ?_) nz ?_⟩
      · rw [upd_ne (ne_of_none e nz)]; exact s2 _ _ e
      · rw [upd_same]; unfold dV; show _ = some (HO.lst (List.map oV (d ++ [none]))); rw [List.map_append]; rfl
    | go a =>
      have hch : H2 ch = some (.tup [.str ("go" : Str), .int a]) := hC2
      have hal : a < d.length := by rw [hdl]; exact hG.1
      refine ⟨_, rfl, ch, _, _, _, rfl, rfl, SqT.of hch, rfl, rfl, _, rfl, iteBF (str_f (by decide +kernel)) ?_⟩
      refine ⟨_, rfl, ch, _, _, _, rfl, rfl, SqT.of hch, rfl, rfl, _, rfl, iteB (str_t _) ?_⟩
      refine ⟨_, rfl, .inl ⟨rfl, _, SqL.of hz⟩, _, rfl, ch, _, _, _, rfl, rfl, SqT.of hch, rfl, z, _, _, a, _, rfl, rfl, hz, by omega, by omega, seqIndex_nat (by rw [dV_len]; exact hal), dV_at (List.getElem?_eq_getElem hal), ?_⟩
      refine ⟨_, rfl, q _ z (fun b u e => ?_) nz ?_⟩
      · rw [upd_ne (ne_of_none e nz)]; exact s2 _ _ e
      · rw [upd_same]; unfold dV; rw [map_erase]; rfl
end
end WD

set_option Elab.async false
set_option linter.all false
set_option maxRecDepth 100000
set_option maxHeartbeats 4000000
namespace WD
open PySem PySem.Spec PyProof.Rows L2
def hadL (old : List (Option Nat)) (n : Nat) : List Nat := (List.range n).filter fun a => (got old a).isSome
theorem hadL_succ (old : List (Option Nat)) (n : Nat) : hadL old (n + 1) = hadL old n ++ (if (got old n).isSome = true then [n] else []) := by
  unfold hadL
  rw [List.range_succ, List.filter_append, List.filter_cons]
  split <;> simp
theorem hadL_len (old : List (Option Nat)) (n : Nat) : (hadL old n).length ≤ n := by
  unfold hadL
  refine Nat.le_trans (List.length_filter_le _ _) ?_
  rw [List.length_range]; exact Nat.le_refl _
theorem hadL_lt {old : List (Option Nat)} {n a : Nat} (h : a ∈ hadL old n) : a < n := by
  unfold hadL at h
  rw [List.mem_filter, List.mem_range] at h
  exact h.1
theorem mvd_had (old f : List (Option Nat)) (n : Nat) : (hadL old n).filter (fun a => !decide (got f a = got old a)) = mvd old f n := by
  unfold hadL mvd
  rw [List.filter_filter]
  refine List.filter_congr fun x _ => ?_
  rw [Bool.and_comm]
theorem ne_dec (x y : Option Nat) : (!decide (oV x = oV y)) = !decide (x = y) := by
  congr 1
  rw [Bool.eq_iff_iff, decide_eq_true_eq, decide_eq_true_eq]
  exact ⟨fun h => oV_inj h, fun h => by rw [h]⟩
theorem oV_scal2 (x y : Option Nat) : scal (oV x) (oV y) = true := by cases x <;> cases y <;> rfl
theorem take_filter {L : List Nat} {i x : Nat} {p : Nat → Bool} (h : L[i]? = some x) : (L.take (i + 1)).filter p = (L.take i).filter p ++ if p x = true then [x] else [] := by
  rw [take_one h, List.filter_append, List.filter_cons]
  split <;> simp
section
variable {P : Program} {w : World} {K : PySem.W.Frag} {mg : Str → Option Value} {base : Heap} {cS cR cP : Addr}
/-! ### moved -/
def sp_law_moved : Sp := fun vs H Q _ => ∃ (zo zf : Addr) (old f : List (Option Nat)), vs = [.ref zo, .ref zf] ∧ H zo = some (.lst (dV old)) ∧ H zf = some (.lst (dV f)) ∧ f.length = old.length ∧ old.length ≤ 7 ∧
  ∀ H' z, Same H H' → H z = none → H' z = some (.lst (nV (mvd old f old.length))) → Q (.ref z) H'
abbrev nm_law_moved : List Str := ["_law_old", "_law_found", "_law_had", "_law_asker"]
theorem sc_law_moved : FnScope nm_law_moved ["_law_old", "_law_found"] (defScope s_law_moved) := ⟨rfl, rfl, rfl, by decide +kernel, rfl, by decide +kernel, by decide +kernel⟩
theorem c_law_moved (T : Tx K mg cS cR cP) : C8.Cal P w K mg base 1 "_law_moved" sp_law_moved [] := by
  refine cal_of T.d_law_moved sc_law_moved (fun _ _ _ _ _ _ us hl => match us, hl with | [_, _], _ => rfl) (fun vs H Q E h => ?_) (fun f cdv A outer s H vs Q E hr h => ?_)
  · obtain ⟨zo, zf, old, f, rfl, hzo, hzf, hfl, ho7, q⟩ := h
    rfl
  · obtain ⟨zo, zf, old, f, rfl, hzo, hzf, hfl, ho7, q⟩ := h
    have hu := hu_of hr
    refine ⟨_, 
    (pss_cons (ps_setLc (i := 2) (own := [("_law_asker", 3)]) (g := gName 3) rfl sc_law_moved.nd rfl rfl (sw_true rfl rfl rfl (by decide +kernel)) (pi_range1 rfl T.b_range (pa_cons (pe_callB call_len_seq (by rfl) T.b_len bo_len (pa_cons (pv 0) pa_nil)) pa_nil)) (blkOk_by (own := [("_law_asker", 3)]) (N := nm_law_moved) (sc := defScope s_law_moved) (by decide +kernel)) (fun _ _ _ _ _ => (pg_name (i := 3) sc_law_moved.nd rfl (by first | exact Or.inl rfl | exact Or.inr rfl))) (fun _ _ _ _ _ => pts_one (pt_cmpR op_notN (pe_ix (r := rIxL K) ix_list (pv 0) (pv 3) (fun _ _ => rfl)) pe_non (nomark _))) (fun _ _ _ _ _ => (pv 3)))
    (pss_one (ps_ret (pe_lc (own := [("_law_asker", 3)]) (g := gName 3) rfl sc_law_moved.nd (pi_list (pv 2)) (blkOk_by (own := [("_law_asker", 3)]) (N := nm_law_moved) (sc := defScope s_law_moved) (by decide +kernel)) (fun _ _ _ _ _ => (pg_name (i := 3) sc_law_moved.nd rfl (by first | exact Or.inl rfl | exact Or.inr rfl))) (fun _ _ _ _ _ => pts_one (pt_cmpR op_ne (pe_ix (r := rIxL K) ix_list (pv 1) (pv 3) (fun _ _ => rfl)) (pe_ix (r := rIxL K) ix_list (pv 0) (pv 3) (fun _ _ => rfl)) (nomark _))) (fun _ _ _ _ _ => (pv 3)))))), ?_⟩
    refine ⟨_, rfl, zo, _, rfl, .inl (SqL.of hzo), _, rfl, by rw [dV_len]; omega, by rw [dV_len]; omega, fun D nD => ?_⟩
    refine lc_range (lo := 0) (n := ((dV old).length : Int).toNat) (fun i H2 => Same H H2 ∧ H2 D = some (.lst (nV (hadL old i)))) ⟨same_upd nD, upd_same⟩ ?_ ?_
    · rintro i H2 hi ⟨s2, hD⟩
      rw [dV_len] at hi
      have hi' : i < old.length := by omega
      have hat : atI (dV old) (0 + (i : Int)) = some (oV (got old i)) := by rw [Int.zero_add]; exact atI_nat (dV_at (got_get hi'))
      refine ⟨rfl, _, rfl, _, rfl, zo, _, _, _, rfl, rfl, SqL.of (s2 _ _ hzo), hat, rfl, _, rfl, ?_⟩
      cases ho : got old i with
      | none =>
        refine iteBF (by rfl) ⟨s2, ?_⟩
        rw [hadL_succ, ho]; simp only [Option.isSome_none, Bool.false_eq_true, if_false, List.append_nil]
        exact hD
      | some t =>
        refine iteB (by rfl) ?_
        refine ⟨_, rfl, _, hD, ?_, fun b u e => ?_, ?_⟩
        · have := hadL_len old i
          rw [nV_len]; exact small1000 (by omega)
        · rw [upd_ne (ne_of_none e nD)]; exact s2 _ _ e
        · rw [upd_same, hadL_succ, ho, Int.zero_add]; simp only [Option.isSome_some, if_true]
          unfold nV; rw [List.map_append]; rfl
    · rintro H2 ⟨s2, hD⟩
      rw [dV_len] at hD
      have eN : ((old.length : Nat) : Int).toNat = old.length := by omega
      rw [eN] at hD
      have hll := hadL_len old old.length
      refine ⟨_, rfl, D, rfl, ⟨_, SqL.of hD⟩, fun z nz => ?_⟩
      refine lc_list (K := K) (a := D) (xs := nV (hadL old old.length)) (fun i H3 => Same H2 H3 ∧ H3 z = some (.lst (nV (((hadL old old.length).take i).filter fun a => !decide (got f a = got old a))))) ⟨same_upd nz, upd_same⟩ (fun i H3 _ ⟨s3, _⟩ => SqL.of (s3 _ _ hD)) ?_ ?_
      · rintro i y H3 hy ⟨s3, hz⟩
        obtain ⟨a, ha, rfl⟩ := nV_get hy
        have hal := hadL_lt (List.mem_of_getElem? ha)
        have s23 := s2.trans s3
        have h1 : atI (dV f) (a : Int) = some (oV (got f a)) := atI_nat (dV_at (got_get (by omega)))
        have h2 : atI (dV old) (a : Int) = some (oV (got old a)) := atI_nat (dV_at (got_get hal))
        refine ⟨rfl, _, rfl, _, rfl, zf, _, _, _, rfl, rfl, SqL.of (s23 _ _ hzf), h1, _, rfl, _, rfl, zo, _, _, _, rfl, rfl, SqL.of (s23 _ _ hzo), h2, oV_scal2 _ _, _, rfl, ?_⟩
        rw [ne_dec]
        refine ite2B (fun e => ?_) (fun e => ?_)
        · refine ⟨_, rfl, _, hz, ?_, fun b u e => ?_, ?_⟩
          · rw [nV_len]
            refine small1000 (Nat.le_trans (List.length_filter_le _ _) ?_)
            rw [List.length_take]; omega
          · rw [upd_ne (ne_of_none e nz)]; exact s3 _ _ e
          · rw [upd_same, take_filter ha, e]
            simp only [if_true]
            unfold nV; rw [List.map_append]; rfl
        · refine ⟨s3, ?_⟩
          rw [take_filter ha, e]
          simp only [Bool.false_eq_true, if_false, List.append_nil]
          exact hz
      · rintro H3 ⟨s3, hz⟩
        rw [nV_len, List.take_length, mvd_had] at hz
        exact q H3 z (s2.trans s3) (s2.free nz) hz
/-! ### behind -/
def sp_law_behind : Sp := fun vs H Q _ => ∃ (p ch : Addr) (W : Wish) (g : Chg), vs = [.ref p, .ref ch] ∧ WAt H p W ∧ VW W ∧ ChgAt H ch g ∧ Good W g ∧ ∀ H' z, Same H H' → WAt H' z (behind W g) → Q (.ref z) H'
abbrev nm_law_behind : List Str := ["_law_wishes_here", "_law_change_here", "_law_copies", "_law_lists", "_law_word"]
theorem sc_law_behind : FnScope nm_law_behind ["_law_wishes_here", "_law_change_here"] (defScope s_law_behind) := ⟨rfl, rfl, rfl, by decide +kernel, rfl, by decide +kernel, by decide +kernel⟩
theorem c_law_behind (T : Tx K mg cS cR cP) : C8.Cal P w K mg base 1 "_law_behind" sp_law_behind [] := by
  refine cal_of T.d_law_behind sc_law_behind (fun _ _ _ _ _ _ us hl => match us, hl with | [_, _], _ => rfl) (fun vs H Q E h => ?_) (fun f cdv A outer s H vs Q E hr h => ?_)
  · obtain ⟨p, ch, W, g, rfl, hW, hV, hC, hG, q⟩ := h
    rfl
  · obtain ⟨p, ch, W, g, rfl, hW, hV, hC, hG, q⟩ := h
    have hu := hu_of hr
    refine ⟨_, 
    (pss_cons (ps_set (i := 2) sc_law_behind.nd rfl (by first | exact Or.inl rfl | exact Or.inr rfl) (pe_callTy call_list_of (by rfl) T.b_list bo_list (pa_cons (pe_ix ix_tup (pv 0) pe_int (fun _ _ => rfl)) pa_nil)))
    (pss_cons (ps_set (i := 3) sc_law_behind.nd rfl (by first | exact Or.inl rfl | exact Or.inr rfl) (pe_callTy call_list_of (by rfl) T.b_list bo_list (pa_cons (pe_ix ix_tup (pv 0) pe_int (fun _ _ => rfl)) pa_nil)))
    (pss_cons (ps_set (i := 4) sc_law_behind.nd rfl (by first | exact Or.inl rfl | exact Or.inr rfl) (pe_ix ix_tup (pv 1) pe_int (fun _ _ => rfl)))
    (pss_cons (ps_if (pt_cmpR op_eq (pv 4) pe_str (nomark _)) 
      (pss_one (ps_asg (pe_ix ix_tup (pv 1) pe_int (fun _ _ => rfl)) (pg_sub (pv 3) (pe_ix ix_tup (pv 1) pe_int (fun _ _ => rfl)) set_list))) pss_nil)
    (pss_cons (ps_if (pt_cmpR op_eq (pv 4) pe_str (nomark _)) 
      (pss_one (ps_asg (pe_ix ix_tup (pv 1) pe_int (fun _ _ => rfl)) (pg_sub (pv 2) (pe_ix ix_tup (pv 1) pe_int (fun _ _ => rfl)) set_list))) pss_nil)
    (pss_cons (ps_if (pt_cmpR op_eq (pv 4) pe_str (nomark _)) 
      (pss_one (ps_expr (pe_bm PySem.F.plainAttrs_list PySem.F.slot_list_append PySem.F.type_list_append mt_append (pv 3) (pa_cons (pe_ix ix_tup (pv 1) pe_int (fun _ _ => rfl)) pa_nil)))) pss_nil)
    (pss_cons (ps_if (pt_cmpR op_eq (pv 4) pe_str (nomark _)) 
      (pss_one (ps_expr (pe_bm PySem.F.plainAttrs_list PySem.F.slot_list_pop PySem.F.type_list_pop mt_popAt (pv 3) (pa_cons (pe_ix ix_tup (pv 1) pe_int (fun _ _ => rfl)) pa_nil)))) pss_nil)
    (pss_cons (ps_if (pt_cmpR op_eq (pv 4) pe_str (nomark _)) 
      (pss_one (ps_expr (pe_bm PySem.F.plainAttrs_list PySem.F.slot_list_append PySem.F.type_list_append mt_append (pv 2) (pa_cons (pe_ix ix_tup (pv 1) pe_int (fun _ _ => rfl)) pa_nil)))) pss_nil)
    (pss_one (ps_ret (pe_tup (pa_cons (pv 2) (pa_cons (pv 3) pa_nil))))))))))))), ?_⟩
    have hl7 := hV.l7
    have hc6 := hV.c6
    obtain ⟨c, l, hp, hc, bs, hl, hbs⟩ := id hW
    refine ⟨_, rfl, p, _, _, _, rfl, rfl, SqT.of hp, rfl, c, _, rfl, .inl (SqL.of hc), fun c' nc => ?_⟩
    have sc : Same H (upd H c' (.lst (nV W.1))) := same_upd nc
    refine ⟨_, rfl, p, _, _, _, rfl, rfl, SqT.of (sc _ _ hp), rfl, l, _, rfl, .inl (SqL.of (sc _ _ hl)), fun l' nl => ?_⟩
    have sl : Same (upd H c' (.lst (nV W.1))) (upd (upd H c' (.lst (nV W.1))) l' (.lst (rV bs))) := same_upd nl
    have s12 := sc.trans sl
    have cl : c' ≠ l' := ne_of_none upd_same nl
    have hnew : ∀ b ∈ [c', l'], H b = none := fun b hb => by
      simp only [List.mem_cons, List.not_mem_nil, or_false] at hb
      rcases hb with z | z <;> subst z
      · exact nc
      · exact sc.free nl
    have hO : Open2 (upd (upd H c' (.lst (nV W.1))) l' (.lst (rV bs))) c' l' W bs := ⟨cl, by rw [upd_ne cl, upd_same], upd_same, hbs.mono fun _ _ h => h.same (hid_new s12 hnew)⟩
    have hC2 : ChgAt (hid [c', l'] (upd (upd H c' (.lst (nV W.1))) l' (.lst (rV bs)))) ch g := hC.same (hid_new s12 hnew)
    generalize upd (upd H c' (.lst (nV W.1))) l' (.lst (rV bs)) = H2 at s12 hO hC2
    have hcl := hO.cl
    have hbl := hO.hb.1
    cases g with
    | list a rs =>
      obtain ⟨z, hch', hz⟩ := hC2
      have hch := hid_same _ _ hch'
      have hal : a < bs.length := by rw [hO.hb.1]; exact hG.1
      refine ⟨_, rfl, ch, _, _, _, rfl, rfl, SqT.of hch, rfl, ?_⟩
      refine ⟨_, rfl, rfl, _, rfl, iteB (str_t _) ?_⟩
      refine ⟨_, rfl, ch, _, _, _, rfl, rfl, SqT.of hch, rfl, _, rfl, _, rfl, ch, _, _, _, rfl, rfl, SqT.of hch, rfl, l', _, _, a, rfl, rfl, hO.hl, ixN_nat (by rw [rV_len]; exact hal), ?_⟩
      have sb : SameBut [c', l'] H2 (upd H2 l' (.lst ((rV bs).set a (.ref z)))) := sameBut_upd (by simp)
      have hO3 : Open2 (upd H2 l' (.lst ((rV bs).set a (.ref z)))) c' l' (behind W (.list a rs)) (bs.set a z) := ⟨hcl, by rw [upd_ne hcl]; exact hO.hc, by rw [upd_same]; unfold rV; rw [List.map_set], allAt_set (hO.hb.mono fun _ _ h => h.same (hid_mono sb)) a (hz.same (hid_mono sb))⟩
      refine ⟨_, rfl, rfl, _, rfl, iteBF (str_f (by decide +kernel)) ?_⟩
      refine ⟨_, rfl, rfl, _, rfl, iteBF (str_f (by decide +kernel)) ?_⟩
      refine ⟨_, rfl, rfl, _, rfl, iteBF (str_f (by decide +kernel)) ?_⟩
      refine ⟨_, rfl, rfl, _, rfl, iteBF (str_f (by decide +kernel)) ?_⟩
      refine ⟨_, rfl, _, rfl, (by show 2 ≤ sizeLine; decide), fun E nE => ?_⟩
      have sE := same_upd (o := .tup [.ref c', .ref l']) nE
      refine q _ E (fun b u e => sE _ _ (sb b u (s12 b u e) fun hm => ?_)) (hO3.wat nE)
      rw [hnew b hm] at e; cases e
    | copies t k =>
      have hch : H2 ch = some (.tup [.str ("copies" : Str), .int t, .int k]) := hid_same _ _ hC2
      have htl : t < W.1.length := hG.1
      refine ⟨_, rfl, ch, _, _, _, rfl, rfl, SqT.of hch, rfl, ?_⟩
      refine ⟨_, rfl, rfl, _, rfl, iteBF (str_f (by decide +kernel)) ?_⟩
      refine ⟨_, rfl, rfl, _, rfl, iteB (str_t _) ?_⟩
      refine ⟨_, rfl, ch, _, _, _, rfl, rfl, SqT.of hch, rfl, _, rfl, _, rfl, ch, _, _, _, rfl, rfl, SqT.of hch, rfl, c', _, _, t, rfl, rfl, hO.hc, ixN_nat (by rw [nV_len]; exact htl), ?_⟩
      have sb : SameBut [c', l'] H2 (upd H2 c' (.lst ((nV W.1).set t (.int k)))) := sameBut_upd (by simp)
      have hO3 : Open2 (upd H2 c' (.lst ((nV W.1).set t (.int k)))) c' l' (behind W (.copies t k)) bs := ⟨hcl, by rw [upd_same]; unfold nV; rw [← List.map_set]; rfl, by rw [upd_ne hcl.symm]; exact hO.hl, hO.hb.mono fun _ _ h => h.same (hid_mono sb)⟩
      refine ⟨_, rfl, rfl, _, rfl, iteBF (str_f (by decide +kernel)) ?_⟩
      refine ⟨_, rfl, rfl, _, rfl, iteBF (str_f (by decide +kernel)) ?_⟩
      refine ⟨_, rfl, rfl, _, rfl, iteBF (str_f (by decide +kernel)) ?_⟩
      refine ⟨_, rfl, _, rfl, (by show 2 ≤ sizeLine; decide), fun E nE => ?_⟩
      have sE := same_upd (o := .tup [.ref c', .ref l']) nE
      refine q _ E (fun b u e => sE _ _ (sb b u (s12 b u e) fun hm => ?_)) (hO3.wat nE)
      rw [hnew b hm] at e; cases e
    | come rs =>
      obtain ⟨z, hch', hz⟩ := hC2
      have hch := hid_same _ _ hch'
      refine ⟨_, rfl, ch, _, _, _, rfl, rfl, SqT.of hch, rfl, ?_⟩
      refine ⟨_, rfl, rfl, _, rfl, iteBF (str_f (by decide +kernel)) ?_⟩
      refine ⟨_, rfl, rfl, _, rfl, iteBF (str_f (by decide +kernel)) ?_⟩
      refine ⟨_, rfl, rfl, _, rfl, iteB (str_t _) ?_⟩
      refine ⟨_, rfl, .inl ⟨rfl, _, SqL.of hO.hl⟩, _, rfl, ch, _, _, _, rfl, rfl, SqT.of hch, rfl, l', _, _, rfl, rfl, hO.hl, ?_, ?_⟩
      · rw [rV_len]; exact small1000 (by omega)
      have sb : SameBut [c', l'] H2 (upd H2 l' (.lst (rV bs ++ [.ref z]))) := sameBut_upd (by simp)
      have hO3 : Open2 (upd H2 l' (.lst (rV bs ++ [.ref z]))) c' l' (behind W (.come rs)) (bs ++ [z]) := ⟨hcl, by rw [upd_ne hcl]; exact hO.hc, by rw [upd_same, rV_snoc], AllAt.snoc (hO.hb.mono fun _ _ h => h.same (hid_mono sb)) (hz.same (hid_mono sb))⟩
      refine ⟨_, rfl, rfl, _, rfl, iteBF (str_f (by decide +kernel)) ?_⟩
      refine ⟨_, rfl, rfl, _, rfl, iteBF (str_f (by decide +kernel)) ?_⟩
      refine ⟨_, rfl, _, rfl, (by show 2 ≤ sizeLine; decide), fun E nE => ?_⟩
      have sE := same_upd (o := .tup [.ref c', .ref l']) nE
      refine q _ E (fun b u e => sE _ _ (sb b u (s12 b u e) fun hm => ?_)) (hO3.wat nE)
      rw [hnew b hm] at e; cases e
    | go a =>
      have hch : H2 ch = some (.tup [.str ("go" : Str), .int a]) := hid_same _ _ hC2
      have hal : a < bs.length := by rw [hO.hb.1]; exact hG.1
      refine ⟨_, rfl, ch, _, _, _, rfl, rfl, SqT.of hch, rfl, ?_⟩
      refine ⟨_, rfl, rfl, _, rfl, iteBF (str_f (by decide +kernel)) ?_⟩
      refine ⟨_, rfl, rfl, _, rfl, iteBF (str_f (by decide +kernel)) ?_⟩
      refine ⟨_, rfl, rfl, _, rfl, iteBF (str_f (by decide +kernel)) ?_⟩
      refine ⟨_, rfl, rfl, _, rfl, iteB (str_t _) ?_⟩
      refine ⟨_, rfl, .inl ⟨rfl, _, SqL.of hO.hl⟩, _, rfl, ch, _, _, _, rfl, rfl, SqT.of hch, rfl, l', _, _, a, _, rfl, rfl, hO.hl, by omega, by omega, seqIndex_nat (by rw [rV_len]; exact hal), rV_at (List.getElem?_eq_getElem hal), ?_⟩
      have sb : SameBut [c', l'] H2 (upd H2 l' (.lst ((rV bs).eraseIdx a))) := sameBut_upd (by simp)
      have hO3 : Open2 (upd H2 l' (.lst ((rV bs).eraseIdx a))) c' l' (behind W (.go a)) (bs.eraseIdx a) := ⟨hcl, by rw [upd_ne hcl]; exact hO.hc, by rw [upd_same]; unfold rV; rw [map_erase], allAt_erase (hO.hb.mono fun _ _ h => h.same (hid_mono sb)) a⟩
      refine ⟨_, rfl, rfl, _, rfl, iteBF (str_f (by decide +kernel)) ?_⟩
      refine ⟨_, rfl, _, rfl, (by show 2 ≤ sizeLine; decide), fun E nE => ?_⟩
      have sE := same_upd (o := .tup [.ref c', .ref l']) nE
      refine q _ E (fun b u e => sE _ _ (sb b u (s12 b u e) fun hm => ?_)) (hO3.wat nE)
      rw [hnew b hm] at e; cases e
    | thing k =>
      have hch : H2 ch = some (.tup [.str ("thing" : Str), .int k]) := hid_same _ _ hC2
      refine ⟨_, rfl, ch, _, _, _, rfl, rfl, SqT.of hch, rfl, ?_⟩
      refine ⟨_, rfl, rfl, _, rfl, iteBF (str_f (by decide +kernel)) ?_⟩
      refine ⟨_, rfl, rfl, _, rfl, iteBF (str_f (by decide +kernel)) ?_⟩
      refine ⟨_, rfl, rfl, _, rfl, iteBF (str_f (by decide +kernel)) ?_⟩
      refine ⟨_, rfl, rfl, _, rfl, iteBF (str_f (by decide +kernel)) ?_⟩
      refine ⟨_, rfl, rfl, _, rfl, iteB (str_t _) ?_⟩
      refine ⟨_, rfl, .inl ⟨rfl, _, SqL.of hO.hc⟩, _, rfl, ch, _, _, _, rfl, rfl, SqT.of hch, rfl, c', _, _, rfl, rfl, hO.hc, ?_, ?_⟩
      · rw [nV_len]; exact small1000 (by omega)
      have sb : SameBut [c', l'] H2 (upd H2 c' (.lst (nV W.1 ++ [.int k]))) := sameBut_upd (by simp)
      have hO3 : Open2 (upd H2 c' (.lst (nV W.1 ++ [.int k]))) c' l' (behind W (.thing k)) bs := ⟨hcl, by rw [upd_same]; unfold nV; show _ = some (HO.lst (List.map _ (W.1 ++ [k]))); rw [List.map_append]; rfl, by rw [upd_ne hcl.symm]; exact hO.hl, hO.hb.mono fun _ _ h => h.same (hid_mono sb)⟩
      refine ⟨_, rfl, _, rfl, (by show 2 ≤ sizeLine; decide), fun E nE => ?_⟩
      have sE := same_upd (o := .tup [.ref c', .ref l']) nE
      refine q _ E (fun b u e => sE _ _ (sb b u (s12 b u e) fun hm => ?_)) (hO3.wat nE)
      rw [hnew b hm] at e; cases e
end
end WD

set_option Elab.async false
set_option linter.all false
set_option maxRecDepth 100000
set_option maxHeartbeats 4000000
namespace WD
open PySem PySem.Spec PyProof.Rows L2
/-! ### ranks by places, in plain -/
structure RkInv (ds : List Nat) (m i : Nat) (rs : List (List Nat)) : Prop where
  len : rs.length ≤ i
  ne : ∀ r ∈ rs, r ≠ []
  nd : rs.flatten.Nodup
  lt : ∀ t ∈ rs.flatten, t < m ∧ ds.getD t 0 ≤ i
theorem RkInv.nil (ds : List Nat) (m : Nat) : RkInv ds m 0 [] := ⟨Nat.le_refl _, (fun r h => by simp at h), List.nodup_nil, fun t h => by simp at h⟩
theorem RkInv.next {ds : List Nat} {m i : Nat} {rs : List (List Nat)} (h : RkInv ds m i rs) : RkInv ds m (i + 1) rs := ⟨Nat.le_succ_of_le h.len, h.ne, h.nd, fun t ht => ⟨(h.lt t ht).1, Nat.le_succ_of_le (h.lt t ht).2⟩⟩
theorem RkInv.snoc {ds : List Nat} {m i : Nat} {rs : List (List Nat)} (h : RkInv ds m i rs) {x : List Nat} (h1 : x ≠ []) (h2 : x.Nodup) (h3 : ∀ t ∈ x, t < m ∧ ds.getD t 0 = i + 1) : RkInv ds m (i + 1) (rs ++ [x]) := by
  refine ⟨by rw [List.length_append]; exact Nat.succ_le_succ h.len, fun r hr => ?_, ?_, fun t ht => ?_⟩
  · rcases List.mem_append.mp hr with hr | hr
    · exact h.ne r hr
    · have : r = x := by simpa using hr
      rw [this]; exact h1
  · rw [List.flatten_append, List.nodup_append]
    refine ⟨h.nd, by simpa using h2, fun a ha b hb e => ?_⟩
    subst e
    have hb' : a ∈ x := by simpa using hb
    have := (h.lt a ha).2
    have := (h3 a hb').2
    omega
  · rw [List.flatten_append] at ht
    rcases List.mem_append.mp ht with ht | ht
    · exact ⟨(h.lt t ht).1, Nat.le_succ_of_le (h.lt t ht).2⟩
    · have ht' : t ∈ x := by simpa using ht
      exact ⟨(h3 t ht').1, Nat.le_of_eq (h3 t ht').2⟩
theorem RkInv.vr {ds : List Nat} {m i : Nat} {rs : List (List Nat)} (h : RkInv ds m i rs) (hi : i ≤ 5) : VR m rs := ⟨Nat.le_trans h.len hi, h.ne, h.nd, fun t ht => (h.lt t ht).1⟩
def rowOf (ds : List Nat) (m v : Nat) : List Nat := (List.range m).filter fun t => decide (ds.getD t 0 = v)
theorem rowOf_succ (ds : List Nat) (m v : Nat) : rowOf ds (m + 1) v = rowOf ds m v ++ (if decide (ds.getD m 0 = v) = true then [m] else []) := by
  unfold rowOf
  rw [List.range_succ, List.filter_append, List.filter_cons]
  split <;> simp
theorem rowOf_nd (ds : List Nat) (m v : Nat) : (rowOf ds m v).Nodup := List.nodup_range.filter _
theorem rowOf_mem {ds : List Nat} {m v t : Nat} (h : t ∈ rowOf ds m v) : t < m ∧ ds.getD t 0 = v := by
  unfold rowOf at h
  rw [List.mem_filter, List.mem_range] at h
  exact ⟨h.1, of_decide_eq_true h.2⟩
theorem rowOf_len (ds : List Nat) (m v : Nat) : (rowOf ds m v).length ≤ m := by
  unfold rowOf
  refine Nat.le_trans (List.length_filter_le _ _) ?_
  rw [List.length_range]; exact Nat.le_refl _
theorem int_dec (x i : Nat) : decide (V.int (x : Int) = V.int (1 + (i : Int))) = decide (x = i + 1) := by
  rw [Bool.eq_iff_iff, decide_eq_true_eq, decide_eq_true_eq]
  exact ⟨fun e => by injection e with e; omega, fun e => by rw [e]; congr 1; omega⟩
theorem nil_dec (r : List Nat) : (!PyData.eqv (natsD r) (natsD [])) = true ↔ r ≠ [] := by
  rw [nats_eqv]; simp
section
variable {P : Program} {w : World} {K : PySem.W.Frag} {mg : Str → Option Value} {base : Heap} {cS cR cP : Addr}
def sp_law_ranks : Sp := fun vs H Q _ => ∃ (b : Addr) (ds : List Nat) (m : Nat), vs = [.ref b, .int m] ∧ H b = some (.lst (nV ds)) ∧ m ≤ ds.length ∧ m ≤ 7 ∧ ∀ H' z rs, Same H H' → H z = none → RksAt H' z rs → VR m rs → Q (.ref z) H'
abbrev nm_law_ranks : List Str := ["_law_places", "_law_things", "_law_ranks_here", "_law_rank_here", "_law_row", "_law_thing"]
theorem sc_law_ranks : FnScope nm_law_ranks ["_law_places", "_law_things"] (defScope s_law_ranks) := ⟨rfl, rfl, rfl, by decide +kernel, rfl, by decide +kernel, by decide +kernel⟩
theorem c_law_ranks (T : Tx K mg cS cR cP) : C8.Cal P w K mg base 1 "_law_ranks" sp_law_ranks [] := by
  refine cal_of T.d_law_ranks sc_law_ranks (fun _ _ _ _ _ _ us hl => match us, hl with | [_, _], _ => rfl) (fun vs H Q E h => ?_) (fun f cdv A outer s H vs Q E hr h => ?_)
  · obtain ⟨b, ds, m, rfl, hb, hmd, hm7, q⟩ := h
    rfl
  · obtain ⟨b, ds, m, rfl, hb, hmd, hm7, q⟩ := h
    have hu := hu_of hr
    refine ⟨_, 
    (pss_cons (ps_set (i := 2) sc_law_ranks.nd rfl (by first | exact Or.inl rfl | exact Or.inr rfl) (pe_lst pa_nil))
    (pss_cons (ps_for PassesOwn.never rfl (pi_range2 rfl T.b_range (pa_cons pe_int (pa_cons pe_int pa_nil))) (pg_name (i := 3) sc_law_ranks.nd rfl (by first | exact Or.inl rfl | exact Or.inr rfl)) 
      (pss_cons (ps_setLc (i := 4) (own := [("_law_thing", 5)]) (g := gName 5) rfl sc_law_ranks.nd rfl rfl (sw_true rfl rfl rfl (by decide +kernel)) (pi_range1 rfl T.b_range (pa_cons (pv 1) pa_nil)) (blkOk_by (own := [("_law_thing", 5)]) (N := nm_law_ranks) (sc := defScope s_law_ranks) (by decide +kernel)) (fun _ _ _ _ _ => (pg_name (i := 5) sc_law_ranks.nd rfl (by first | exact Or.inl rfl | exact Or.inr rfl))) (fun _ _ _ _ _ => pts_one (pt_cmpR op_eq (pe_ix (r := rIxL K) ix_list (pv 0) (pv 5) (fun _ _ => rfl)) (pv 3) (nomark _))) (fun _ _ _ _ _ => (pv 5)))
      (pss_one (ps_if (pt_cmpR (op_neD hr.units) (pv 4) (pe_lst pa_nil) (nomark _)) 
        (pss_one (ps_expr (pe_bm PySem.F.plainAttrs_list PySem.F.slot_list_append PySem.F.type_list_append mt_append (pv 2) (pa_cons (pv 4) pa_nil)))) pss_nil))))
    (pss_one (ps_ret (pv 2))))), ?_⟩
    refine ⟨Nat.zero_le _, fun O nO => ?_⟩
    have s0 : Same H (upd H O (.lst [])) := same_upd nO
    refine ⟨_, _, rfl, ⟨by decide, by decide, by decide, by decide⟩, for_range (lo := 1) (n := ((6 : Int) - 1).toNat) (fun i σ H2 => ∃ (v3 v4 : Option V) (os : List Addr) (rs : List (List Nat)), σ = [some (.ref b), some (.int m), some (.ref O), v3, v4, none] ∧ Same H H2 ∧ H2 O = some (.lst (rV os)) ∧ AllAt (RowAt (hid [O] H2)) os rs ∧ RkInv ds m i rs)
      ⟨none, none, [], [], rfl, s0, upd_same, AllAt.nil, RkInv.nil ds m⟩ ?_ ?_⟩
    · rintro i σ H2 hi ⟨v3, v4, os, rs, rfl, s2, hO, hos, hI⟩
      refine ⟨_, rfl, _, rfl, by omega, by omega, fun D nD => ?_⟩
      have OD : O ≠ D := ne_of_none hO nD
      refine lc_range (lo := 0) (n := ((m : Nat) : Int).toNat) (fun j H3 => Same H2 H3 ∧ H3 D = some (.lst (nV (rowOf ds j (i + 1))))) ⟨same_upd nD, upd_same⟩ ?_ ?_
      · rintro j H3 hj ⟨s3, hD⟩
        have hj' : j < ds.length := by omega
        have hat : atI (nV ds) (0 + (j : Int)) = some (.int (ds.getD j 0 : Nat)) := by rw [Int.zero_add]; exact atI_nat (nV_at (by rw [List.getD_eq_getElem?_getD, List.getElem?_eq_getElem hj']; rfl))
        refine ⟨rfl, _, rfl, _, rfl, b, _, _, _, rfl, rfl, SqL.of (s3 _ _ (s2 _ _ hb)), hat, _, rfl, rfl, _, rfl, ?_⟩
        rw [int_dec]
        refine ite2B (fun e => ?_) (fun e => ?_)
        · refine ⟨_, rfl, _, hD, ?_, fun c u e => ?_, ?_⟩
          · have := rowOf_len ds j (i + 1)
            rw [nV_len]; exact small1000 (by omega)
          · rw [upd_ne (ne_of_none e nD)]; exact s3 _ _ e
          · rw [upd_same, rowOf_succ, e, Int.zero_add]; simp only [if_true]
            unfold nV; rw [List.map_append]; rfl
        · refine ⟨s3, ?_⟩
          rw [rowOf_succ, e]; simp only [Bool.false_eq_true, if_false, List.append_nil]
          exact hD
      · rintro H3 ⟨s3, hD⟩
        have eM : ((m : Nat) : Int).toNat = m := by omega
        rw [eM] at hD
        have s23 := s2.trans s3
        -- if row != []
        refine ⟨_, rfl, Nat.zero_le _, fun e0 ne0 => ?_⟩
        have s4 : Same H3 (upd H3 e0 (.lst [])) := same_upd ne0
        have hD4 := s4 _ _ hD
        have he4 : (upd H3 e0 (.lst [])) e0 = some (.lst (nV [])) := upd_same
        refine ⟨natsD (rowOf ds m (i + 1)), natsD [], row_dp hD4, row_dp he4, nats_shaped _, nats_shaped _, _, rfl, ?_⟩
        have s24 := s3.trans s4
        have hO4 := s24 _ _ hO
        have hos4 : AllAt (RowAt (hid [O] (upd H3 e0 (.lst [])))) os rs := hos.mono fun _ _ h => h.same (hid_mono (.of s24 _))
        generalize upd H3 e0 (.lst []) = H4 at s4 hD4 he4 s24 hO4 hos4
        refine ite2B (fun e => ?_) (fun e => ?_)
        · have hne := (nil_dec _).mp e
          refine ⟨_, rfl, .inl ⟨rfl, _, SqL.of hO4⟩, _, rfl, O, _, _, rfl, rfl, hO4, ?_, ?_⟩
          · have := hI.len
            rw [rV_len, hos4.1]; exact small1000 (by have : i < 5 := hi; omega)
          have sb : SameBut [O] H4 (upd H4 O (.lst (rV os ++ [.ref D]))) := sameBut_upd (by simp)
          refine ⟨_, _, os ++ [D], rs ++ [rowOf ds m (i + 1)], rfl, fun c u e => ?_, by rw [upd_same, rV_snoc], AllAt.snoc (hos4.mono fun _ _ h => h.same (hid_mono sb)) (hid_some.mpr ⟨by simpa using OD.symm, ?_⟩), hI.snoc hne (rowOf_nd _ _ _) fun t ht => rowOf_mem ht⟩
          · rw [upd_ne (ne_of_none e nO)]; exact s24 _ _ (s2 _ _ e)
          · rw [upd_ne OD.symm]; exact hD4
        · exact ⟨_, _, os, rs, rfl, s2.trans s24, hO4, hos4, hI.next⟩
    · rintro σ H2 ⟨v3, v4, os, rs, rfl, s2, hO, hos, hI⟩
      exact ⟨_, rfl, q H2 O rs s2 nO ⟨os, hO, hos.mono fun _ _ h => h.same hid_same⟩ (hI.vr (Nat.le_refl _))⟩
/-! ### wishes -/
def tab11 : List Nat := [1, 1, 2, 0, 3, 7, 1, 4, 5, 6, 1]
theorem tab_le {x : Nat} (h : x < 11) : tab11[x]? = some (tab11.getD x 0) ∧ tab11.getD x 0 ≤ 7 := by
  have : ∀ y : _root_.Fin 11, tab11[y.val]? = some (tab11.getD y.val 0) ∧ tab11.getD y.val 0 ≤ 7 := by decide
  exact this ⟨x, h⟩
theorem five {ds : List Nat} (h : ds.length = 5) : ∃ a b c d e, ds = [a, b, c, d, e] := by
  match ds, h with
  | [a, b, c, d, e], _ => exact ⟨a, b, c, d, e, rfl⟩
theorem four {ds : List Nat} (h : ds.length = 4) : ∃ a b c d, ds = [a, b, c, d] := by
  match ds, h with
  | [a, b, c, d], _ => exact ⟨a, b, c, d, rfl⟩
theorem cut5 {a b c d e : Nat} (ha : a < 3) (h1 : c < 11) (h2 : d < 11) (h3 : e < 11) : ∃ xs : List Nat, cutV (nV [a, b, c, d, e]) (some 2) (some (3 + (a : Int))) = nV xs ∧ xs.length = 1 + a ∧ ∀ x ∈ xs, x < 11 := by
  match a, ha with
  | 0, _ => exact ⟨[c], rfl, rfl, fun x hx => by
      have : x = c := by simpa using hx
      omega⟩
  | 1, _ => exact ⟨[c, d], rfl, rfl, fun x hx => by
      have : x = c ∨ x = d := by simpa using hx
      omega⟩
  | 2, _ => exact ⟨[c, d, e], rfl, rfl, fun x hx => by
      have : x = c ∨ x = d ∨ x = e := by simpa using hx
      omega⟩
def sp_law_wishes (K : PySem.W.Frag) (cS cR cP : Addr) : Sp := fun vs H Q _ => ∃ (b : Addr) (cs : List Int) (k : Nat), vs = [.ref b, .int k, .int 3, .int 3, .int 3] ∧ SqL K H b (cs.map V.int) ∧
  ∀ H' z W, Same H H' → WAt H' z W → VW W → W.1.length ≤ 3 → W.2.length ≤ 3 → Q (.ref z) H'
abbrev nm_law_wishes : List Str := ["_law_script", "_law_at", "_law_most_things", "_law_most_askers", "_law_most_ranks", "_law_sizes", "_law_digits", "_law_copies", "_law_digit", "_law_lists", "_law_asker", "_law_cell", "_law_places", "_law_ranks_here", "_law_rank_here", "_law_row", "_law_thing"]
theorem sc_law_wishes : FnScope nm_law_wishes ["_law_script", "_law_at", "_law_most_things", "_law_most_askers", "_law_most_ranks"] (defScope s_law_wishes) := ⟨rfl, rfl, rfl, by decide +kernel, rfl, by decide +kernel, by decide +kernel⟩
theorem c_law_wishes (T : Tx K mg cS cR cP) : C8.Cal P w K mg base 2 "_law_wishes" (sp_law_wishes K cS cR cP) [] := by
  refine cal_of T.d_law_wishes sc_law_wishes (fun _ _ _ _ _ _ us hl => match us, hl with | [_, _, _, _, _], _ => rfl) (fun vs H Q E h => ?_) (fun f cdv A outer s H vs Q E hr h => ?_)
  · obtain ⟨b, cs, k, rfl, hb, q⟩ := h
    rfl
  · obtain ⟨b, cs, k, rfl, hb, q⟩ := h
    have hu := hu_of hr
    refine ⟨_, 
    (pss_cons (ps_set (i := 5) sc_law_wishes.nd rfl (by first | exact Or.inl rfl | exact Or.inr rfl) (pe_op op_cat (pe_lst (pa_cons (pv 2) (pa_cons (pv 3) pa_nil))) (pe_op op_rep (pe_lst (pa_cons pe_int pa_nil)) (pv 2))))
    (pss_cons (ps_set (i := 6) sc_law_wishes.nd rfl (by first | exact Or.inl rfl | exact Or.inr rfl) (C8.pe_c (c_law_numbers T) hr (by decide) rfl (pa_cons (C8.pe_c (c_law_cell_at T) hr (by decide) rfl (pa_cons (pv 0) (pa_cons (pv 1) pa_nil))) (pa_cons (pv 1) (pa_cons (pv 5) pa_nil)))))
    (pss_cons (ps_setLc (i := 7) (own := [("_law_digit", 8)]) (g := gName 8) (tt := tYes) rfl sc_law_wishes.nd rfl rfl (sw_true rfl rfl rfl (by decide +kernel)) (pi_list (pe_slice sl_list (pv 6) (po_some pe_int) (po_some (pe_op op_add pe_int (pe_ix ix_list (pv 6) pe_int (fun _ _ => rfl)))))) (blkOk_by (own := [("_law_digit", 8)]) (N := nm_law_wishes) (sc := defScope s_law_wishes) (by decide +kernel)) (fun _ _ _ _ _ => (pg_name (i := 8) sc_law_wishes.nd rfl (by first | exact Or.inl rfl | exact Or.inr rfl))) (fun _ _ _ _ _ => pts_nil) (fun _ _ _ _ _ => (pe_ix (r := rIxL K) ix_list (pe_lst (pa_cons pe_int (pa_cons pe_int (pa_cons pe_int (pa_cons pe_int (pa_cons pe_int (pa_cons pe_int (pa_cons pe_int (pa_cons pe_int (pa_cons pe_int (pa_cons pe_int (pa_cons pe_int pa_nil)))))))))))) (pv 8) (fun _ _ => rfl))))
    (pss_cons (ps_set (i := 9) sc_law_wishes.nd rfl (by first | exact Or.inl rfl | exact Or.inr rfl) (pe_lst pa_nil))
    (pss_cons (ps_for PassesOwn.never rfl (pi_range1 rfl T.b_range (pa_cons (pe_op op_add pe_int (pe_ix ix_list (pv 6) pe_int (fun _ _ => rfl))) pa_nil)) (pg_name (i := 10) sc_law_wishes.nd rfl (by first | exact Or.inl rfl | exact Or.inr rfl)) 
      (pss_cons (ps_set (i := 11) sc_law_wishes.nd rfl (by first | exact Or.inl rfl | exact Or.inr rfl) (C8.pe_c (c_law_cell_at T) hr (by decide) rfl (pa_cons (pv 0) (pa_cons (pe_op op_add (pe_op op_add (pv 1) pe_int) (pv 10)) pa_nil))))
      (pss_cons (ps_set (i := 5) sc_law_wishes.nd rfl (by first | exact Or.inl rfl | exact Or.inr rfl) (pe_op op_cat (pe_op op_rep (pe_lst (pa_cons (pe_op op_add (pv 4) pe_int) pa_nil)) (pv 2)) (pe_lst (pa_cons pe_int pa_nil))))
      (pss_cons (ps_set (i := 12) sc_law_wishes.nd rfl (by first | exact Or.inl rfl | exact Or.inr rfl) (C8.pe_c (c_law_numbers T) hr (by decide) rfl (pa_cons (pv 11) (pa_cons (pe_op op_add (pe_op op_add (pe_op op_mul pe_int (pv 1)) (pe_op op_mul pe_int (pv 10))) pe_int) (pa_cons (pv 5) pa_nil)))))
      (pss_cons (ps_set (i := 13) sc_law_wishes.nd rfl (by first | exact Or.inl rfl | exact Or.inr rfl) (pe_lst pa_nil))
      (pss_cons (ps_for PassesOwn.never rfl (pi_range2 rfl T.b_range (pa_cons pe_int (pa_cons (pe_op op_add (pv 4) pe_int) pa_nil))) (pg_name (i := 14) sc_law_wishes.nd rfl (by first | exact Or.inl rfl | exact Or.inr rfl)) 
        (pss_cons (ps_setLc (i := 15) (own := [("_law_thing", 16)]) (g := gName 16) rfl sc_law_wishes.nd rfl rfl (sw_true rfl rfl rfl (by decide +kernel)) (pi_range1 rfl T.b_range (pa_cons (pe_callB call_len_seq (by rfl) T.b_len bo_len (pa_cons (pv 7) pa_nil)) pa_nil)) (blkOk_by (own := [("_law_thing", 16)]) (N := nm_law_wishes) (sc := defScope s_law_wishes) (by decide +kernel)) (fun _ _ _ _ _ => (pg_name (i := 16) sc_law_wishes.nd rfl (by first | exact Or.inl rfl | exact Or.inr rfl))) (fun _ _ _ _ _ => pts_one (pt_cmpR op_eq (pe_ix (r := rIxL K) ix_list (pv 12) (pv 16) (fun _ _ => rfl)) (pv 14) (nomark _))) (fun _ _ _ _ _ => (pv 16)))
        (pss_one (ps_if (pt_cmpR (op_neD hr.units) (pv 15) (pe_lst pa_nil) (nomark _)) 
          (pss_one (ps_expr (pe_bm PySem.F.plainAttrs_list PySem.F.slot_list_append PySem.F.type_list_append mt_append (pv 13) (pa_cons (pe_ix ix_list (pe_lst (pa_cons (pv 15) (pa_cons (pe_revL (pv 15)) pa_nil))) (pe_ix ix_list (pv 12) (pe_un un_neg pe_int) (fun _ _ => rfl)) (fun _ _ => rfl)) pa_nil)))) pss_nil))))
      (pss_one (ps_expr (pe_bm PySem.F.plainAttrs_list PySem.F.slot_list_append PySem.F.type_list_append mt_append (pv 9) (pa_cons (pv 13) pa_nil))))))))))
    (pss_one (ps_ret (pe_tup (pa_cons (pv 7) (pa_cons (pv 9) pa_nil)))))))))), ?_⟩
    -- sizes
    refine ⟨_, rfl, _, rfl, (by show 2 ≤ sizeLine; decide), fun a1 na1 => ⟨(by show 1 ≤ sizeLine; decide), fun a2 na2 => ?_⟩⟩
    refine ⟨_, rfl, a2, 3, _, rfl, rfl, upd_same, by decide, by decide, (by show 1 * 3 ≤ sizeLine; decide), fun a3 na3 => ?_⟩
    have s1 : Same H (upd H a1 (.lst [.int 3, .int 3])) := same_upd na1
    have s2 : Same (upd H a1 (.lst [.int 3, .int 3])) (upd (upd H a1 (.lst [.int 3, .int 3])) a2 (.lst [.int 11])) := same_upd na2
    have s3 := same_upd (o := .lst (List.replicate (3 : Int).toNat [V.int 11]).flatten) na3
    refine ⟨a1, a3, _, _, rfl, rfl, s3 _ _ (s2 _ _ upd_same), upd_same, (by show 5 ≤ sizeLine; decide), fun a4 na4 => ?_⟩
    have s4 := (s1.trans (s2.trans s3)).trans (same_upd (o := .lst ([.int 3, .int 3] ++ (List.replicate (3 : Int).toNat [V.int 11]).flatten)) na4)
    -- digits
    refine ⟨_, rfl, _, rfl, b, cs, k, rfl, by omega, sqlSame hb s4, fun i0 => ⟨_, rfl, _, rfl, i0, k, a4, [3, 3, 11, 11, 11], rfl, upd_same, by decide, by decide, fun H5 zd ds s5' _ hzd hdl hdo => ?_⟩⟩
    have s5 := s4.trans s5'
    obtain ⟨d0, d1, d2, d3, d4, rfl⟩ := five hdl
    have g0 : d0 < 3 := hdo.lt 0 (by show 0 < 5; decide)
    have g1 : d1 < 3 := hdo.lt 1 (by show 1 < 5; decide)
    have g2 : d2 < 11 := hdo.lt 2 (by show 2 < 5; decide)
    have g3 : d3 < 11 := hdo.lt 3 (by show 3 < 5; decide)
    have g4 : d4 < 11 := hdo.lt 4 (by show 4 < 5; decide)
    obtain ⟨xs, ecut, hxl, hx11⟩ := cut5 (b := d1) g0 g2 g3 g4
    -- copies
    have hz0 : atI (nV [d0, d1, d2, d3, d4]) 0 = some (.int (d0 : Nat)) := rfl
    refine ⟨_, rfl, _, rfl, _, rfl, zd, _, _, _, rfl, rfl, SqL.of hzd, hz0, _, _, rfl, rfl, _, rfl, zd, _, rfl, SqL.of hzd, fun p np => ?_⟩
    rw [ecut]
    have s6 := s5.trans (same_upd (o := .lst (nV xs)) np)
    refine ⟨p, rfl, ⟨_, SqL.of upd_same⟩, fun D nD => ?_⟩
    have hp : (upd H5 p (.lst (nV xs))) p = some (.lst (nV xs)) := upd_same
    have hzd6 : (upd H5 p (.lst (nV xs))) zd = some (.lst (nV [d0, d1, d2, d3, d4])) := same_upd np _ _ hzd
    generalize upd H5 p (.lst (nV xs)) = H6 at s6 nD hp hzd6
    refine lc_list (K := K) (a := p) (xs := nV xs) (fun i H7 => Same H6 H7 ∧ H7 D = some (.lst (nV ((xs.take i).map fun x => tab11.getD x 0)))) ⟨same_upd nD, upd_same⟩ (fun i H7 _ ⟨s7, _⟩ => SqL.of (s7 _ _ hp)) ?_ ?_
    · rintro i y H7 hy ⟨s7, hD⟩
      obtain ⟨x, hx, rfl⟩ := nV_get hy
      have hx' := tab_le (hx11 x (List.mem_of_getElem? hx))
      have hil := (List.getElem?_eq_some_iff.mp hx).1
      refine ⟨rfl, (by show 11 ≤ sizeLine; decide), fun e ne => ?_⟩
      have he : (upd H7 e (.lst (nV tab11))) e = some (.lst (nV tab11)) := upd_same
      refine ⟨_, rfl, e, _, _, _, rfl, rfl, SqL.of he, atI_nat (nV_at hx'.1), _, same_upd ne _ _ hD, ?_, fun c u h => ?_, ?_⟩
      · rw [nV_len, List.length_map, List.length_take]; exact small1000 (by omega)
      · rw [upd_ne (ne_of_none h nD)]; exact same_upd ne _ _ (s7 _ _ h)
      · rw [upd_same, take_one hx, List.map_append]
        unfold nV; rw [List.map_append]; rfl
    rintro H7 ⟨s7', hD⟩
    rw [nV_len, List.take_length] at hD
    have s7 := s6.trans s7'
    have hzd7 := s7' _ _ hzd6
    have hcl : (xs.map fun x => tab11.getD x 0).length = 1 + d0 := by rw [List.length_map]; exact hxl
    have hc7 : ∀ c ∈ xs.map fun x => tab11.getD x 0, c ≤ 7 := fun c hc => by
      obtain ⟨x, hx, e⟩ := List.mem_map.mp hc
      rw [← e]; exact (tab_le (hx11 x hx)).2
    generalize (xs.map fun x => tab11.getD x 0) = cp at hD hcl hc7
    -- lists
    refine ⟨Nat.zero_le _, fun Z nZ => ?_⟩
    have DZ : D ≠ Z := ne_of_none hD nZ
    have hz1 : atI (nV [d0, d1, d2, d3, d4]) 1 = some (.int (d1 : Nat)) := rfl
    have s8 := same_upd (o := .lst []) nZ
    refine ⟨_, rfl, zd, _, _, _, rfl, rfl, SqL.of (s8 _ _ hzd7), hz1, _, _, rfl, rfl, _, rfl, by omega, by omega, for_range (lo := 0) (n := ((1 : Int) + (d1 : Nat)).toNat) (fun i σ H9 => ∃ (v5 v10 v11 v12 v13 v14 v15 : Option V) (os : List Addr) (ls : List (List (List Nat))),
        σ = [some (.ref b), some (.int k), some (.int 3), some (.int 3), some (.int 3), v5, some (.ref zd), some (.ref D), none, some (.ref Z), v10, v11, v12, v13, v14, v15, none] ∧ Same H7 H9 ∧ H9 Z = some (.lst (rV os)) ∧ AllAt (RksAt (hid [Z] H9)) os ls ∧ ls.length = i ∧ ∀ rs ∈ ls, VR cp.length rs)
      ⟨_, none, none, none, none, none, none, [], [], rfl, s8, upd_same, AllAt.nil, rfl, fun rs h => by simp at h⟩ ?_ ?_⟩
    · rintro i σ H9 hi ⟨v5, v10, v11, v12, v13, v14, v15, os, ls, rfl, s9, hZ, hos, hll, hvr⟩
      have hb9 := sqlSame hb (s7.trans s9)
      -- cell
      refine ⟨_, rfl, _, rfl, _, _, rfl, rfl, _, rfl, _, _, rfl, rfl, b, cs, _, rfl, by omega, hb9, fun i1 => ?_⟩
      -- sizes
      refine ⟨_, rfl, _, _, rfl, rfl, (by show 1 ≤ sizeLine; decide), fun a1 na1 => ⟨_, rfl, a1, 3, _, rfl, rfl, upd_same, by decide, by decide, (by show 1 * 3 ≤ sizeLine; decide), fun a2 na2 => ⟨(by show 1 ≤ sizeLine; decide), fun a3 na3 => ?_⟩⟩⟩
      have t1 : Same H9 (upd H9 a1 (.lst [.int (3 + 1)])) := same_upd na1
      have t2 : Same (upd H9 a1 (.lst [.int (3 + 1)])) (upd (upd H9 a1 (.lst [.int (3 + 1)])) a2 (.lst (List.replicate (3 : Int).toNat [V.int (3 + 1)]).flatten)) := same_upd na2
      have t3 := same_upd (o := .lst [.int 2]) na3
      refine ⟨a2, a3, _, _, rfl, rfl, t3 _ _ upd_same, upd_same, (by show 4 ≤ sizeLine; decide), fun a4 na4 => ?_⟩
      have t4 := (t1.trans (t2.trans t3)).trans (same_upd (o := .lst ((List.replicate (3 : Int).toNat [V.int (3 + 1)]).flatten ++ [.int 2])) na4)
      -- places
      refine ⟨_, rfl, _, rfl, _, _, rfl, rfl, .inl ⟨by decide, by decide⟩, _, rfl, _, _, rfl, rfl, .inl ⟨by decide, by decide⟩, _, _, rfl, rfl, _, _, rfl, rfl, _, rfl, i1, _, a4, [4, 4, 4, 2], rfl, upd_same, by decide, by decide, fun HA zp ds t5' _ hzp hpl hpo => ?_⟩
      have t5 := t4.trans t5'
      have gl : ds.getD 3 0 < 2 := hpo.lt 3 (by rw [hpl]; show 3 < 4; decide)
      obtain ⟨p0, p1, p2, p3, rfl⟩ := four hpl
      have gl' : p3 < 2 := gl
      have hD9 := t5 _ _ (s9 _ _ hD)
      have hZ9 := t5 _ _ hZ
      have hosA : AllAt (RksAt (hid [Z] HA)) os ls := hos.mono fun _ _ h => h.same (hid_mono (.of t5 _))
      -- ranks_here
      refine ⟨Nat.zero_le _, fun O nO => ?_⟩
      have OZ : O ≠ Z := (ne_of_none hZ9 nO).symm
      have t6 := same_upd (o := .lst []) nO
      refine ⟨_, rfl, _, _, rfl, rfl, _, _, rfl, ⟨by decide, by decide, by decide, by decide⟩, for_range (lo := 1) (n := ((3 : Int) + 1 - 1).toNat) (fun j σ HB => ∃ (v14 v15 : Option V) (rws : List Addr) (rs : List (List Nat)),
          σ = [some (.ref b), some (.int k), some (.int 3), some (.int 3), some (.int 3), some (.ref a4), some (.ref zd), some (.ref D), none, some (.ref Z), some (.int (0 + (i : Int))), some (.int i1), some (.ref zp), some (.ref O), v14, v15, none] ∧ Same HA HB ∧ HB O = some (.lst (rV rws)) ∧
            AllAt (RowAt (hid [O, Z] HB)) rws rs ∧ RkInv [p0, p1, p2, p3] cp.length j rs)
        ⟨_, _, [], [], rfl, t6, upd_same, AllAt.nil, RkInv.nil _ _⟩ ?_ ?_⟩
      · rintro j σ HB hj ⟨v14, v15, rws, rs, rfl, t7, hO, hrws, hI⟩
        have hDB := t7 _ _ hD9
        refine ⟨_, rfl, D, _, rfl, .inl (SqL.of hDB), _, rfl, by rw [nV_len]; omega, by rw [nV_len]; omega, fun Dr nDr => ?_⟩
        have ODr : O ≠ Dr := ne_of_none hO nDr
        have ZDr : Z ≠ Dr := ne_of_none (t7 _ _ hZ9) nDr
        refine lc_range (lo := 0) (n := ((nV cp).length : Int).toNat) (fun e HC => Same HB HC ∧ HC Dr = some (.lst (nV (rowOf [p0, p1, p2, p3] e (j + 1))))) ⟨same_upd nDr, upd_same⟩ ?_ ?_
        · rintro e HC he ⟨t8, hDr⟩
          have he' : e < 3 := by rw [nV_len] at he; omega
          have hat : atI (nV [p0, p1, p2, p3]) (0 + (e : Int)) = some (.int ([p0, p1, p2, p3].getD e 0 : Nat)) := by
            rw [Int.zero_add]
            exact atI_nat (nV_at (by rw [List.getD_eq_getElem?_getD, List.getElem?_eq_getElem (by show e < 4; omega)]; rfl))
          refine ⟨rfl, _, rfl, _, rfl, zp, _, _, _, rfl, rfl, SqL.of (t8 _ _ (t7 _ _ hzp)), hat, _, rfl, rfl, _, rfl, ?_⟩
          rw [int_dec]
          refine ite2B (fun ee => ?_) (fun ee => ?_)
          · refine ⟨_, rfl, _, hDr, ?_, fun c u h => ?_, ?_⟩
            · have := rowOf_len [p0, p1, p2, p3] e (j + 1)
              rw [nV_len]; exact small1000 (by omega)
            · rw [upd_ne (ne_of_none h nDr)]; exact t8 _ _ h
            · rw [upd_same, rowOf_succ, ee, Int.zero_add]; simp only [if_true]
              unfold nV; rw [List.map_append]; rfl
          · refine ⟨t8, ?_⟩
            rw [rowOf_succ, ee]; simp only [Bool.false_eq_true, if_false, List.append_nil]
            exact hDr
        · rintro HC ⟨t8, hDr⟩
          have eM : ((nV cp).length : Int).toNat = cp.length := by rw [nV_len]; omega
          rw [eM] at hDr
          refine ⟨_, rfl, Nat.zero_le _, fun e0 ne0 => ?_⟩
          have t9 : Same HC (upd HC e0 (.lst [])) := same_upd ne0
          have hDr4 := t9 _ _ hDr
          have he4 : (upd HC e0 (.lst [])) e0 = some (.lst (nV [])) := upd_same
          refine ⟨natsD (rowOf [p0, p1, p2, p3] cp.length (j + 1)), natsD [], row_dp hDr4, row_dp he4, nats_shaped _, nats_shaped _, _, rfl, ?_⟩
          have t79 := t8.trans t9
          have hO4 := t79 _ _ hO
          have hrws4 : AllAt (RowAt (hid [O, Z] (upd HC e0 (.lst [])))) rws rs := hrws.mono fun _ _ h => h.same (hid_mono (.of t79 _))
          generalize upd HC e0 (.lst []) = HD at t9 hDr4 he4 t79 hO4 hrws4
          have t7D := t7.trans t79
          refine ite2B (fun e => ?_) (fun e => ?_)
          · have hne := (nil_dec _).mp e
            refine ⟨_, rfl, .inl ⟨rfl, _, SqL.of hO4⟩, _, rfl, _, rfl, Dr, _, rfl, SqL.of hDr4, fun pr npr => ⟨(by show 2 ≤ sizeLine; decide), fun e1 ne1 => ?_⟩⟩
            have u1 := same_upd (o := .lst (nV (rowOf [p0, p1, p2, p3] cp.length (j + 1))).reverse) npr
            have u2 := same_upd (o := .lst [.ref Dr, .ref pr]) ne1
            have Opr : O ≠ pr := ne_of_none hO4 npr
            have Zpr : Z ≠ pr := ne_of_none (t7D _ _ hZ9) npr
            have hpr : (upd HD pr (.lst (nV (rowOf [p0, p1, p2, p3] cp.length (j + 1))).reverse)) pr = some (.lst (nV (rowOf [p0, p1, p2, p3] cp.length (j + 1)).reverse)) := by rw [upd_same]; unfold nV; rw [List.map_reverse]
            have key : ∃ (A : Addr) (x : List Nat), atI [V.ref Dr, V.ref pr] (p3 : Int) = some (.ref A) ∧ A ≠ O ∧ A ≠ Z ∧ (upd (upd HD pr (.lst (nV (rowOf [p0, p1, p2, p3] cp.length (j + 1))).reverse)) e1 (.lst [.ref Dr, .ref pr])) A = some (.lst (nV x)) ∧ x ≠ [] ∧ x.Nodup ∧ ∀ t ∈ x, t < cp.length ∧ [p0, p1, p2, p3].getD t 0 = j + 1 := by
              match p3, gl' with
              | 0, _ => exact ⟨Dr, _, rfl, ODr.symm, ZDr.symm, u2 _ _ (u1 _ _ hDr4), hne, rowOf_nd _ _ _, fun t ht => rowOf_mem ht⟩
              | 1, _ => exact ⟨pr, _, rfl, Opr.symm, Zpr.symm, u2 _ _ hpr, by simpa using hne, (List.reverse_perm _).nodup_iff.mpr (rowOf_nd _ _ _), fun t ht => rowOf_mem (List.mem_reverse.mp ht)⟩
            obtain ⟨A, x, kA, AO, AZ, hA, x1, x2, x3⟩ := key
            have hO6 := u2 _ _ (u1 _ _ hO4)
            have hp3 : atI (nV [p0, p1, p2, p3]) (-1) = some (.int (p3 : Nat)) := rfl
            refine ⟨_, rfl, _, rfl, zp, _, _, _, rfl, rfl, SqL.of (u2 _ _ (u1 _ _ (t7D _ _ hzp))), hp3, e1, _, _, _, rfl, rfl, SqL.of upd_same, kA, O, _, _, rfl, rfl, hO6, ?_, ?_⟩
            · have := hI.len
              rw [rV_len, hrws4.1]; exact small1000 (by have : j < 3 := hj; omega)
            have u12 := u1.trans u2
            generalize upd (upd HD pr (.lst (nV (rowOf [p0, p1, p2, p3] cp.length (j + 1))).reverse)) e1 (.lst [.ref Dr, .ref pr]) = HE at u2 hA hO6 u12
            have sb : SameBut [O, Z] HE (upd HE O (.lst (rV rws ++ [.ref A]))) := sameBut_upd (by simp)
            refine ⟨_, _, rws ++ [A], rs ++ [x], rfl, fun c u h => ?_, by rw [upd_same, rV_snoc], AllAt.snoc (hrws4.mono fun _ _ h => h.same ((hid_mono (.of u12 _)).trans (hid_mono sb))) (hid_some.mpr ⟨by simp [AO, AZ], ?_⟩), hI.snoc x1 x2 x3⟩
            · rw [upd_ne (ne_of_none h nO)]; exact u12 _ _ (t7D _ _ h)
            · rw [upd_ne AO]; exact hA
          · exact ⟨_, _, rws, rs, rfl, t7D, hO4, hrws4, hI.next⟩
      · rintro σ HB ⟨v14, v15, rws, rs, rfl, t7, hO, hrws, hI⟩
        have hZB := t7 _ _ hZ9
        refine ⟨_, rfl, .inl ⟨rfl, _, SqL.of hZB⟩, _, rfl, Z, _, _, rfl, rfl, hZB, ?_, ?_⟩
        · rw [rV_len, hos.1]; exact small1000 (by omega)
        have sb : SameBut [Z] HB (upd HB Z (.lst (rV os ++ [.ref O]))) := sameBut_upd (by simp)
        refine ⟨_, _, _, _, _, _, _, os ++ [O], ls ++ [rs], rfl, fun c u h => ?_, by rw [upd_same, rV_snoc], AllAt.snoc (hosA.mono fun _ _ h => h.same ((hid_mono (.of t7 _)).trans (hid_mono sb))) ⟨rws, hid_some.mpr ⟨by simpa using OZ, ?_⟩, hrws.mono fun c r h => ?_⟩, by rw [List.length_append, hll]; rfl, fun r hr => ?_⟩
        · rw [upd_ne (ne_of_none h nZ)]; exact t7 _ _ (t5 _ _ (s9 _ _ h))
        · rw [upd_ne OZ]; exact hO
        · obtain ⟨h1, h2⟩ := hid_some.mp h
          have cZ : c ≠ Z := fun z => h1 (by simp [z])
          exact hid_some.mpr ⟨by simpa using cZ, by rw [upd_ne cZ]; exact h2⟩
        · rcases List.mem_append.mp hr with hr | hr
          · exact hvr r hr
          · have : r = rs := by simpa using hr
            rw [this]; exact hI.vr (by decide)
    · rintro σ H9 ⟨v5, v10, v11, v12, v13, v14, v15, os, ls, rfl, s9, hZ, hos, hll, hvr⟩
      have hll' : ls.length = 1 + d1 := by omega
      refine ⟨_, rfl, _, rfl, (by show 2 ≤ sizeLine; decide), fun E nE => ?_⟩
      have sE := same_upd (o := .tup [.ref D, .ref Z]) nE
      exact q _ E (cp, ls) (s7.trans (s9.trans sE)) ⟨D, Z, upd_same, sE _ _ (s9 _ _ hD), os, sE _ _ hZ, hos.mono fun _ _ h => h.same (hid_same.trans sE)⟩ ⟨by show 1 ≤ cp.length; omega, by show cp.length ≤ 6; omega, hc7, by show 1 ≤ ls.length; omega, by show ls.length ≤ 7; omega, hvr⟩ (by show cp.length ≤ 3; omega) (by show ls.length ≤ 3; omega)
end
end WD

set_option Elab.async false
set_option linter.all false
set_option maxRecDepth 100000
set_option maxHeartbeats 4000000
namespace WD
open PySem PySem.Spec PyProof.Rows L2
/-- what a drawn change is, good or not -/
def Pre (W : Wish) : Chg → Prop
  | .list _ rs => VR (W.1.length + 1) rs
  | .come rs => VR (W.1.length + 1) rs
  | _ => True
theorem VR.rev {m : Nat} {rs : List (List Nat)} (h : VR m rs) : VR m (rs.map List.reverse) := by
  have hp : (rs.map List.reverse).flatten.Perm rs.flatten := by
    have : ∀ l : List (List Nat), (l.map List.reverse).flatten.Perm l.flatten := by
      intro l
      induction l with
      | nil => exact List.Perm.refl _
      | cons r l ih =>
        rw [List.map_cons, List.flatten_cons, List.flatten_cons]
        exact (List.reverse_perm r).append ih
    exact this rs
  refine ⟨by rw [List.length_map]; exact h.few, fun r hr => ?_, hp.nodup_iff.mpr h.nd, fun t ht => h.lt t (hp.mem_iff.mp ht)⟩
  obtain ⟨r', h1, rfl⟩ := List.mem_map.mp hr
  have := h.ne r' h1
  simpa using this
theorem n13 {ds : List Nat} (h : ds.length = 13) : ∃ a b c d e r, ds = a :: b :: c :: d :: e :: r ∧ r.length = 8 := by
  match ds, h with
  | a :: b :: c :: d :: e :: r, h => exact ⟨a, b, c, d, e, r, rfl, by simpa using h⟩
section
variable {P : Program} {w : World} {K : PySem.W.Frag} {mg : Str → Option Value} {base : Heap} {cS cR cP : Addr}
def sp_law_change : Sp := fun vs H Q _ => ∃ (p : Addr) (W : Wish) (i j : Int), vs = [.ref p, .int i, .int j] ∧ WAt H p W ∧ VW W ∧ ∀ H' z g, Same H H' → ChgAt H' z g → Pre W g → Q (.ref z) H'
abbrev nm_law_change : List Str := ["_law_wishes_here", "_law_cell", "_law_salt", "_law_copies", "_law_lists", "_law_digits", "_law_asker", "_law_ranks_here", "_law_rank_here"]
theorem sc_law_change : FnScope nm_law_change ["_law_wishes_here", "_law_cell", "_law_salt"] (defScope s_law_change) := ⟨rfl, rfl, rfl, by decide +kernel, rfl, by decide +kernel, by decide +kernel⟩
theorem c_law_change (T : Tx K mg cS cR cP) : C8.Cal P w K mg base 2 "_law_change" sp_law_change [] := by
  refine cal_of T.d_law_change sc_law_change (fun _ _ _ _ _ _ us hl => match us, hl with | [_, _, _], _ => rfl) (fun vs H Q E h => ?_) (fun f cdv A outer s H vs Q E hr h => ?_)
  · obtain ⟨p, W, i, j, rfl, hW, hV, q⟩ := h
    rfl
  · obtain ⟨p, W, i, j, rfl, hW, hV, q⟩ := h
    have hu := hu_of hr
    refine ⟨_, 
    (pss_cons (ps_asg (pv 0) (pg_tup rfl (pgs_cons (pg_name (i := 3) sc_law_change.nd rfl (by first | exact Or.inl rfl | exact Or.inr rfl)) (pgs_cons (pg_name (i := 4) sc_law_change.nd rfl (by first | exact Or.inl rfl | exact Or.inr rfl)) pgs_nil))))
    (pss_cons (ps_set (i := 5) sc_law_change.nd rfl (by first | exact Or.inl rfl | exact Or.inr rfl) (C8.pe_c (c_law_numbers T) hr (by decide) rfl (pa_cons (pv 1) (pa_cons (pv 2) (pa_cons (pe_op op_cat (pe_op op_cat (pe_lst (pa_cons pe_int (pa_cons pe_int (pa_cons pe_int (pa_cons pe_int (pa_cons pe_int pa_nil)))))) (pe_op op_rep (pe_lst (pa_cons pe_int pa_nil)) pe_int)) (pe_lst (pa_cons pe_int pa_nil))) pa_nil)))))
    (pss_cons (ps_set (i := 6) sc_law_change.nd rfl (by first | exact Or.inl rfl | exact Or.inr rfl) (pe_op op_mod (pe_ix ix_list (pv 5) pe_int (fun _ _ => rfl)) (pe_op op_add (pe_callB call_len_seq (by rfl) T.b_len bo_len (pa_cons (pv 4) pa_nil)) pe_int)))
    (pss_cons (ps_set (i := 7) sc_law_change.nd rfl (by first | exact Or.inl rfl | exact Or.inr rfl) (C8.pe_c (c_law_ranks T) hr (by decide) rfl (pa_cons (pe_slice sl_list (pv 5) (po_some pe_int) po_none) (pa_cons (pe_op op_add (pe_callB call_len_seq (by rfl) T.b_len bo_len (pa_cons (pv 3) pa_nil)) (pe_callTy call_int1 (by rfl) T.b_int bo_int (pa_cons (pe_cmpR op_eq (pe_ix ix_list (pv 5) pe_int (fun _ _ => rfl)) pe_int (nomark _)) pa_nil))) pa_nil))))
    (pss_cons (ps_if (pt_cmpR op_eq (pe_ix ix_list (pv 5) pe_int (fun _ _ => rfl)) pe_int (nomark _)) 
      (pss_one (ps_setLc (i := 7) (own := [("_law_rank_here", 8)]) (g := gName 8) (tt := tYes) rfl sc_law_change.nd rfl rfl (sw_true rfl rfl rfl (by decide +kernel)) (pi_list (pv 7)) (blkOk_by (own := [("_law_rank_here", 8)]) (N := nm_law_change) (sc := defScope s_law_change) (by decide +kernel)) (fun _ _ _ _ _ => (pg_name (i := 8) sc_law_change.nd rfl (by first | exact Or.inl rfl | exact Or.inr rfl))) (fun _ _ _ _ _ => pts_nil) (fun _ _ _ _ _ => (show PE _ _ (tRevL K (tVar 8)) from pe_revL (pv 8))))) pss_nil)
    (pss_cons (ps_if (pt_cmpR op_lt (pe_ix ix_list (pv 5) pe_int (fun _ _ => rfl)) pe_int (nomark _)) 
      (pss_one (ps_ret (pe_tup (pa_cons pe_str (pa_cons (pv 6) (pa_cons (pv 7) pa_nil)))))) pss_nil)
    (pss_cons (ps_if (pt_cmpR op_eq (pe_ix ix_list (pv 5) pe_int (fun _ _ => rfl)) pe_int (nomark _)) 
      (pss_one (ps_ret (pe_tup (pa_cons pe_str (pa_cons (pe_op op_mod (pe_ix ix_list (pv 5) pe_int (fun _ _ => rfl)) (pe_op op_add (pe_callB call_len_seq (by rfl) T.b_len bo_len (pa_cons (pv 3) pa_nil)) pe_int)) (pa_cons (pe_ix ix_list (pv 5) pe_int (fun _ _ => rfl)) pa_nil)))))) pss_nil)
    (pss_cons (ps_if (pt_cmpR op_eq (pe_ix ix_list (pv 5) pe_int (fun _ _ => rfl)) pe_int (nomark _)) 
      (pss_one (ps_ret (pe_tup (pa_cons pe_str (pa_cons (pv 7) pa_nil))))) pss_nil)
    (pss_cons (ps_if (pt_cmpR op_eq (pe_ix ix_list (pv 5) pe_int (fun _ _ => rfl)) pe_int (nomark _)) 
      (pss_one (ps_ret (pe_tup (pa_cons pe_str (pa_cons (pv 6) pa_nil))))) pss_nil)
    (pss_one (ps_ret (pe_tup (pa_cons pe_str (pa_cons (pe_ix ix_list (pv 5) pe_int (fun _ _ => rfl)) pa_nil)))))))))))))), ?_⟩
    obtain ⟨c, l, hp, hc, bs, hl, hbs⟩ := id hW
    have hl7 := hV.l7
    have hc6 := hV.c6
    refine ⟨_, rfl, p, _, rfl, SqT.of hp, rfl, _, _, rfl, _, _, rfl, rfl, ?_⟩
    -- digits
    refine ⟨_, rfl, _, rfl, (by show 5 ≤ sizeLine; decide), fun a1 na1 => ⟨(by show 1 ≤ sizeLine; decide), fun a2 na2 => ?_⟩⟩
    have t1 := same_upd (o := .lst [.int 6, .int 8, .int 7, .int 10, .int 9]) na1
    have t2 := same_upd (o := .lst [.int 6]) na2
    refine ⟨a2, 7, _, rfl, rfl, upd_same, by decide, by decide, (by show 1 * 7 ≤ sizeLine; decide), fun a3 na3 => ?_⟩
    have t3 := same_upd (o := .lst (List.replicate (7 : Int).toNat [V.int 6]).flatten) na3
    refine ⟨a1, a3, _, _, rfl, rfl, t3 _ _ (t2 _ _ upd_same), upd_same, (by show 12 ≤ sizeLine; decide), fun a4 na4 => ?_⟩
    have t4 := same_upd (o := .lst ([.int 6, .int 8, .int 7, .int 10, .int 9] ++ (List.replicate (7 : Int).toNat [V.int 6]).flatten)) na4
    refine ⟨(by show 1 ≤ sizeLine; decide), fun a5 na5 => ?_⟩
    have t5 := same_upd (o := .lst [.int 2]) na5
    refine ⟨a4, a5, _, _, rfl, rfl, t5 _ _ upd_same, upd_same, (by show 13 ≤ sizeLine; decide), fun a6 na6 => ?_⟩
    have t6 := (t1.trans (t2.trans (t3.trans (t4.trans t5)))).trans (same_upd (o := .lst (([.int 6, .int 8, .int 7, .int 10, .int 9] ++ (List.replicate (7 : Int).toNat [V.int 6]).flatten) ++ [.int 2])) na6)
    refine ⟨i, j, a6, [6, 8, 7, 10, 9, 6, 6, 6, 6, 6, 6, 6, 2], rfl, upd_same, by decide, by decide, fun H2 zd ds s2' _ hzd hdl hdo => ?_⟩
    have s2 := t6.trans s2'
    have hl2 := s2 _ _ hl
    have hc2 := s2 _ _ hc
    obtain ⟨d0, d1, d2, d3, d4, r, rfl, hr⟩ := n13 hdl
    have e0 : atI (nV (d0 :: d1 :: d2 :: d3 :: d4 :: r)) 0 = some (.int (d0 : Nat)) := atI_nat (j := 0) (nV_at rfl)
    have e1 : atI (nV (d0 :: d1 :: d2 :: d3 :: d4 :: r)) 1 = some (.int (d1 : Nat)) := atI_nat (j := 1) (nV_at rfl)
    have e2 : atI (nV (d0 :: d1 :: d2 :: d3 :: d4 :: r)) 2 = some (.int (d2 : Nat)) := atI_nat (j := 2) (nV_at rfl)
    have e3 : atI (nV (d0 :: d1 :: d2 :: d3 :: d4 :: r)) 3 = some (.int (d3 : Nat)) := atI_nat (j := 3) (nV_at rfl)
    have e4 : atI (nV (d0 :: d1 :: d2 :: d3 :: d4 :: r)) 4 = some (.int (d4 : Nat)) := atI_nat (j := 4) (nV_at rfl)
    have e12 : ∃ d12 : Nat, atI (nV (d0 :: d1 :: d2 :: d3 :: d4 :: r)) 12 = some (.int (d12 : Nat)) := by
      match r, hr with
      | [x0, x1, x2, x3, x4, x5, x6, x7], _ => exact ⟨x7, rfl⟩
    obtain ⟨d12, e12⟩ := e12
    have ecut : cutV (nV (d0 :: d1 :: d2 :: d3 :: d4 :: r)) (some 5) none = nV r := by
      match r, hr with
      | [x0, x1, x2, x3, x4, x5, x6, x7], _ => rfl
    generalize d0 :: d1 :: d2 :: d3 :: d4 :: r = dd at hzd e0 e1 e2 e3 e4 e12 ecut
    -- asker
    refine ⟨_, rfl, zd, _, _, _, rfl, rfl, SqL.of hzd, e1, _, rfl, l, _, rfl, .inl (SqL.of hl2), _, _, rfl, rfl, _, _, rfl, rfl, by rw [rV_len]; omega, ?_⟩
    have eA : ((d1 : Nat) : Int) % (((rV bs).length : Int) + 1) = (((d1 % (bs.length + 1)) : Nat) : Int) := by rw [rV_len]; push_cast; rfl
    show gName 6 (V.int _) _ _ _
    rw [eA]
    generalize d1 % (bs.length + 1) = ak
    -- ranks
    refine ⟨_, rfl, _, rfl, zd, _, rfl, SqL.of hzd, fun zr nzr => ?_⟩
    rw [ecut]
    have s3 := s2.trans (same_upd (o := .lst (nV r)) nzr)
    have hzr : (upd H2 zr (.lst (nV r))) zr = some (.lst (nV r)) := upd_same
    have hzd3 := same_upd (o := .lst (nV r)) nzr _ _ hzd
    generalize upd H2 zr (.lst (nV r)) = H3 at s3 hzr hzd3
    have hc3 := s3 _ _ hc
    have hk : ∃ kk : Nat, kk ≤ 1 ∧ (if decide (V.int (d4 : Nat) = V.int 0) = true then (1 : Int) else 0) = (kk : Int) := by
      split
      · exact ⟨1, Nat.le_refl _, rfl⟩
      · exact ⟨0, Nat.zero_le _, rfl⟩
    obtain ⟨kk, hk1, hke⟩ := hk
    refine ⟨_, rfl, c, _, rfl, .inl (SqL.of hc3), _, rfl, zd, _, _, _, rfl, rfl, SqL.of hzd3, e4, rfl, .inr ⟨_, rfl, _, _, rfl, rfl, zr, r, W.1.length + kk, by rw [hke, nV_len]; rfl, hzr, by omega, by omega, fun H4 zk rs s4' _ hzk hvr => ?_⟩⟩
    have s4 := s3.trans s4'
    have hvr' := hvr.more (show W.1.length + kk ≤ W.1.length + 1 by omega)
    have hzd4 := s4' _ _ hzd3
    refine ⟨_, rfl, zd, _, _, _, rfl, rfl, SqL.of hzd4, e12, rfl, _, rfl, ite2B (fun _ => ?_) (fun _ => ?_)⟩
    · obtain ⟨bs4, hk4, hbs4⟩ := hzk
      have hf := hvr.few
      refine ⟨_, rfl, zk, rfl, ⟨_, SqL.of hk4⟩, fun D nD => ?_⟩
      refine lc_list (K := K) (a := zk) (xs := rV bs4) (fun i H5 => ∃ as, Same H4 H5 ∧ H5 D = some (.lst (rV as)) ∧ AllAt (RowAt (hid [D] H5)) as ((rs.take i).map List.reverse)) ⟨[], same_upd nD, upd_same, by rw [List.take_zero]; exact AllAt.nil⟩ (fun i H5 _ ⟨_, s5, _⟩ => SqL.of (s5 _ _ hk4)) ?_ ?_
      · rintro i y H5 hy ⟨as, s5, hD, has⟩
        obtain ⟨b, hb, rfl⟩ := rV_get hy
        obtain ⟨r0, hr0, hrow⟩ := hbs4.at hb
        have hil := (List.getElem?_eq_some_iff.mp hr0).1
        refine ⟨rfl, _, rfl, b, _, rfl, SqL.of (s5 _ _ hrow), fun e ne => ?_⟩
        have eD : e ≠ D := (ne_of_none hD ne).symm
        have u1 := same_upd (o := .lst (nV r0).reverse) ne
        have sb : SameBut [D] H5 (upd (upd H5 e (.lst (nV r0).reverse)) D (.lst (rV as ++ [.ref e]))) := (SameBut.of u1 _).trans (sameBut_upd (by simp))
        refine ⟨_, u1 _ _ hD, ?_, as ++ [e], fun c u h => ?_, ?_, ?_⟩
        · rw [rV_len, has.1, List.length_map, List.length_take]; exact small1000 (by omega)
        · rw [upd_ne (ne_of_none h nD)]; exact u1 _ _ (s5 _ _ h)
        · rw [upd_same, rV_snoc]
        · rw [take_one hr0, List.map_append]
          refine AllAt.snoc (has.mono fun _ _ h => h.same (hid_mono sb)) (hid_some.mpr ⟨by simpa using eD, ?_⟩)
          rw [upd_ne eD, upd_same]; unfold nV; rw [List.map_reverse]
      · rintro H5 ⟨as, s5', hD, has⟩
        rw [rV_len, hbs4.1, List.take_length] at has
        have hzk5 : RksAt H5 D (rs.map List.reverse) := ⟨as, hD, has.mono fun _ _ h => h.same hid_same⟩
        have hv5 := hvr'.rev
        have s5 := s4.trans s5'
        have hzd5 := s5' _ _ hzd4
        refine ⟨_, rfl, zd, _, _, _, rfl, rfl, SqL.of hzd5, e0, _, _, rfl, rfl, _, rfl, ite2B (fun _ => ⟨_, rfl, _, rfl, (by show 3 ≤ sizeLine; decide), fun E nE => q _ E (.list ak _) (s5.trans (same_upd nE)) ⟨_, upd_same, hzk5.same (same_upd nE)⟩ hv5⟩) (fun _ => ?_)⟩
        refine ⟨_, rfl, zd, _, _, _, rfl, rfl, SqL.of hzd5, e0, rfl, _, rfl, ite2B (fun _ => ?_) (fun _ => ?_)⟩
        · have eT : ((d2 : Nat) : Int) % (((nV W.1).length : Int) + 1) = (((d2 % (W.1.length + 1)) : Nat) : Int) := by rw [nV_len]; push_cast; rfl
          refine ⟨_, rfl, zd, _, _, _, rfl, rfl, SqL.of hzd5, e2, _, rfl, c, _, rfl, .inl (SqL.of (s5 _ _ hc)), _, _, rfl, rfl, _, _, rfl, rfl, by rw [nV_len]; omega, ?_⟩
          refine ⟨_, rfl, zd, _, _, _, rfl, rfl, SqL.of hzd5, e3, (by show 3 ≤ sizeLine; decide), fun E nE => ?_⟩
          exact q _ E (.copies (d2 % (W.1.length + 1)) d3) (s5.trans (same_upd nE)) (by show upd _ E _ E = _; rw [upd_same]; show some (HO.tup [_, V.int (((d2 : Nat) : Int) % (((nV W.1).length : Int) + 1)), _]) = _; rw [eT]) True.intro
        refine ⟨_, rfl, zd, _, _, _, rfl, rfl, SqL.of hzd5, e0, rfl, _, rfl, ite2B (fun _ => ⟨_, rfl, (by show 2 ≤ sizeLine; decide), fun E nE => q _ E (.come _) (s5.trans (same_upd nE)) ⟨_, upd_same, hzk5.same (same_upd nE)⟩ hv5⟩) (fun _ => ?_)⟩
        refine ⟨_, rfl, zd, _, _, _, rfl, rfl, SqL.of hzd5, e0, rfl, _, rfl, ite2B (fun _ => ⟨_, rfl, (by show 2 ≤ sizeLine; decide), fun E nE => q _ E (.go ak) (s5.trans (same_upd nE)) upd_same True.intro⟩) (fun _ => ?_)⟩
        refine ⟨_, rfl, zd, _, _, _, rfl, rfl, SqL.of hzd5, e3, (by show 2 ≤ sizeLine; decide), fun E nE => ?_⟩
        exact q _ E (.thing d3) (s5.trans (same_upd nE)) upd_same True.intro
    · have hzk5 := hzk
      have hv5 := hvr'
      have s5 := s4
      have hzd5 := hzd4
      refine ⟨_, rfl, zd, _, _, _, rfl, rfl, SqL.of hzd5, e0, _, _, rfl, rfl, _, rfl, ite2B (fun _ => ⟨_, rfl, _, rfl, (by show 3 ≤ sizeLine; decide), fun E nE => q _ E (.list ak _) (s5.trans (same_upd nE)) ⟨_, upd_same, hzk5.same (same_upd nE)⟩ hv5⟩) (fun _ => ?_)⟩
      refine ⟨_, rfl, zd, _, _, _, rfl, rfl, SqL.of hzd5, e0, rfl, _, rfl, ite2B (fun _ => ?_) (fun _ => ?_)⟩
      · have eT : ((d2 : Nat) : Int) % (((nV W.1).length : Int) + 1) = (((d2 % (W.1.length + 1)) : Nat) : Int) := by rw [nV_len]; push_cast; rfl
        refine ⟨_, rfl, zd, _, _, _, rfl, rfl, SqL.of hzd5, e2, _, rfl, c, _, rfl, .inl (SqL.of (s5 _ _ hc)), _, _, rfl, rfl, _, _, rfl, rfl, by rw [nV_len]; omega, ?_⟩
        refine ⟨_, rfl, zd, _, _, _, rfl, rfl, SqL.of hzd5, e3, (by show 3 ≤ sizeLine; decide), fun E nE => ?_⟩
        exact q _ E (.copies (d2 % (W.1.length + 1)) d3) (s5.trans (same_upd nE)) (by show upd _ E _ E = _; rw [upd_same]; show some (HO.tup [_, V.int (((d2 : Nat) : Int) % (((nV W.1).length : Int) + 1)), _]) = _; rw [eT]) True.intro
      refine ⟨_, rfl, zd, _, _, _, rfl, rfl, SqL.of hzd5, e0, rfl, _, rfl, ite2B (fun _ => ⟨_, rfl, (by show 2 ≤ sizeLine; decide), fun E nE => q _ E (.come _) (s5.trans (same_upd nE)) ⟨_, upd_same, hzk5.same (same_upd nE)⟩ hv5⟩) (fun _ => ?_)⟩
      refine ⟨_, rfl, zd, _, _, _, rfl, rfl, SqL.of hzd5, e0, rfl, _, rfl, ite2B (fun _ => ⟨_, rfl, (by show 2 ≤ sizeLine; decide), fun E nE => q _ E (.go ak) (s5.trans (same_upd nE)) upd_same True.intro⟩) (fun _ => ?_)⟩
      refine ⟨_, rfl, zd, _, _, _, rfl, rfl, SqL.of hzd5, e3, (by show 2 ≤ sizeLine; decide), fun E nE => ?_⟩
      exact q _ E (.thing d3) (s5.trans (same_upd nE)) upd_same True.intro
end
end WD

set_option Elab.async false
set_option linter.all false
set_option maxRecDepth 100000
set_option maxHeartbeats 4000000
namespace WD
open PySem PySem.Spec PyProof.Rows L2
theorem VR.less {m m' : Nat} {rs : List (List Nat)} (h : VR m rs) (e : ∀ t ∈ rs.flatten, t < m') : VR m' rs := ⟨h.few, h.ne, h.nd, e⟩
section
variable {P : Program} {w : World} {K : PySem.W.Frag} {mg : Str → Option Value} {base : Heap} {cS cR cP : Addr}
def sp_law_good : Sp := fun vs H Q _ => ∃ (p ch : Addr) (W : Wish) (g : Chg), vs = [.ref p, .ref ch] ∧ WAt H p W ∧ VW W ∧ ChgAt H ch g ∧ Pre W g ∧ ∀ H' b, Same H H' → (b = true → Good W g) → Q (.bl b) H'
abbrev nm_law_good : List Str := ["_law_wishes_here", "_law_change_here", "_law_copies", "_law_lists", "_law_word", "_law_thing"]
theorem sc_law_good : FnScope nm_law_good ["_law_wishes_here", "_law_change_here"] (defScope s_law_good) := ⟨rfl, rfl, rfl, by decide +kernel, rfl, by decide +kernel, by decide +kernel⟩
theorem c_law_good (T : Tx K mg cS cR cP) : C8.Cal P w K mg base 1 "_law_good" sp_law_good [] := by
  refine cal_of T.d_law_good sc_law_good (fun _ _ _ _ _ _ us hl => match us, hl with | [_, _], _ => rfl) (fun vs H Q E h => ?_) (fun f cdv A outer s H vs Q E hr h => ?_)
  · obtain ⟨p, ch, W, g, rfl, hW, hV, hC, hP, q⟩ := h
    rfl
  · obtain ⟨p, ch, W, g, rfl, hW, hV, hC, hP, q⟩ := h
    have hu := hu_of hr
    refine ⟨_, 
    (pss_cons (ps_asg (pv 0) (pg_tup rfl (pgs_cons (pg_name (i := 2) sc_law_good.nd rfl (by first | exact Or.inl rfl | exact Or.inr rfl)) (pgs_cons (pg_name (i := 3) sc_law_good.nd rfl (by first | exact Or.inl rfl | exact Or.inr rfl)) pgs_nil))))
    (pss_cons (ps_set (i := 4) sc_law_good.nd rfl (by first | exact Or.inl rfl | exact Or.inr rfl) (pe_ix ix_tup (pv 1) pe_int (fun _ _ => rfl)))
    (pss_cons (ps_if (pt_cmpR op_eq (pv 4) pe_str (nomark _)) 
      (pss_one (ps_ret (pe_and (pe_cmpR op_lt (pe_ix ix_tup (pv 1) pe_int (fun _ _ => rfl)) (pe_callB call_len_seq (by rfl) T.b_len bo_len (pa_cons (pv 2) pa_nil)) (nomark _)) (pe_one (pe_cmpR op_lt (pe_ix ix_tup (pv 1) pe_int (fun _ _ => rfl)) pe_int (nomark _)))))) pss_nil)
    (pss_cons (ps_if (pt_cmpR op_eq (pv 4) pe_str (nomark _)) 
      (pss_one (ps_ret (pe_and (pe_cmpR op_lt (pe_ix ix_tup (pv 1) pe_int (fun _ _ => rfl)) (pe_callB call_len_seq (by rfl) T.b_len bo_len (pa_cons (pv 3) pa_nil)) (nomark _)) (pe_one (pe_cmpR op_gt (pe_callB call_len_seq (by rfl) T.b_len bo_len (pa_cons (pv 3) pa_nil)) pe_int (nomark _)))))) pss_nil)
    (pss_cons (ps_if (pt_cmpR op_eq (pv 4) pe_str (nomark _)) 
      (pss_one (ps_ret (pe_and (pe_cmpR op_lt (pe_callB call_len_seq (by rfl) T.b_len bo_len (pa_cons (pv 2) pa_nil)) pe_int (nomark _)) (pe_one (pe_cmpR op_lt (pe_ix ix_tup (pv 1) pe_int (fun _ _ => rfl)) pe_int (nomark _)))))) pss_nil)
    (pss_cons (ps_if (PW.pt (pw_or (PW.pt (pw_and (pt_cmpR op_eq (pv 4) pe_str (nomark _)) (pw_and1 (pt_cmpR op_ge (pe_ix ix_tup (pv 1) pe_int (fun _ _ => rfl)) (pe_callB call_len_seq (by rfl) T.b_len bo_len (pa_cons (pv 3) pa_nil)) (nomark _))))) (pw_or1 (PW.pt (pw_and (pt_cmpR op_eq (pv 4) pe_str (nomark _)) (pw_and1 (pt_cmpR op_gt (pe_callB call_len_seq (by rfl) T.b_len bo_len (pa_cons (pv 3) pa_nil)) pe_int (nomark _)))))))) 
      (pss_one (ps_ret pe_bl)) pss_nil)
    (pss_one (ps_ret (pe_callB (cr_all rfl) (by rfl) T.b_all bo_all (pa_cons (pe_lc (own := [("_law_thing", 5)]) (g := gName 5) (tt := tYes) rfl sc_law_good.nd (pi_list (pe_callB (cr_sumL rfl) (by rfl) T.b_sum bo_sum (pa_cons (pe_ix ix_tup (pv 1) (pe_un un_neg pe_int) (fun _ _ => rfl)) (pa_cons (pe_lst pa_nil) pa_nil)))) (blkOk_by (own := [("_law_thing", 5)]) (N := nm_law_good) (sc := defScope s_law_good) (by decide +kernel)) (fun _ _ _ _ _ => (pg_name (i := 5) sc_law_good.nd rfl (by first | exact Or.inl rfl | exact Or.inr rfl))) (fun _ _ _ _ _ => pts_nil) (fun _ _ _ _ _ => (pe_cmpR op_lt (pv 5) (pe_callB (r := rLenS K) call_len_seq (by rfl) T.b_len bo_len (pa_cons (pv 2) pa_nil)) (nomark _)))) pa_nil)))))))))), ?_⟩
    obtain ⟨c, l, hp, hc, bs, hl, hbs⟩ := id hW
    have hl7 := hV.l7
    have hc6 := hV.c6
    have hbl := hbs.1
    refine ⟨_, rfl, p, _, rfl, SqT.of hp, rfl, _, _, rfl, _, _, rfl, rfl, ?_⟩
    cases g with
    | copies t k =>
      have hch : H ch = some (.tup [.str ("copies" : Str), .int t, .int k]) := hC
      refine ⟨_, rfl, ch, _, _, _, rfl, rfl, SqT.of hch, rfl, ?_⟩
      refine ⟨_, rfl, rfl, _, rfl, iteB (str_t _) ?_⟩
      refine ⟨_, rfl, ch, _, _, _, rfl, rfl, SqT.of hch, rfl, _, rfl, c, _, rfl, .inl (SqL.of hc), _, _, rfl, rfl, _, rfl, ite2B (fun e => ?_) (fun e => q H false (fun _ _ h => h) (fun h => by cases h))⟩
      refine ⟨_, rfl, ch, _, _, _, rfl, rfl, SqT.of hch, rfl, _, _, rfl, rfl, q H _ (fun _ _ h => h) fun e2 => ?_⟩
      have h1 : (t : Int) < ((nV W.1).length : Int) := of_decide_eq_true e
      have h2 : (k : Int) < 8 := of_decide_eq_true e2
      rw [nV_len] at h1
      exact ⟨by omega, by omega⟩
    | go a =>
      have hch : H ch = some (.tup [.str ("go" : Str), .int a]) := hC
      refine ⟨_, rfl, ch, _, _, _, rfl, rfl, SqT.of hch, rfl, ?_⟩
      refine ⟨_, rfl, rfl, _, rfl, iteBF (str_f (by decide +kernel)) ?_⟩
      refine ⟨_, rfl, rfl, _, rfl, iteB (str_t _) ?_⟩
      refine ⟨_, rfl, ch, _, _, _, rfl, rfl, SqT.of hch, rfl, _, rfl, l, _, rfl, .inl (SqL.of hl), _, _, rfl, rfl, _, rfl, ite2B (fun e => ?_) (fun e => q H false (fun _ _ h => h) (fun h => by cases h))⟩
      refine ⟨_, rfl, l, _, rfl, .inl (SqL.of hl), _, _, rfl, rfl, q H _ (fun _ _ h => h) fun e2 => ?_⟩
      have h1 : (a : Int) < ((rV bs).length : Int) := of_decide_eq_true e
      have h2 : (1 : Int) < ((rV bs).length : Int) := of_decide_eq_true e2
      rw [rV_len] at h1 h2
      exact ⟨by omega, by omega⟩
    | thing k =>
      have hch : H ch = some (.tup [.str ("thing" : Str), .int k]) := hC
      refine ⟨_, rfl, ch, _, _, _, rfl, rfl, SqT.of hch, rfl, ?_⟩
      refine ⟨_, rfl, rfl, _, rfl, iteBF (str_f (by decide +kernel)) ?_⟩
      refine ⟨_, rfl, rfl, _, rfl, iteBF (str_f (by decide +kernel)) ?_⟩
      refine ⟨_, rfl, rfl, _, rfl, iteB (str_t _) ?_⟩
      refine ⟨_, rfl, c, _, rfl, .inl (SqL.of hc), _, _, rfl, rfl, _, rfl, ite2B (fun e => ?_) (fun e => q H false (fun _ _ h => h) (fun h => by cases h))⟩
      refine ⟨_, rfl, ch, _, _, _, rfl, rfl, SqT.of hch, rfl, _, _, rfl, rfl, q H _ (fun _ _ h => h) fun e2 => ?_⟩
      have h1 : ((nV W.1).length : Int) < 6 := of_decide_eq_true e
      have h2 : (k : Int) < 8 := of_decide_eq_true e2
      rw [nV_len] at h1
      exact ⟨by omega, by omega⟩
    | list a rs =>
      obtain ⟨z, hch, hz⟩ := hC
      refine ⟨_, rfl, ch, _, _, _, rfl, rfl, SqT.of hch, rfl, ?_⟩
      refine ⟨_, rfl, rfl, _, rfl, iteBF (str_f (by decide +kernel)) ?_⟩
      refine ⟨_, rfl, rfl, _, rfl, iteBF (str_f (by decide +kernel)) ?_⟩
      refine ⟨_, rfl, rfl, _, rfl, iteBF (str_f (by decide +kernel)) ?_⟩
      refine ⟨_, rfl, rfl, _, rfl, iteB (str_t _) ?_⟩
      refine ⟨_, rfl, ch, _, _, _, rfl, rfl, SqT.of hch, rfl, _, rfl, l, _, rfl, .inl (SqL.of hl), _, _, rfl, rfl, _, rfl, ite2B (fun e => iteT (q H false (fun _ _ h => h) (fun h => by cases h))) (fun e => ?_)⟩
      have h1 : ¬ ((rV bs).length : Int) ≤ (a : Int) := of_decide_eq_false e
      rw [rV_len] at h1
      have fin : VR W.1.length rs → Good W (.list a rs) := fun h => ⟨by omega, h⟩
      refine ⟨_, rfl, rfl, _, rfl, iteBF (str_f (by decide +kernel)) (iteF ?_)⟩
      obtain ⟨bs4, hk4, hbs4⟩ := id hz
      have hfl := flat_len hP
      refine ⟨_, rfl, _, rfl, ch, _, _, _, rfl, rfl, SqT.of hch, rfl, Nat.zero_le _, fun b nb => ?_⟩
      have s1 : Same H (upd H b (.lst [])) := same_upd nb
      refine ⟨_, b, bs4, rs.map nV, rfl, SqL.of (s1 _ _ hk4), upd_same, by rw [List.length_map]; exact hbs4.1, fun i x xs h1 h2 => ?_, ?_, fun H2 q2 s2 hq2 => ?_⟩
      · rw [List.getElem?_map] at h2
        obtain ⟨r, hr, rfl⟩ := Option.map_eq_some_iff.mp h2
        exact s1 _ _ (hbs4.2 i x r h1 hr)
      · rw [nV_flatten, nV_len]; exact Nat.le_of_lt (small1000 (by omega))
      rw [nV_flatten] at hq2
      have s12 := s1.trans s2
      refine ⟨q2, rfl, ⟨_, SqL.of hq2⟩, fun D nD => ?_⟩
      refine lc_list (K := K) (a := q2) (xs := nV rs.flatten) (fun i H5 => Same H2 H5 ∧ H5 D = some (.lst (((rs.flatten.take i).map fun t => decide (t < W.1.length)).map V.bl))) ⟨same_upd nD, upd_same⟩ (fun i H5 _ ⟨s5, _⟩ => SqL.of (s5 _ _ hq2)) ?_ ?_
      · rintro i y H5 hy ⟨s5, hD⟩
        obtain ⟨t, ht, rfl⟩ := nV_get hy
        have hil := (List.getElem?_eq_some_iff.mp ht).1
        have eD : decide ((t : Int) < ((nV W.1).length : Int)) = decide (t < W.1.length) := by
          rw [nV_len, Bool.eq_iff_iff, decide_eq_true_eq, decide_eq_true_eq]; omega
        refine ⟨rfl, _, rfl, _, rfl, c, _, rfl, .inl (SqL.of (s5 _ _ (s12 _ _ hc))), _, _, rfl, rfl, _, hD, ?_, fun c' u h => ?_, ?_⟩
        · rw [List.length_map, List.length_map, List.length_take]; exact small1000 (by omega)
        · rw [upd_ne (ne_of_none h nD)]; exact s5 _ _ h
        · rw [upd_same, take_one ht, List.map_append, List.map_append]
          show some (HO.lst (_ ++ [V.bl (decide ((t : Int) < ((nV W.1).length : Int)))])) = _
          rw [eD]; rfl
      · rintro H5 ⟨s5, hD⟩
        rw [nV_len, List.take_length] at hD
        refine ⟨D, _, rfl, SqL.of hD, q _ _ (s12.trans s5) fun hb => ?_⟩
        have hall : ∀ t ∈ rs.flatten, t < W.1.length := fun t ht => by
          have h1 := List.all_eq_true.mp hb (decide (t < W.1.length)) (List.mem_map.mpr ⟨t, ht, rfl⟩)
          exact of_decide_eq_true h1
        exact fin (hP.less hall)
    | come rs =>
      obtain ⟨z, hch, hz⟩ := hC
      refine ⟨_, rfl, ch, _, _, _, rfl, rfl, SqT.of hch, rfl, ?_⟩
      refine ⟨_, rfl, rfl, _, rfl, iteBF (str_f (by decide +kernel)) ?_⟩
      refine ⟨_, rfl, rfl, _, rfl, iteBF (str_f (by decide +kernel)) ?_⟩
      refine ⟨_, rfl, rfl, _, rfl, iteBF (str_f (by decide +kernel)) ?_⟩
      refine ⟨_, rfl, rfl, _, rfl, iteBF (str_f (by decide +kernel)) (iteF ?_)⟩
      refine ⟨_, rfl, rfl, _, rfl, iteB (str_t _) ?_⟩
      refine ⟨_, rfl, l, _, rfl, .inl (SqL.of hl), _, _, rfl, rfl, _, rfl, ite2B (fun e => (q H false (fun _ _ h => h) (fun h => by cases h))) (fun e => ?_)⟩
      have h1 : ¬ (6 : Int) < ((rV bs).length : Int) := of_decide_eq_false e
      rw [rV_len] at h1
      have fin : VR W.1.length rs → Good W (.come rs) := fun h => ⟨by omega, h⟩
      obtain ⟨bs4, hk4, hbs4⟩ := id hz
      have hfl := flat_len hP
      refine ⟨_, rfl, _, rfl, ch, _, _, _, rfl, rfl, SqT.of hch, rfl, Nat.zero_le _, fun b nb => ?_⟩
      have s1 : Same H (upd H b (.lst [])) := same_upd nb
      refine ⟨_, b, bs4, rs.map nV, rfl, SqL.of (s1 _ _ hk4), upd_same, by rw [List.length_map]; exact hbs4.1, fun i x xs h1 h2 => ?_, ?_, fun H2 q2 s2 hq2 => ?_⟩
      · rw [List.getElem?_map] at h2
        obtain ⟨r, hr, rfl⟩ := Option.map_eq_some_iff.mp h2
        exact s1 _ _ (hbs4.2 i x r h1 hr)
      · rw [nV_flatten, nV_len]; exact Nat.le_of_lt (small1000 (by omega))
      rw [nV_flatten] at hq2
      have s12 := s1.trans s2
      refine ⟨q2, rfl, ⟨_, SqL.of hq2⟩, fun D nD => ?_⟩
      refine lc_list (K := K) (a := q2) (xs := nV rs.flatten) (fun i H5 => Same H2 H5 ∧ H5 D = some (.lst (((rs.flatten.take i).map fun t => decide (t < W.1.length)).map V.bl))) ⟨same_upd nD, upd_same⟩ (fun i H5 _ ⟨s5, _⟩ => SqL.of (s5 _ _ hq2)) ?_ ?_
      · rintro i y H5 hy ⟨s5, hD⟩
        obtain ⟨t, ht, rfl⟩ := nV_get hy
        have hil := (List.getElem?_eq_some_iff.mp ht).1
        have eD : decide ((t : Int) < ((nV W.1).length : Int)) = decide (t < W.1.length) := by
          rw [nV_len, Bool.eq_iff_iff, decide_eq_true_eq, decide_eq_true_eq]; omega
        refine ⟨rfl, _, rfl, _, rfl, c, _, rfl, .inl (SqL.of (s5 _ _ (s12 _ _ hc))), _, _, rfl, rfl, _, hD, ?_, fun c' u h => ?_, ?_⟩
        · rw [List.length_map, List.length_map, List.length_take]; exact small1000 (by omega)
        · rw [upd_ne (ne_of_none h nD)]; exact s5 _ _ h
        · rw [upd_same, take_one ht, List.map_append, List.map_append]
          show some (HO.lst (_ ++ [V.bl (decide ((t : Int) < ((nV W.1).length : Int)))])) = _
          rw [eD]; rfl
      · rintro H5 ⟨s5, hD⟩
        rw [nV_len, List.take_length] at hD
        refine ⟨D, _, rfl, SqL.of hD, q _ _ (s12.trans s5) fun hb => ?_⟩
        have hall : ∀ t ∈ rs.flatten, t < W.1.length := fun t ht => by
          have h1 := List.all_eq_true.mp hb (decide (t < W.1.length)) (List.mem_map.mpr ⟨t, ht, rfl⟩)
          exact of_decide_eq_true h1
        exact fin (hP.less hall)
/-! ### dealt -/
theorem iV_set (ls : List Int) (t : Nat) (v : Int) : (iV ls).set t (.int v) = iV (ls.set t v) := by unfold iV; rw [List.map_set]
theorem flat_rep (v n : Nat) : (List.replicate n [V.int (v : Int)]).flatten = nV (List.replicate n v) := by
  induction n with
  | zero => rfl
  | succ n ih => rw [List.replicate_succ, List.flatten_cons, ih, List.replicate_succ]; rfl
def sp_law_dealt : Sp := fun vs H Q _ => ∃ (p : Addr) (W : Wish) (i j : Int), vs = [.ref p, .int i, .int j] ∧ WAt H p W ∧ VW W ∧ ∀ H' z d, Same H H' → H z = none → H' z = some (.lst (dV d)) → d.length = W.2.length → (∀ t, some t ∈ d → t < W.1.length) → Q (.ref z) H'
abbrev nm_law_dealt : List Str := ["_law_wishes_here", "_law_cell", "_law_salt", "_law_left", "_law_digits", "_law_found", "_law_asker", "_law_some", "_law_thing"]
theorem sc_law_dealt : FnScope nm_law_dealt ["_law_wishes_here", "_law_cell", "_law_salt"] (defScope s_law_dealt) := ⟨rfl, rfl, rfl, by decide +kernel, rfl, by decide +kernel, by decide +kernel⟩
theorem c_law_dealt (T : Tx K mg cS cR cP) : C8.Cal P w K mg base 2 "_law_dealt" sp_law_dealt [] := by
  refine cal_of T.d_law_dealt sc_law_dealt (fun _ _ _ _ _ _ us hl => match us, hl with | [_, _, _], _ => rfl) (fun vs H Q E h => ?_) (fun f cdv A outer s H vs Q E hr h => ?_)
  · obtain ⟨p, W, i, j, rfl, hW, hV, q⟩ := h
    rfl
  · obtain ⟨p, W, i, j, rfl, hW, hV, q⟩ := h
    have hu := hu_of hr
    refine ⟨_, 
    (pss_cons (ps_set (i := 3) sc_law_dealt.nd rfl (by first | exact Or.inl rfl | exact Or.inr rfl) (pe_callTy call_list_of (by rfl) T.b_list bo_list (pa_cons (pe_ix ix_tup (pv 0) pe_int (fun _ _ => rfl)) pa_nil)))
    (pss_cons (ps_set (i := 4) sc_law_dealt.nd rfl (by first | exact Or.inl rfl | exact Or.inr rfl) (C8.pe_c (c_law_numbers T) hr (by decide) rfl (pa_cons (pv 1) (pa_cons (pv 2) (pa_cons (pe_op op_rep (pe_lst (pa_cons pe_int pa_nil)) (pe_callB call_len_seq (by rfl) T.b_len bo_len (pa_cons (pe_ix ix_tup (pv 0) pe_int (fun _ _ => rfl)) pa_nil))) pa_nil)))))
    (pss_cons (ps_set (i := 5) sc_law_dealt.nd rfl (by first | exact Or.inl rfl | exact Or.inr rfl) (pe_lst pa_nil))
    (pss_cons (ps_for PassesOwn.never rfl (pi_range1 rfl T.b_range (pa_cons (pe_callB call_len_seq (by rfl) T.b_len bo_len (pa_cons (pe_ix ix_tup (pv 0) pe_int (fun _ _ => rfl)) pa_nil)) pa_nil)) (pg_name (i := 6) sc_law_dealt.nd rfl (by first | exact Or.inl rfl | exact Or.inr rfl)) 
      (pss_cons (ps_set (i := 7) sc_law_dealt.nd rfl (by first | exact Or.inl rfl | exact Or.inr rfl) (pe_op op_cat (pe_lc (own := [("_law_thing", 8)]) (g := gName 8) rfl sc_law_dealt.nd (pi_list (C8.pe_c (c_law_wished T) hr (by decide) rfl (pa_cons (pv 0) (pa_cons (pv 6) pa_nil)))) (blkOk_by (own := [("_law_thing", 8)]) (N := nm_law_dealt) (sc := defScope s_law_dealt) (by decide +kernel)) (fun _ _ _ _ _ => (pg_name (i := 8) sc_law_dealt.nd rfl (by first | exact Or.inl rfl | exact Or.inr rfl))) (fun _ _ _ _ _ => pts_one (pt_cmpR op_gt (pe_ix (r := rIxL K) ix_list (pv 3) (pv 8) (fun _ _ => rfl)) pe_int (nomark _))) (fun _ _ _ _ _ => (pv 8))) (pe_lst (pa_cons pe_non pa_nil))))
      (pss_cons (ps_set (i := 8) sc_law_dealt.nd rfl (by first | exact Or.inl rfl | exact Or.inr rfl) (pe_ix ix_list (pv 7) (pe_op op_mod (pe_ix ix_list (pv 4) (pv 6) (fun _ _ => rfl)) (pe_callB call_len_seq (by rfl) T.b_len bo_len (pa_cons (pv 7) pa_nil))) (fun _ _ => rfl)))
      (pss_cons (ps_if (pt_cmpR op_notN (pv 8) pe_non (nomark _)) 
        (pss_one (ps_asg (pe_op op_sub (pe_ix ix_list (pv 3) (pv 8) (fun _ _ => rfl)) pe_int) (pg_sub (pv 3) (pv 8) set_list))) pss_nil)
      (pss_one (ps_expr (pe_bm PySem.F.plainAttrs_list PySem.F.slot_list_append PySem.F.type_list_append mt_append (pv 5) (pa_cons (pv 8) pa_nil))))))))
    (pss_one (ps_ret (pv 5))))))), ?_⟩
    obtain ⟨c, l, hp, hc, bs, hl, hbs⟩ := id hW
    have hl7 := hV.l7
    have hc6 := hV.c6
    have hbl := hbs.1
    refine ⟨_, rfl, p, _, _, _, rfl, rfl, SqT.of hp, rfl, c, _, rfl, .inl (SqL.of hc), fun L nL => ?_⟩
    have s1 := same_upd (o := .lst (nV W.1)) nL
    have hL1 : (upd H L (.lst (nV W.1))) L = some (.lst (iV (W.1.map fun (n : Nat) => (n : Int)))) := by rw [upd_same]; unfold iV nV; rw [List.map_map]; rfl
    generalize upd H L (.lst (nV W.1)) = H1 at s1 hL1
    -- digits
    refine ⟨_, rfl, _, rfl, (by show 1 ≤ sizeLine; decide), fun a1 na1 => ?_⟩
    have t1 := same_upd (o := .lst [.int 61]) na1
    refine ⟨_, rfl, p, _, _, _, rfl, rfl, SqT.of (t1 _ _ (s1 _ _ hp)), rfl, l, _, rfl, .inl (SqL.of (t1 _ _ (s1 _ _ hl))), a1, _, _, rfl, rfl, upd_same, by omega, by rw [rV_len]; omega, ?_, fun a2 na2 => ?_⟩
    · rw [rV_len]; exact Nat.le_of_lt (small1000 (by show 1 * _ ≤ 1000; omega))
    have eR : (List.replicate ((rV bs).length : Int).toNat [V.int 61]).flatten = nV (List.replicate bs.length 61) := by
      rw [rV_len]
      show (List.replicate ((bs.length : Nat) : Int).toNat [V.int 61]).flatten = _
      rw [show ((bs.length : Nat) : Int).toNat = bs.length by omega]
      exact flat_rep 61 bs.length
    have t2 := t1.trans (same_upd (o := .lst (List.replicate ((rV bs).length : Int).toNat [V.int 61]).flatten) na2)
    refine ⟨i, j, a2, List.replicate bs.length 61, rfl, by rw [upd_same, eR], fun s hs => ?_, by rw [List.length_replicate]; omega, fun H2 zd ds s2' nzd hzd hdl hdo => ?_⟩
    · rw [(List.mem_replicate.mp hs).2]; decide
    rw [List.length_replicate] at hdl
    have t3 := t2.trans s2'
    have s3 := s1.trans t3
    have hL2 := t3 _ _ hL1
    have hLH : H L = none := nL
    have Lz : L ≠ zd := ne_of_none (t2 _ _ hL1) nzd
    refine ⟨Nat.zero_le _, fun Z nZ => ?_⟩
    have LZ : L ≠ Z := ne_of_none hL2 nZ
    have zZ : zd ≠ Z := ne_of_none hzd nZ
    have s4 := same_upd (o := .lst []) nZ
    have hZH : H Z = none := s3.free nZ
    refine ⟨_, rfl, p, _, _, _, rfl, rfl, SqT.of (s4 _ _ (s3 _ _ hp)), rfl, l, _, rfl, .inl (SqL.of (s4 _ _ (s3 _ _ hl))), _, rfl, by rw [rV_len]; omega, by rw [rV_len]; omega, for_range (lo := 0) (n := ((rV bs).length : Int).toNat) (fun k σ H3 => ∃ (v6 v7 v8 : Option V) (lv : List Int) (d : List (Option Nat)),
        σ = [some (.ref p), some (.int i), some (.int j), some (.ref L), some (.ref zd), some (.ref Z), v6, v7, v8] ∧ Same H H3 ∧ H3 L = some (.lst (iV lv)) ∧ H3 zd = some (.lst (nV ds)) ∧ H3 Z = some (.lst (dV d)) ∧ lv.length = W.1.length ∧ d.length = k ∧ ∀ t, some t ∈ d → t < W.1.length)
      ⟨none, none, none, _, [], rfl, s3.trans s4, s4 _ _ hL2, s4 _ _ hzd, upd_same, by rw [List.length_map], rfl, (fun t ht => by simp at ht)⟩ ?_ ?_⟩
    · rintro k σ H3 hk ⟨v6, v7, v8, lv, d, rfl, s5, hL, hzd3, hZ, hlv, hdk, hdt⟩
      have hk' : k < W.2.length := by rw [rV_len] at hk; omega
      have hW3 := hW.same s5
      have hV' := hV
      -- some
      refine ⟨_, rfl, _, rfl, p, W, k, by rw [Int.zero_add]; rfl, hW3, hV, hk', fun H4 zw ns s6 _ hzw hperm => ⟨zw, rfl, ⟨_, SqL.of hzw⟩, fun D nD => ?_⟩⟩
      have hVr : VR W.1.length (W.2.getD k []) := by
        rw [List.getD_eq_getElem?_getD, List.getElem?_eq_getElem hk']
        exact hV.rs _ (List.getElem_mem hk')
      have hnl : ns.length ≤ 6 := by
        rw [hperm.length_eq]
        have := flat_len hVr
        omega
      have hL4 := s6 _ _ hL
      refine lc_list (K := K) (a := zw) (xs := nV ns) (fun e H5 => ∃ sub : List Nat, Same H4 H5 ∧ H5 D = some (.lst (nV sub)) ∧ sub.length ≤ e ∧ ∀ t ∈ sub, t < W.1.length) ⟨[], same_upd nD, upd_same, Nat.le_refl _, (fun t ht => by simp at ht)⟩ (fun e H5 _ ⟨_, s7, _⟩ => SqL.of (s7 _ _ hzw)) ?_ ?_
      · rintro e y H5 hy ⟨sub, s7, hD, hsl, hst⟩
        obtain ⟨t, ht, rfl⟩ := nV_get hy
        have htm : t < W.1.length := hVr.lt t (hperm.mem_iff.mp (List.mem_of_getElem? ht))
        have hel := (List.getElem?_eq_some_iff.mp ht).1
        have hat : atI (iV lv) (t : Int) = some (.int (lv.getD t 0)) := atI_nat (iV_at (by rw [List.getD_eq_getElem?_getD, List.getElem?_eq_getElem (by omega)]; rfl))
        refine ⟨rfl, _, rfl, _, rfl, L, _, _, _, rfl, rfl, SqL.of (s7 _ _ hL4), hat, _, _, rfl, rfl, _, rfl, ite2B (fun _ => ?_) (fun _ => ⟨sub, s7, hD, Nat.le_succ_of_le hsl, hst⟩)⟩
        refine ⟨_, rfl, _, hD, ?_, sub ++ [t], fun c u h => ?_, ?_, ?_, fun t' ht' => ?_⟩
        · rw [nV_len]; exact small1000 (by omega)
        · rw [upd_ne (ne_of_none h nD)]; exact s7 _ _ h
        · rw [upd_same, nV_snoc]
        · rw [List.length_append]; exact Nat.succ_le_succ hsl
        · rcases List.mem_append.mp ht' with h | h
          · exact hst t' h
          · have : t' = t := by simpa using h
            rw [this]; exact htm
      rintro H5 ⟨sub, s7, hD, hsl, hst⟩
      rw [nV_len] at hsl
      refine ⟨(by show 1 ≤ sizeLine; decide), fun e ne => ⟨D, e, _, _, rfl, rfl, same_upd ne _ _ hD, upd_same, ?_, fun S nS => ?_⟩⟩
      · rw [nV_len]; exact Nat.le_of_lt (small1000 (by show _ + 1 ≤ 1000; omega))
      have s8 := (same_upd (o := .lst [.non]) ne).trans (same_upd (o := .lst (nV sub ++ [.non])) nS)
      have hS : (upd (upd H5 e (.lst [.non])) S (.lst (nV sub ++ [.non]))) S = some (.lst (dV (sub.map some ++ [none]))) := by
        rw [upd_same]; unfold dV nV; rw [List.map_append, List.map_map]; rfl
      generalize upd (upd H5 e (.lst [.non])) S (.lst (nV sub ++ [.non])) = H6 at s8 hS
      have s36 := s6.trans (s7.trans s8)
      have hl6 : (sub.map some ++ [(none : Option Nat)]).length = sub.length + 1 := by rw [List.length_append, List.length_map]; rfl
      generalize hls : sub.map some ++ [(none : Option Nat)] = lst at hS hl6
      have hdk2 : atI (nV ds) (0 + (k : Int)) = some (.int (ds.getD k 0 : Nat)) := by rw [Int.zero_add]; exact atI_nat (nV_at (by rw [List.getD_eq_getElem?_getD, List.getElem?_eq_getElem (by omega)]; rfl))
      have hml : ds.getD k 0 % lst.length < lst.length := Nat.mod_lt _ (by omega)
      have hat : atI (dV lst) (((ds.getD k 0 : Nat) : Int) % ((dV lst).length : Int)) = some (oV (got lst (ds.getD k 0 % lst.length))) := by
        rw [dV_len]
        have : ((ds.getD k 0 : Nat) : Int) % ((lst.length : Nat) : Int) = ((ds.getD k 0 % lst.length : Nat) : Int) := by push_cast; rfl
        rw [this]; exact atI_nat (dV_at (got_get hml))
      have hmem : got lst (ds.getD k 0 % lst.length) ∈ lst := by
        have := got_get hml
        exact List.mem_of_getElem? this
      refine ⟨_, rfl, _, rfl, _, rfl, zd, _, _, _, rfl, rfl, SqL.of (s36 _ _ hzd3), hdk2, _, rfl, S, _, rfl, .inl (SqL.of hS), _, _, rfl, rfl, by rw [dV_len]; omega, S, _, _, _, rfl, rfl, SqL.of hS, hat, ?_⟩
      generalize got lst (ds.getD k 0 % lst.length) = x at hmem
      have hxt : ∀ t, x = some t → t < W.1.length := fun t ht => by
        rw [ht, ← hls] at hmem
        rcases List.mem_append.mp hmem with h | h
        · obtain ⟨t', h1, h2⟩ := List.mem_map.mp h
          cases h2; exact hst t h1
        · simp at h
      have s56 := s5.trans s36
      have hL6 := s36 _ _ hL
      have hZ6 := s36 _ _ hZ
      have hz6 := s36 _ _ hzd3
      have fin : ∀ t, some t ∈ d ++ [x] → t < W.1.length := fun t ht => by
        rcases List.mem_append.mp ht with h | h
        · exact hdt t h
        · have hh : some t = x := by simpa using h
          exact hxt t hh.symm
      have hsz : (dV d).length < sizeLine := by rw [dV_len]; exact small1000 (by omega)
      cases x with
      | none =>
        refine ⟨_, rfl, rfl, false, rfl, iteF ?_⟩
        refine ⟨_, rfl, .inl ⟨rfl, _, SqL.of hZ6⟩, _, rfl, Z, _, _, rfl, rfl, hZ6, hsz, ?_⟩
        refine ⟨_, _, _, lv, d ++ [none], rfl, fun c u h => ?_, ?_, ?_, ?_, hlv, by rw [List.length_append, hdk]; rfl, fin⟩
        · rw [upd_ne (ne_of_none h hZH)]; exact s56 _ _ h
        · rw [upd_ne LZ]; exact hL6
        · rw [upd_ne zZ]; exact hz6
        · rw [upd_same]; unfold dV; rw [List.map_append]; rfl
      | some t =>
        have htm := hxt t rfl
        have hat2 : atI (iV lv) (t : Int) = some (.int (lv.getD t 0)) := atI_nat (iV_at (by rw [List.getD_eq_getElem?_getD, List.getElem?_eq_getElem (by omega)]; rfl))
        refine ⟨_, rfl, rfl, true, rfl, iteT ?_⟩
        refine ⟨_, rfl, _, rfl, L, _, _, _, rfl, rfl, SqL.of hL6, hat2, _, _, rfl, rfl, _, rfl, _, rfl, L, _, _, t, rfl, rfl, hL6, ixN_nat (by rw [iV_len]; omega), ?_⟩
        have hZ7 : (upd H6 L (.lst ((iV lv).set t (.int (lv.getD t 0 - 1))))) Z = some (.lst (dV d)) := by rw [upd_ne LZ.symm]; exact hZ6
        refine ⟨_, rfl, .inl ⟨rfl, _, SqL.of hZ7⟩, _, rfl, Z, _, _, rfl, rfl, hZ7, hsz, ?_⟩
        refine ⟨_, _, _, lv.set t (lv.getD t 0 - 1), d ++ [some t], rfl, fun c u h => ?_, ?_, ?_, ?_, by rw [List.length_set]; exact hlv, by rw [List.length_append, hdk]; rfl, fin⟩
        · rw [upd_ne (ne_of_none h hZH), upd_ne (ne_of_none h hLH)]; exact s56 _ _ h
        · rw [upd_ne LZ, upd_same, iV_set]
        · rw [upd_ne zZ, upd_ne Lz.symm]; exact hz6
        · rw [upd_same]; unfold dV; rw [List.map_append]; rfl
    · rintro σ H3 ⟨v6, v7, v8, lv, d, rfl, s5, hL, hzd3, hZ, hlv, hdk, hdt⟩
      rw [rV_len] at hdk
      exact ⟨_, rfl, q H3 Z d s5 hZH hZ (by omega) hdt⟩
end
end WD

set_option Elab.async false
set_option linter.all false
set_option maxRecDepth 100000
set_option maxHeartbeats 4000000
namespace WD
open PySem PySem.Spec PyProof.Rows L2
section
variable {P : Program} {w : World} {K : PySem.W.Frag} {mg : Str → Option Value} {base : Heap} {cS cR cP : Addr}
def sp_law_worth : Sp := fun vs H Q _ => ∃ (p a : Addr) (W : Wish) (o : Str) (s t : Nat), vs = [.ref p, .ref a, .int s, .int t] ∧ WAt H p W ∧ VW W ∧ AimAt H a o none ∧ Ord o ∧ s < W.2.length ∧ t ∈ (W.2.getD s []).flatten ∧ ∀ H', Same H H' → Q (.int (wW o none W s t)) H'
abbrev nm_law_worth : List Str := ["_law_wishes_here", "_law_aim", "_law_asker", "_law_thing", "_law_order", "_law_old", "_law_turns", "_law_base", "_law_ranks_here", "_law_rank_here", "_law_powers", "_law_k", "_law_worth_here", "_law_pick", "_law_one"]
theorem sc_law_worth : FnScope nm_law_worth ["_law_wishes_here", "_law_aim", "_law_asker", "_law_thing"] (defScope s_law_worth) := ⟨rfl, rfl, rfl, by decide +kernel, rfl, by decide +kernel, by decide +kernel⟩
theorem c_law_worth (T : Tx K mg cS cR cP) : C8.Cal P w K mg base 2 "_law_worth" sp_law_worth [] := by
  refine cal_of T.d_law_worth sc_law_worth (fun _ _ _ _ _ _ us hl => match us, hl with | [_, _, _, _], _ => rfl) (fun vs H Q E h => ?_) (fun f cdv A outer s H vs Q E hr h => ?_)
  · obtain ⟨p, a, W, o, s, t, rfl, hW, hV, hA, ho, hs, ht, q⟩ := h
    rfl
  · obtain ⟨p, a, W, o, s, t, rfl, hW, hV, hA, ho, hs, ht, q⟩ := h
    have hu := hu_of hr
    refine ⟨_, 
    (pss_cons (ps_asg (pv 1) (pg_tup rfl (pgs_cons (pg_name (i := 4) sc_law_worth.nd rfl (by first | exact Or.inl rfl | exact Or.inr rfl)) (pgs_cons (pg_name (i := 5) sc_law_worth.nd rfl (by first | exact Or.inl rfl | exact Or.inr rfl)) (pgs_cons (pg_name (i := 6) sc_law_worth.nd rfl (by first | exact Or.inl rfl | exact Or.inr rfl)) pgs_nil)))))
    (pss_cons (ps_set (i := 7) sc_law_worth.nd rfl (by first | exact Or.inl rfl | exact Or.inr rfl) (pe_op op_add (pe_callB call_len_seq (by rfl) T.b_len bo_len (pa_cons (pe_ix ix_tup (pv 0) pe_int (fun _ _ => rfl)) pa_nil)) pe_int))
    (pss_cons (ps_set (i := 8) sc_law_worth.nd rfl (by first | exact Or.inl rfl | exact Or.inr rfl) (C8.pe_c (c_law_longest T) hr (by decide) rfl (pa_cons (pv 0) pa_nil)))
    (pss_cons (ps_set (i := 9) sc_law_worth.nd rfl (by first | exact Or.inl rfl | exact Or.inr rfl) (C8.pe_c (c_law_rank T) hr (by decide) rfl (pa_cons (pv 0) (pa_cons (pv 2) (pa_cons (pv 3) pa_nil)))))
    (pss_cons (ps_set (i := 10) sc_law_worth.nd rfl (by first | exact Or.inl rfl | exact Or.inr rfl) (pe_lst (pa_cons pe_int pa_nil)))
    (pss_cons (ps_for PassesOwn.never rfl (pi_range1 rfl T.b_range (pa_cons (pv 8) pa_nil)) (pg_name (i := 11) sc_law_worth.nd rfl (by first | exact Or.inl rfl | exact Or.inr rfl)) 
      (pss_one (ps_expr (pe_bm PySem.F.plainAttrs_list PySem.F.slot_list_append PySem.F.type_list_append mt_append (pv 10) (pa_cons (pe_op op_mul (pe_ix ix_list (pv 10) (pe_un un_neg pe_int) (fun _ _ => rfl)) (pv 7)) pa_nil)))))
    (pss_cons (ps_set (i := 12) sc_law_worth.nd rfl (by first | exact Or.inl rfl | exact Or.inr rfl) (pe_ix ix_list (pv 10) (pe_op op_sub (pv 8) (pv 9)) (fun _ _ => rfl)))
    (pss_cons (ps_if (pt_cmpR op_eq (pv 4) pe_str (nomark _)) 
      (pss_one (ps_set (i := 12) sc_law_worth.nd rfl (by first | exact Or.inl rfl | exact Or.inr rfl) (pe_op op_add (pv 12) (pe_ix ix_list (pv 10) (pv 8) (fun _ _ => rfl))))) pss_nil)
    (pss_cons (ps_if (pt_cmpR op_eq (pv 4) pe_str (nomark _)) 
      (pss_one (ps_set (i := 12) sc_law_worth.nd rfl (by first | exact Or.inl rfl | exact Or.inr rfl) (pe_op op_sub (pe_ix ix_list (pv 10) (pv 8) (fun _ _ => rfl)) (pe_ix ix_list (pv 10) (pe_op op_sub (pv 9) pe_int) (fun _ _ => rfl))))) pss_nil)
    (pss_cons (ps_set (i := 12) sc_law_worth.nd rfl (by first | exact Or.inl rfl | exact Or.inr rfl) (pe_op op_mul (pv 12) (pv 7)))
    (pss_cons (ps_if (PW.pt (pw_and (pt_cmpR op_notN (pv 5) pe_non (nomark _)) (pw_and1 (pt_cmpR op_eq (pe_ix ix_list (pv 5) (pv 2) (fun _ _ => rfl)) (pv 3) (nomark _))))) 
      (pss_one (ps_set (i := 12) sc_law_worth.nd rfl (by first | exact Or.inl rfl | exact Or.inr rfl) (pe_op op_add (pv 12) pe_int))) pss_nil)
    (pss_cons (ps_set (i := 13) sc_law_worth.nd rfl (by first | exact Or.inl rfl | exact Or.inr rfl) pe_int)
    (pss_cons (ps_for PassesOwn.never rfl (pi_list (pv 6)) (pg_name (i := 14) sc_law_worth.nd rfl (by first | exact Or.inl rfl | exact Or.inr rfl)) 
      (pss_cons (ps_set (i := 12) sc_law_worth.nd rfl (by first | exact Or.inl rfl | exact Or.inr rfl) (pe_op op_mul (pv 12) (pe_op op_add (pv 8) pe_int)))
      (pss_cons (ps_set (i := 13) sc_law_worth.nd rfl (by first | exact Or.inl rfl | exact Or.inr rfl) (pe_op op_mul (pv 13) (pe_op op_add (pv 8) pe_int)))
      (pss_one (ps_if (pt_cmpR op_eq (pv 14) (pv 2) (nomark _)) 
        (pss_one (ps_set (i := 13) sc_law_worth.nd rfl (by first | exact Or.inl rfl | exact Or.inr rfl) (pe_op op_sub (pe_op op_add (pe_op op_add (pv 13) (pv 8)) pe_int) (pv 9)))) pss_nil)))))
    (pss_one (ps_ret (pe_op op_add (pv 12) (pv 13))))))))))))))))), ?_⟩
    obtain ⟨c, l, hp, hc, bs, hl, hbs⟩ := id hW
    obtain ⟨v, tt, ha, hv, htt⟩ := hA
    cases (show v = .non from hv)
    have hl7 := hV.l7
    have hbl := hbs.1
    have hbl' : (rV bs).length = W.2.length := by rw [rV_len]; exact hbl
    refine ⟨_, rfl, a, _, rfl, SqT.of ha, rfl, _, _, rfl, _, _, rfl, _, _, rfl, rfl, ?_⟩
    refine ⟨_, rfl, p, _, _, _, rfl, rfl, SqT.of hp, rfl, l, _, rfl, .inl (SqL.of hl), _, _, rfl, rfl, ?_⟩
    rw [hbl']
    refine ⟨_, rfl, p, W, rfl, hW, hV, fun H1 s1 => ?_⟩
    refine ⟨_, rfl, _, rfl, _, rfl, p, W, s, t, rfl, hW.same s1, hV, hs, fun H2 s2 => ?_⟩
    have hr1 := rk_pos ht
    have hrl := rk_lg W s t
    have hR5 := lg_le W hV
    generalize hRe : lg W.2 = R at hrl hR5
    generalize hre : rk (W.2.getD s []) t = r at hr1 hrl
    refine ⟨(by show 1 ≤ sizeLine; decide), fun z nz => ?_⟩
    have s12 := s1.trans s2
    refine ⟨_, rfl, _, rfl, by omega, by omega, for_range (lo := 0) (n := ((R : Nat) : Int).toNat) (fun i σ H3 => ∃ v11, σ = [some (.ref p), some (.ref a), some (.int s), some (.int t), some (.str o), some .non, some (.ref tt), some (.int ((W.2.length : Nat) + 1)), some (.int (R : Nat)), some (.int (r : Nat)), some (.ref z), v11, none, none, none] ∧ Same H2 H3 ∧ H3 z = some (.lst (nV (pw (W.2.length + 1) i))))
      ⟨none, rfl, same_upd nz, upd_same⟩ ?_ ?_⟩
    · rintro i σ H3 hi ⟨v11, rfl, s3, hz⟩
      have hi' : i < R := by omega
      have e1 : atI (nV (pw (W.2.length + 1) i)) (-1) = some (.int (((W.2.length + 1) ^ i : Nat) : Int)) := by
        have e2 : nV (pw (W.2.length + 1) i) = nV ((List.range i).map fun j => (W.2.length + 1) ^ j) ++ [V.int (((W.2.length + 1) ^ i : Nat) : Int)] := by
          unfold pw
          rw [List.range_succ, List.map_append, nV_snoc]; rfl
        rw [e2]; exact atI_last _ _
      refine ⟨_, rfl, .inl ⟨rfl, _, SqL.of hz⟩, _, rfl, _, rfl, z, _, _, _, rfl, rfl, SqL.of hz, e1, _, rfl, _, _, rfl, rfl, .inr ⟨by omega, by omega⟩, z, _, _, rfl, rfl, hz, ?_, ?_⟩
      · rw [nV_len, pw_len]; exact small1000 (by omega)
      · refine ⟨_, rfl, fun d o e => ?_, ?_⟩
        · rw [upd_ne (ne_of_none e nz)]; exact s3 d o e
        · rw [upd_same]
          have e3 : (((W.2.length + 1) ^ i : Nat) : Int) * (((W.2.length : Nat) : Int) + 1) = (((W.2.length + 1) ^ (i + 1) : Nat) : Int) := by rw [Nat.pow_succ]; exact (Int.natCast_mul _ _).symm
          show some (HO.lst (nV (pw (W.2.length + 1) i) ++ [V.int ((((W.2.length + 1) ^ i : Nat) : Int) * (((W.2.length : Nat) : Int) + 1))])) = _
          rw [e3, nV_snoc]
          have e4 : pw (W.2.length + 1) i ++ [(W.2.length + 1) ^ (i + 1)] = pw (W.2.length + 1) (i + 1) := by
            unfold pw
            rw [List.range_succ (n := i + 1), List.map_append]; rfl
          rw [e4]
    · rintro σ H3 ⟨v11, rfl, s3, hz⟩
      have eR : ((R : Nat) : Int).toNat = R := by omega
      rw [eR] at hz
      have s123 := s12.trans s3
      have htt3 := s123 _ _ htt
      have aR : (nV (pw (W.2.length + 1) R))[R]? = some (.int (((W.2.length + 1) ^ R : Nat) : Int)) := nV_at (pw_at _ R R (Nat.le_refl _))
      have a1 : (nV (pw (W.2.length + 1) R))[R - r]? = some (.int (((W.2.length + 1) ^ (R - r) : Nat) : Int)) := nV_at (pw_at _ R (R - r) (by omega))
      have a2 : (nV (pw (W.2.length + 1) R))[r - 1]? = some (.int (((W.2.length + 1) ^ (r - 1) : Nat) : Int)) := nV_at (pw_at _ R (r - 1) (by omega))
      refine ⟨_, rfl, _, rfl, _, rfl, _, _, rfl, rfl, z, _, _, _, rfl, rfl, SqL.of hz, at_of (j := R - r) (by show (R : Int) - (r : Int) = _; omega) a1, ?_⟩
      rcases ho with rfl | rfl | rfl
      · refine ⟨_, rfl, rfl, _, rfl, iteBF (str_f (by decide +kernel)) ?_⟩
        refine ⟨_, rfl, rfl, _, rfl, iteBF (str_f (by decide +kernel)) ?_⟩
        generalize o_def : ("firsts" : Str) = o at q
        have eX : (((W.2.length + 1) ^ (R - r) : Nat) : Int) = byo o (W.2.length + 1) R r := by
          subst o_def
          unfold byo
          rw [if_neg (by decide +kernel), if_neg (by decide +kernel)]
        generalize hXe : (((W.2.length + 1) ^ (R - r) : Nat) : Int) = X at eX
        refine ⟨_, rfl, _, rfl, _, _, rfl, rfl, .inr ⟨by omega, by omega⟩, ?_⟩
        refine ⟨_, rfl, rfl, false, rfl, iteF (iteF ?_)⟩
        refine ⟨_, rfl, tt, rfl, ⟨_, SqL.of htt3⟩, for_list (K := K) (a := tt) (xs := []) (fun i σ H4 => Same H3 H4 ∧ ∃ v11 v14, σ = [some (.ref p), some (.ref a), some (.int s), some (.int t), some (.str o), some .non, some (.ref tt), some (.int ((W.2.length : Nat) + 1)), some (.int (R : Nat)), some (.int (r : Nat)), some (.ref z), v11, some (.int (X * ((W.2.length : Nat) + 1))), some (.int 0), v14])
          ⟨fun _ _ e => e, _, _, by rw [← hXe]; rfl⟩ (fun i σ H4 _ ⟨s4, _⟩ => SqL.of (s4 _ _ htt3)) (fun i x σ H4 hx => by simp at hx) ?_⟩
        rintro σ H4 ⟨s4, v11, v14, rfl⟩
        refine ⟨_, rfl, _, rfl, _, _, rfl, rfl, ?_⟩
        refine vi ?_ (q H4 (s123.trans s4))
        unfold wW wofr
        rw [hRe, hre, ← eX]; rfl
      · refine ⟨_, rfl, rfl, _, rfl, iteB (str_t _) ?_⟩
        refine ⟨_, rfl, _, rfl, _, rfl, z, _, _, _, rfl, rfl, SqL.of hz, atI_nat aR, _, _, rfl, rfl, ?_⟩
        refine ⟨_, rfl, rfl, _, rfl, iteBF (str_f (by decide +kernel)) ?_⟩
        generalize o_def : ("full" : Str) = o at q
        have eX : (((W.2.length + 1) ^ (R - r) : Nat) : Int) + (((W.2.length + 1) ^ R : Nat) : Int) = byo o (W.2.length + 1) R r := by
          subst o_def
          unfold byo
          rw [if_neg (by decide +kernel), if_pos rfl]
        generalize hXe : (((W.2.length + 1) ^ (R - r) : Nat) : Int) + (((W.2.length + 1) ^ R : Nat) : Int) = X at eX
        refine ⟨_, rfl, _, rfl, _, _, rfl, rfl, .inr ⟨by omega, by omega⟩, ?_⟩
        refine ⟨_, rfl, rfl, false, rfl, iteF (iteF ?_)⟩
        refine ⟨_, rfl, tt, rfl, ⟨_, SqL.of htt3⟩, for_list (K := K) (a := tt) (xs := []) (fun i σ H4 => Same H3 H4 ∧ ∃ v11 v14, σ = [some (.ref p), some (.ref a), some (.int s), some (.int t), some (.str o), some .non, some (.ref tt), some (.int ((W.2.length : Nat) + 1)), some (.int (R : Nat)), some (.int (r : Nat)), some (.ref z), v11, some (.int (X * ((W.2.length : Nat) + 1))), some (.int 0), v14])
          ⟨fun _ _ e => e, _, _, by rw [← hXe]; rfl⟩ (fun i σ H4 _ ⟨s4, _⟩ => SqL.of (s4 _ _ htt3)) (fun i x σ H4 hx => by simp at hx) ?_⟩
        rintro σ H4 ⟨s4, v11, v14, rfl⟩
        refine ⟨_, rfl, _, rfl, _, _, rfl, rfl, ?_⟩
        refine vi ?_ (q H4 (s123.trans s4))
        unfold wW wofr
        rw [hRe, hre, ← eX]; rfl
      · refine ⟨_, rfl, rfl, _, rfl, iteBF (str_f (by decide +kernel)) ?_⟩
        refine ⟨_, rfl, rfl, _, rfl, iteB (str_t _) ?_⟩
        refine ⟨_, rfl, _, rfl, z, _, _, _, rfl, rfl, SqL.of hz, atI_nat aR, _, rfl, _, rfl, _, _, rfl, rfl, z, _, _, _, rfl, rfl, SqL.of hz, at_of (j := r - 1) (by show (r : Int) - 1 = _; omega) a2, _, _, rfl, rfl, ?_⟩
        generalize o_def : ("lasts" : Str) = o at q
        have eX : (((W.2.length + 1) ^ R : Nat) : Int) - (((W.2.length + 1) ^ (r - 1) : Nat) : Int) = byo o (W.2.length + 1) R r := by
          subst o_def
          unfold byo
          rw [if_pos rfl]
        generalize hXe : (((W.2.length + 1) ^ R : Nat) : Int) - (((W.2.length + 1) ^ (r - 1) : Nat) : Int) = X at eX
        refine ⟨_, rfl, _, rfl, _, _, rfl, rfl, .inr ⟨by omega, by omega⟩, ?_⟩
        refine ⟨_, rfl, rfl, false, rfl, iteF (iteF ?_)⟩
        refine ⟨_, rfl, tt, rfl, ⟨_, SqL.of htt3⟩, for_list (K := K) (a := tt) (xs := []) (fun i σ H4 => Same H3 H4 ∧ ∃ v11 v14, σ = [some (.ref p), some (.ref a), some (.int s), some (.int t), some (.str o), some .non, some (.ref tt), some (.int ((W.2.length : Nat) + 1)), some (.int (R : Nat)), some (.int (r : Nat)), some (.ref z), v11, some (.int (X * ((W.2.length : Nat) + 1))), some (.int 0), v14])
          ⟨fun _ _ e => e, _, _, by rw [← hXe]; rfl⟩ (fun i σ H4 _ ⟨s4, _⟩ => SqL.of (s4 _ _ htt3)) (fun i x σ H4 hx => by simp at hx) ?_⟩
        rintro σ H4 ⟨s4, v11, v14, rfl⟩
        refine ⟨_, rfl, _, rfl, _, _, rfl, rfl, ?_⟩
        refine vi ?_ (q H4 (s123.trans s4))
        unfold wW wofr
        rw [hRe, hre, ← eX]; rfl
end
end WD

set_option Elab.async false
set_option linter.all false
set_option maxRecDepth 100000
set_option maxHeartbeats 4000000
namespace WD
open PySem PySem.Spec PyProof.Rows L2
/-! ### all dealings and the best ones, in plain -/
structure OkD (W : Wish) (i : Nat) (d : Deal) : Prop where
  len : d.length = i
  wish : ∀ a t, got d a = some t → t ∈ (W.2.getD a []).flatten
  fits : ∀ t, cnt d t ≤ W.1.getD t 0
def w1 (o : Str) (W : Wish) (a : Nat) : Option Nat → Int
  | none => 0
  | some t => wW o none W a t
def w0 (o : Str) (W : Wish) (d : Deal) : Int := sm (fun a => w1 o W a (got d a)) d.length
theorem got_app (d : Deal) (x : Option Nat) (a : Nat) : got (d ++ [x]) a = if a = d.length then x else got d a := by
  unfold got
  rw [List.getD_eq_getElem?_getD, List.getD_eq_getElem?_getD]
  by_cases h : a < d.length
  · rw [List.getElem?_append_left h, if_neg (by omega)]
  · by_cases e : a = d.length
    · subst e; rw [if_pos rfl, List.getElem?_append_right (Nat.le_refl _)]; simp
    · rw [if_neg e, List.getElem?_eq_none (by simp; omega), List.getElem?_eq_none (by omega)]
theorem cnt_app (d : Deal) (x : Option Nat) (t : Nat) : cnt (d ++ [x]) t = cnt d t + if x = some t then 1 else 0 := by
  unfold cnt
  rw [List.count_append, List.count_singleton]
  by_cases e : x = some t
  · rw [if_pos e, e]; simp
  · rw [if_neg e, if_neg (by simpa using e)]
theorem w0_app (o : Str) (W : Wish) (d : Deal) (x : Option Nat) : w0 o W (d ++ [x]) = w0 o W d + w1 o W d.length x := by
  unfold w0
  rw [List.length_append]
  show sm _ (d.length + 1) = _
  have e : ∀ n, n ≤ d.length → sm (fun a => w1 o W a (got (d ++ [x]) a)) n = sm (fun a => w1 o W a (got d a)) n := by
    intro n
    induction n with
    | zero => intro _; rfl
    | succ n ih =>
      intro hn
      show sm _ n + w1 o W n (got (d ++ [x]) n) = sm _ n + w1 o W n (got d n)
      rw [ih (by omega), got_app, if_neg (by omega)]
  show sm (fun a => w1 o W a (got (d ++ [x]) a)) d.length + w1 o W d.length (got (d ++ [x]) d.length) = _
  rw [e _ (Nat.le_refl _), got_app, if_pos rfl]
abbrev Cand := Deal × Int
def okx (W : Wish) (d : Deal) : Option Nat → Bool
  | none => true
  | some t => decide (cnt d t < W.1.getD t 0)
def ext (W : Wish) (c : Cand) (ss : List (Option Nat × Int)) : List Cand := (ss.filter fun x => okx W c.1 x.1).map fun x => (c.1 ++ [x.1], c.2 + x.2)
def exts (W : Wish) (L : List Cand) (ss : List (Option Nat × Int)) : List Cand := (L.map fun c => ext W c ss).flatten
theorem ext_snoc (W : Wish) (c : Cand) (ss : List (Option Nat × Int)) (x : Option Nat × Int) : ext W c (ss ++ [x]) = ext W c ss ++ if okx W c.1 x.1 = true then [(c.1 ++ [x.1], c.2 + x.2)] else [] := by
  unfold ext
  rw [List.filter_append, List.filter_cons, List.map_append]
  split <;> simp
theorem exts_snoc (W : Wish) (L : List Cand) (ss : List (Option Nat × Int)) (c : Cand) : exts W (L ++ [c]) ss = exts W L ss ++ ext W c ss := by
  unfold exts
  rw [List.map_append, List.flatten_append]; simp
theorem ext_len (W : Wish) (c : Cand) (ss : List (Option Nat × Int)) : (ext W c ss).length ≤ ss.length := by
  unfold ext
  rw [List.length_map]; exact List.length_filter_le _ _
theorem exts_len (W : Wish) (ss : List (Option Nat × Int)) : ∀ L : List Cand, (exts W L ss).length ≤ L.length * ss.length
  | [] => by simp [exts]
  | c :: L => by
    have h1 := exts_len W ss L
    have h2 := ext_len W c ss
    unfold exts at h1 ⊢
    rw [List.map_cons, List.flatten_cons, List.length_append, List.length_cons, Nat.succ_mul]; omega
structure CandsOk (o : Str) (W : Wish) (i : Nat) (L : List Cand) : Prop where
  to : ∀ c ∈ L, OkD W i c.1 ∧ c.2 = w0 o W c.1
  from_ : ∀ d, OkD W i d → (d, w0 o W d) ∈ L
theorem CandsOk.start (o : Str) (W : Wish) : CandsOk o W 0 [([], 0)] := by
  refine ⟨fun c hc => ?_, fun d hd => ?_⟩
  · have : c = ([], 0) := by simpa using hc
    rw [this]
    exact ⟨⟨rfl, (fun a t h => by simp [got] at h), fun t => by simp [cnt]⟩, rfl⟩
  · have : d = [] := List.length_eq_zero_iff.mp hd.len
    rw [this]
    simp [w0, sm]
theorem OkD.split {W : Wish} {i : Nat} {e : Deal} (h : OkD W (i + 1) e) : ∃ d x, e = d ++ [x] ∧ OkD W i d ∧ okx W d x = true ∧ ∀ t, x = some t → t ∈ (W.2.getD i []).flatten := by
  have hne : e ≠ [] := fun z => by have := h.len; rw [z] at this; simp at this
  obtain ⟨d, x, rfl⟩ : ∃ d x, e = d ++ [x] := ⟨e.dropLast, e.getLast hne, (List.dropLast_concat_getLast hne).symm⟩
  have hl : d.length = i := by have := h.len; rw [List.length_append] at this; exact Nat.succ.inj this
  refine ⟨d, x, rfl, ⟨hl, fun a t ha => ?_, fun t => ?_⟩, ?_, fun t ht => ?_⟩
  · have hal := got_lt ha
    have := h.wish a t (by rw [got_app, if_neg (by omega)]; exact ha)
    exact this
  · have := h.fits t
    rw [cnt_app] at this; omega
  · cases x with
    | none => rfl
    | some t =>
      have := h.fits t
      rw [cnt_app, if_pos rfl] at this
      exact decide_eq_true (by omega)
  · have := h.wish i t (by rw [got_app, if_pos hl.symm]; exact ht)
    exact this
theorem CandsOk.next {o : Str} {W : Wish} {i : Nat} {L : List Cand} (h : CandsOk o W i L) {ns : List Nat} (hp : ns.Perm (W.2.getD i []).flatten) :
    CandsOk o W (i + 1) (exts W L ((none, 0) :: ns.map fun t => (some t, wW o none W i t))) := by
  refine ⟨fun c hc => ?_, fun e he => ?_⟩
  · unfold exts at hc
    obtain ⟨l, hl, hcl⟩ := List.mem_flatten.mp hc
    obtain ⟨⟨d, v⟩, hd, rfl⟩ := List.mem_map.mp hl
    unfold ext at hcl
    obtain ⟨⟨x, m⟩, hx, rfl⟩ := List.mem_map.mp hcl
    rw [List.mem_filter] at hx
    obtain ⟨hx1, hx2⟩ := hx
    obtain ⟨hok, hv⟩ := h.to _ hd
    have hv' : v = w0 o W d := hv
    have hok' : OkD W i d := hok
    have hx2' : okx W d x = true := hx2
    have hxm : m = w1 o W i x ∧ ∀ t, x = some t → t ∈ (W.2.getD i []).flatten := by
      rcases List.mem_cons.mp hx1 with e | e
      · cases e; exact ⟨rfl, fun t h => by cases h⟩
      · obtain ⟨t, ht, e2⟩ := List.mem_map.mp e
        cases e2
        exact ⟨rfl, fun t' h => by cases h; exact hp.mem_iff.mp ht⟩
    refine ⟨⟨by show (d ++ [x]).length = _; rw [List.length_append, hok'.len]; rfl, fun a t ha => ?_, fun t => ?_⟩, ?_⟩
    · have ha' : got (d ++ [x]) a = some t := ha
      rw [got_app] at ha'
      by_cases e : a = d.length
      · rw [if_pos e] at ha'
        rw [e, hok'.len]; exact hxm.2 t ha'
      · rw [if_neg e] at ha'; exact hok'.wish a t ha'
    · show cnt (d ++ [x]) t ≤ _
      rw [cnt_app]
      have hf := hok'.fits t
      by_cases e : x = some t
      · rw [if_pos e]
        rw [e] at hx2'
        have := of_decide_eq_true hx2'
        omega
      · rw [if_neg e]; omega
    · show v + m = w0 o W (d ++ [x])
      rw [w0_app, hv', hxm.1, hok'.len]
  · obtain ⟨d, x, rfl, hok, hx, hxt⟩ := he.split
    have hm := h.from_ d hok
    unfold exts
    refine List.mem_flatten.mpr ⟨_, List.mem_map.mpr ⟨_, hm, rfl⟩, ?_⟩
    unfold ext
    refine List.mem_map.mpr ⟨(x, w1 o W i x), List.mem_filter.mpr ⟨?_, hx⟩, ?_⟩
    · cases x with
      | none => exact List.mem_cons_self
      | some t => exact List.mem_cons_of_mem _ (List.mem_map.mpr ⟨t, hp.mem_iff.mpr (hxt t rfl), rfl⟩)
    · show (d ++ [x], w0 o W d + w1 o W i x) = _
      rw [w0_app, hok.len]
structure BestsOk (o : Str) (W : Wish) (ds : List Deal) : Prop where
  to : ∀ d ∈ ds, OkD W W.2.length d ∧ ∀ e, OkD W W.2.length e → w0 o W e ≤ w0 o W d
  from_ : ∀ d, OkD W W.2.length d → (∀ e, OkD W W.2.length e → w0 o W e ≤ w0 o W d) → d ∈ ds
theorem CandsOk.bests {o : Str} {W : Wish} {L : List Cand} (h : CandsOk o W W.2.length L) {m : Int} (hm : m ∈ L.map (·.2)) (hmax : ∀ x ∈ L.map (·.2), x ≤ m) : BestsOk o W ((L.filter fun c => decide (c.2 = m)).map (·.1)) := by
  obtain ⟨c0, hc0, e0⟩ := List.mem_map.mp hm
  refine ⟨fun d hd => ?_, fun d hd hbest => ?_⟩
  · obtain ⟨c, hc, rfl⟩ := List.mem_map.mp hd
    rw [List.mem_filter] at hc
    obtain ⟨h1, h2⟩ := hc
    have h3 : c.2 = m := of_decide_eq_true h2
    obtain ⟨h4, h5⟩ := h.to c h1
    refine ⟨h4, fun e he => ?_⟩
    have := hmax _ (List.mem_map.mpr ⟨_, h.from_ e he, rfl⟩)
    rw [← h5, h3]; exact this
  · have h1 := h.from_ d hd
    have h2 := hmax _ (List.mem_map.mpr ⟨_, h1, rfl⟩)
    obtain ⟨h4, h5⟩ := h.to c0 hc0
    have h6 := hbest c0.1 h4
    rw [← h5] at h6
    refine List.mem_map.mpr ⟨(d, w0 o W d), List.mem_filter.mpr ⟨h1, decide_eq_true ?_⟩, rfl⟩
    have h2' : w0 o W d ≤ m := h2
    have e0' : c0.2 = m := e0
    show w0 o W d = m
    omega
/-! ### the program's dealing is one of the best, and moves the fewest -/
def keptN (old d : Deal) : Nat → Nat
  | 0 => 0
  | n + 1 => keptN old d n + if (got old n).isSome = true ∧ got d n = got old n then 1 else 0
theorem keptN_le (old d : Deal) : ∀ n, keptN old d n ≤ n
  | 0 => Nat.le_refl _
  | n + 1 => by
    have := keptN_le old d n
    unfold keptN; split <;> omega
theorem mvd_kept (old d : Deal) : ∀ n, (mvd old d n).length + keptN old d n = (hadL old n).length
  | 0 => rfl
  | n + 1 => by
    have ih := mvd_kept old d n
    rw [mvd_succ, hadL_succ, List.length_append, List.length_append]
    unfold keptN
    by_cases h1 : (got old n).isSome = true
    · by_cases h2 : got d n = got old n
      · rw [if_neg (by simp [h2]), if_pos ⟨h1, h2⟩, if_pos h1]
        show _ + 0 + (_ + 1) = _ + 1
        omega
      · rw [if_pos (by simp [h1, h2]), if_neg (fun z => h2 z.2), if_pos h1]
        show _ + 1 + (_ + 0) = _ + 1
        omega
    · rw [if_neg (by simp [h1]), if_neg (fun z => h1 z.1), if_neg h1]
      show _ + 0 + (_ + 0) = _ + 0
      omega
def v1 (o : Str) (W : Wish) (a : Nat) : Option Nat → Int
  | none => 0
  | some t => byo o (W.2.length + 1) (lg W.2) (rk (W.2.getD a []) t)
theorem w1_v1 (o : Str) (W : Wish) (a : Nat) (x : Option Nat) : w1 o W a x = v1 o W a x * ((W.2.length + 1 : Nat) : Int) := by
  cases x with
  | none => simp [w1, v1]
  | some t =>
    show wofr o none _ _ _ _ _ = _
    unfold wofr
    show _ + (if false = true then (1 : Int) else 0) = _
    simp [v1]
theorem w0_v1 (o : Str) (W : Wish) (d : Deal) : ∀ n, sm (fun a => w1 o W a (got d a)) n = sm (fun a => v1 o W a (got d a)) n * ((W.2.length + 1 : Nat) : Int)
  | 0 => by simp [sm]
  | n + 1 => by
    show sm _ n + w1 o W n (got d n) = (sm _ n + v1 o W n (got d n)) * _
    rw [w0_v1 o W d n, w1_v1, Int.add_mul]
theorem worth_split {o : Str} {old : Deal} {W : Wish} {rows : List (Al Int)} (hR : RowsOk o (some old) W rows) {d : Deal} (hd : ∀ a t, got d a = some t → t ∈ (W.2.getD a []).flatten) :
    ∀ n, sm (fun a => wOf rows a (got d a)) n = sm (fun a => w1 o W a (got d a)) n + (keptN old d n : Int)
  | 0 => rfl
  | n + 1 => by
    show sm _ n + wOf rows n (got d n) = sm _ n + w1 o W n (got d n) + ((keptN old d n + _ : Nat) : Int)
    rw [worth_split hR hd n]
    have key : wOf rows n (got d n) = w1 o W n (got d n) + (((if (got old n).isSome = true ∧ got d n = got old n then 1 else 0 : Nat)) : Int) := by
      cases hx : got d n with
      | none =>
        have : ¬ ((got old n).isSome = true ∧ none = got old n) := fun z => by rw [← z.2] at z; simp at z
        rw [if_neg this]; rfl
      | some t =>
        have hl := (hR.iff n t _).mpr ⟨hd n t hx, rfl⟩
        show wOf rows n (some t) = _
        have e1 : wOf rows n (some t) = wW o (some old) W n t := by
          unfold wOf; simp only [hl, Option.getD_some]
        rw [e1]
        show wofr _ _ _ _ _ _ _ = wofr _ _ _ _ _ _ _ + _
        unfold wofr
        show _ * _ + (if decide (got old n = some t) = true then (1 : Int) else 0) = _ * _ + 0 + _
        by_cases e : got old n = some t
        · rw [if_pos (decide_eq_true e), if_pos ⟨by rw [e]; rfl, e.symm⟩]
          simp
        · rw [if_neg (fun z => e (of_decide_eq_true z)), if_neg fun z => e z.2.symm]
          simp
    rw [key]
    push_cast
    omega
theorem best_found {o : Str} {old : Deal} {W : Wish} {rows : List (Al Int)} {f : Deal} {u p : Nat → Int} (hR : RowsOk o (some old) W rows) (hol : old.length = W.2.length) (hC : Cert rows (fun t => W.1.getD t 0) W.1.length rows.length f u p) :
    OkD W W.2.length f ∧ (∀ e, OkD W W.2.length e → w0 o W e ≤ w0 o W f) ∧ ∀ e, OkD W W.2.length e → w0 o W f ≤ w0 o W e → (mvd old f old.length).length ≤ (mvd old e old.length).length := by
  have hlen := hR.len
  have hF : OkD W W.2.length f := ⟨by rw [hC.feas.len, hlen], fun a t h => by
    obtain ⟨w', hw'⟩ := hC.feas.wish a t h
    exact ((hR.iff a t w').mp hw').1, hC.feas.fits⟩
  have hfe : ∀ e, OkD W W.2.length e → Feas rows (fun t => W.1.getD t 0) e := fun e he => ⟨by rw [he.len, hlen], fun a t h => ⟨_, (hR.iff a t _).mpr ⟨he.wish a t h, rfl⟩⟩, he.fits⟩
  have hw : ∀ e, OkD W W.2.length e → worth rows e = w0 o W e + (keptN old e W.2.length : Int) := fun e he => by
    unfold worth w0
    rw [he.len]; exact worth_split hR he.wish _
  have hv : ∀ e, OkD W W.2.length e → w0 o W e = sm (fun a => v1 o W a (got e a)) W.2.length * ((W.2.length + 1 : Nat) : Int) := fun e he => by
    unfold w0
    rw [he.len]; exact w0_v1 o W e _
  have hle : ∀ e, OkD W W.2.length e → w0 o W e + (keptN old e W.2.length : Int) ≤ w0 o W f + (keptN old f W.2.length : Int) := fun e he => by
    rw [← hw e he, ← hw f hF]
    exact cert_best hC (hfe e he)
  refine ⟨hF, fun e he => ?_, fun e he h => ?_⟩
  · have h1 := hle e he
    have h2 := keptN_le old f W.2.length
    rw [hv e he, hv f hF] at h1 ⊢
    refine Int.mul_le_mul_of_nonneg_right ?_ (by omega)
    by_cases hlt : sm (fun a => v1 o W a (got e a)) W.2.length ≤ sm (fun a => v1 o W a (got f a)) W.2.length
    · exact hlt
    · exfalso
      have h3 : sm (fun a => v1 o W a (got f a)) W.2.length + 1 ≤ sm (fun a => v1 o W a (got e a)) W.2.length := by omega
      have h4 := Int.mul_le_mul_of_nonneg_right h3 (show (0 : Int) ≤ ((W.2.length + 1 : Nat) : Int) by omega)
      rw [Int.add_mul, Int.one_mul] at h4
      omega
  · have h1 := hle e he
    have h2 := mvd_kept old f old.length
    have h3 := mvd_kept old e old.length
    rw [← hol] at h1
    omega
end WD

set_option Elab.async false
set_option linter.all false
set_option maxRecDepth 100000
set_option maxHeartbeats 4000000
namespace WD
open PySem PySem.Spec PyProof.Rows L2
theorem eqV_dec (o : Option Nat) (t : Nat) : eqV (oV o) (.int t) = decide (o = some t) := by
  cases o with
  | none => rfl
  | some x =>
    show ((x : Int) == (t : Int)) = _
    rw [Bool.eq_iff_iff]; simp; omega
theorem countP_dV (t : Nat) : ∀ d : Deal, (dV d).countP (fun z => eqV z (.int t)) = cnt d t
  | [] => rfl
  | o :: d => by
    have ih := countP_dV t d
    unfold cnt at ih ⊢
    show List.countP _ (oV o :: dV d) = _
    rw [List.countP_cons, List.count_cons, ih, eqV_dec]
    by_cases e : o = some t <;> simp [e]
def CandAt (H : Hp) (T : Addr) (c : Cand) : Prop := ∃ a, H T = some (.tup [.ref a, .int c.2]) ∧ H a = some (.lst (dV c.1))
theorem CandAt.same {H H' : Hp} {T : Addr} {c : Cand} (s : Same H H') (h : CandAt H T c) : CandAt H' T c := let ⟨a, h1, h2⟩ := h; ⟨a, s _ _ h1, s _ _ h2⟩
def PairO (H : Hp) (T : Addr) (q : Option Nat × Int) : Prop := H T = some (.tup [oV q.1, .int q.2])
theorem take_snoc {α : Type} {L : List α} {i : Nat} {x : α} (h : L[i]? = some x) : L.take (i + 1) = L.take i ++ [x] := by
  rw [List.take_add_one, h]; rfl
theorem pow5 {k : Nat} (h : k ≤ 4) : 5 ^ k ≤ 625 := Nat.le_trans (Nat.pow_le_pow_right (by decide) h) (by decide)
theorem exts_le (W : Wish) {L : List Cand} {ss : List (Option Nat × Int)} {k : Nat} (hk : k < 4) (hL : L.length ≤ 5 ^ k) (hs : ss.length ≤ 5) : (exts W L ss).length ≤ 5 ^ (k + 1) := by
  have h1 := exts_len W ss L
  have h2 := Nat.mul_le_mul hL hs
  rw [Nat.pow_succ]; omega
section
variable {P : Program} {w : World} {K : PySem.W.Frag} {mg : Str → Option Value} {base : Heap} {cS cR cP : Addr}
def sp_law_bests : Sp := fun vs H Q _ => ∃ (p a : Addr) (W : Wish) (o : Str), vs = [.ref p, .ref a] ∧ WAt H p W ∧ VW W ∧ AimAt H a o none ∧ Ord o ∧ W.1.length ≤ 4 ∧ W.2.length ≤ 4 ∧
  ∀ H' z zs ds, Same H H' → H' z = some (.lst (rV zs)) → AllAt (fun b d => H' b = some (.lst (dV d))) zs ds → BestsOk o W ds → ds.length ≤ 625 → Q (.ref z) H'
abbrev nm_law_bests : List Str := ["_law_wishes_here", "_law_aim", "_law_found", "_law_asker", "_law_some", "_law_thing", "_law_longer", "_law_dealing", "_law_worth_here", "_law_more", "_law_most"]
theorem sc_law_bests : FnScope nm_law_bests ["_law_wishes_here", "_law_aim"] (defScope s_law_bests) := ⟨rfl, rfl, rfl, by decide +kernel, rfl, by decide +kernel, by decide +kernel⟩
theorem c_law_bests (T : Tx K mg cS cR cP) : C8.Cal P w K mg base 3 "_law_bests" sp_law_bests [] := by
  refine cal_of T.d_law_bests sc_law_bests (fun _ _ _ _ _ _ us hl => match us, hl with | [_, _], _ => rfl) (fun vs H Q E h => ?_) (fun f cdv A outer s H vs Q E hr h => ?_)
  · obtain ⟨p, a, W, o, rfl, hW, hV, hA, ho, hm4, hn4, q⟩ := h
    rfl
  · obtain ⟨p, a, W, o, rfl, hW, hV, hA, ho, hm4, hn4, q⟩ := h
    have hu := hu_of hr
    refine ⟨_, 
    (pss_cons (ps_set (i := 2) sc_law_bests.nd rfl (by first | exact Or.inl rfl | exact Or.inr rfl) (pe_lst (pa_cons (pe_tup (pa_cons (pe_lst pa_nil) (pa_cons pe_int pa_nil))) pa_nil)))
    (pss_cons (ps_for PassesOwn.never rfl (pi_range1 rfl T.b_range (pa_cons (pe_callB call_len_seq (by rfl) T.b_len bo_len (pa_cons (pe_ix ix_tup (pv 0) pe_int (fun _ _ => rfl)) pa_nil)) pa_nil)) (pg_name (i := 3) sc_law_bests.nd rfl (by first | exact Or.inl rfl | exact Or.inr rfl)) 
      (pss_cons (ps_set (i := 4) sc_law_bests.nd rfl (by first | exact Or.inl rfl | exact Or.inr rfl) (pe_lst (pa_cons (pe_tup (pa_cons pe_non (pa_cons pe_int pa_nil))) pa_nil)))
      (pss_cons (ps_for PassesOwn.never rfl (pi_list (C8.pe_c (c_law_wished T) hr (by decide) rfl (pa_cons (pv 0) (pa_cons (pv 3) pa_nil)))) (pg_name (i := 5) sc_law_bests.nd rfl (by first | exact Or.inl rfl | exact Or.inr rfl)) 
        (pss_one (ps_expr (pe_bm PySem.F.plainAttrs_list PySem.F.slot_list_append PySem.F.type_list_append mt_append (pv 4) (pa_cons (pe_tup (pa_cons (pv 5) (pa_cons (C8.pe_c (c_law_worth T) hr (by decide) rfl (pa_cons (pv 0) (pa_cons (pv 1) (pa_cons (pv 3) (pa_cons (pv 5) pa_nil))))) pa_nil))) pa_nil)))))
      (pss_cons (ps_set (i := 6) sc_law_bests.nd rfl (by first | exact Or.inl rfl | exact Or.inr rfl) (pe_lst pa_nil))
      (pss_cons (ps_for PassesOwn.never rfl (pi_list (pv 2)) (pg_tup rfl (pgs_cons (pg_name (i := 7) sc_law_bests.nd rfl (by first | exact Or.inl rfl | exact Or.inr rfl)) (pgs_cons (pg_name (i := 8) sc_law_bests.nd rfl (by first | exact Or.inl rfl | exact Or.inr rfl)) pgs_nil))) 
        (pss_one (ps_for PassesOwn.never rfl (pi_list (pv 4)) (pg_tup rfl (pgs_cons (pg_name (i := 5) sc_law_bests.nd rfl (by first | exact Or.inl rfl | exact Or.inr rfl)) (pgs_cons (pg_name (i := 9) sc_law_bests.nd rfl (by first | exact Or.inl rfl | exact Or.inr rfl)) pgs_nil))) 
          (pss_one (ps_if (PW.pt (pw_or (pt_cmpR op_isN (pv 5) pe_non (nomark _)) (pw_or1 (pt_cmpR op_lt (pe_bm PySem.F.plainAttrs_list PySem.F.slot_list_count PySem.F.type_list_count mt_countV (pv 7) (pa_cons (pv 5) pa_nil)) (pe_ix ix_list (pe_ix ix_tup (pv 0) pe_int (fun _ _ => rfl)) (pv 5) (fun _ _ => rfl)) (nomark _))))) 
            (pss_one (ps_expr (pe_bm PySem.F.plainAttrs_list PySem.F.slot_list_append PySem.F.type_list_append mt_append (pv 6) (pa_cons (pe_tup (pa_cons (pe_op op_cat (pv 7) (pe_lst (pa_cons (pv 5) pa_nil))) (pa_cons (pe_op op_add (pv 8) (pv 9)) pa_nil))) pa_nil)))) pss_nil)))))
      (pss_one (ps_set (i := 2) sc_law_bests.nd rfl (by first | exact Or.inl rfl | exact Or.inr rfl) (pv 6))))))))
    (pss_cons (ps_set (i := 10) sc_law_bests.nd rfl (by first | exact Or.inl rfl | exact Or.inr rfl) (pe_callB (cr_max rfl) (by rfl) T.b_max bo_max (pa_cons (pe_lc (own := [("_law_dealing", 7), ("_law_worth_here", 8)]) (g := gTup K 2 (gCons (gName 7) (gCons (gName 8) gNil))) (tt := tYes) rfl sc_law_bests.nd (pi_list (pv 2)) (blkOk_by (own := [("_law_dealing", 7), ("_law_worth_here", 8)]) (N := nm_law_bests) (sc := defScope s_law_bests) (by decide +kernel)) (fun _ _ _ _ _ => (pg_tup rfl (pgs_cons (pg_name (i := 7) sc_law_bests.nd rfl (by first | exact Or.inl rfl | exact Or.inr rfl)) (pgs_cons (pg_name (i := 8) sc_law_bests.nd rfl (by first | exact Or.inl rfl | exact Or.inr rfl)) pgs_nil)))) (fun _ _ _ _ _ => pts_nil) (fun _ _ _ _ _ => (pv 8))) pa_nil)))
    (pss_one (ps_ret (pe_lc (own := [("_law_dealing", 7), ("_law_worth_here", 8)]) (g := gTup K 2 (gCons (gName 7) (gCons (gName 8) gNil))) rfl sc_law_bests.nd (pi_list (pv 2)) (blkOk_by (own := [("_law_dealing", 7), ("_law_worth_here", 8)]) (N := nm_law_bests) (sc := defScope s_law_bests) (by decide +kernel)) (fun _ _ _ _ _ => (pg_tup rfl (pgs_cons (pg_name (i := 7) sc_law_bests.nd rfl (by first | exact Or.inl rfl | exact Or.inr rfl)) (pgs_cons (pg_name (i := 8) sc_law_bests.nd rfl (by first | exact Or.inl rfl | exact Or.inr rfl)) pgs_nil)))) (fun _ _ _ _ _ => pts_one (pt_cmpR op_eq (pv 8) (pv 10) (nomark _))) (fun _ _ _ _ _ => (pv 7)))))))), ?_⟩
    obtain ⟨c, l, hp, hc, bs, hl, hbs⟩ := id hW
    have hbl := hbs.1
    refine ⟨Nat.zero_le _, fun e0 ne0 => ⟨(by show 2 ≤ sizeLine; decide), fun T0 nT0 => ⟨(by show 1 ≤ sizeLine; decide), fun F0 nF0 => ?_⟩⟩⟩
    have s0 := (same_upd (o := .lst []) ne0).trans ((same_upd (o := .tup [.ref e0, .int 0]) nT0).trans (same_upd (o := .lst [.ref T0]) nF0))
    have hT0 : CandAt (upd (upd (upd H e0 (.lst [])) T0 (.tup [.ref e0, .int 0])) F0 (.lst [.ref T0])) T0 ([], 0) := ⟨e0, same_upd nF0 _ _ upd_same, same_upd nF0 _ _ (same_upd nT0 _ _ upd_same)⟩
    have hF0 : (upd (upd (upd H e0 (.lst [])) T0 (.tup [.ref e0, .int 0])) F0 (.lst [.ref T0])) F0 = some (.lst (rV [T0])) := upd_same
    generalize upd (upd (upd H e0 (.lst [])) T0 (.tup [.ref e0, .int 0])) F0 (.lst [.ref T0]) = H1 at s0 hT0 hF0
    refine ⟨_, rfl, p, _, _, _, rfl, rfl, SqT.of (s0 _ _ hp), rfl, l, _, rfl, .inl (SqL.of (s0 _ _ hl)), _, rfl, by rw [rV_len]; omega, by rw [rV_len]; omega, for_range (lo := 0) (n := ((rV bs).length : Int).toNat) (fun k σ H3 => ∃ (v3 v4 v5 v6 v7 v8 v9 : Option V) (fz : Addr) (ts : List Addr) (L : List Cand),
        σ = [some (.ref p), some (.ref a), some (.ref fz), v3, v4, v5, v6, v7, v8, v9, none] ∧ Same H H3 ∧ H3 fz = some (.lst (rV ts)) ∧ AllAt (CandAt H3) ts L ∧ CandsOk o W k L ∧ L.length ≤ 5 ^ k)
      ⟨none, none, none, none, none, none, none, F0, [T0], [([], 0)], rfl, s0, hF0, ⟨rfl, fun i b y h1 h2 => ?_⟩, CandsOk.start o W, Nat.le_refl _⟩ ?_ ?_⟩
    · cases i with
      | zero => cases h1; cases h2; exact hT0
      | succ i => simp at h1
    · rintro k σ H3 hk ⟨v3, v4, v5, v6, v7, v8, v9, fz, ts, L, rfl, s3, hfz, hts, hCa, hLl⟩
      have hk' : k < W.2.length := by rw [rV_len] at hk; omega
      have hk4 : k < 4 := by omega
      -- some = [(None, 0)]
      refine ⟨(by show 2 ≤ sizeLine; decide), fun T1 nT1 => ⟨(by show 1 ≤ sizeLine; decide), fun Sm nSm => ?_⟩⟩
      have u1 := same_upd (o := .tup [.non, .int 0]) nT1
      have u2 := same_upd (o := .lst [.ref T1]) nSm
      have hT1 : (upd (upd H3 T1 (.tup [.non, .int 0])) Sm (.lst [.ref T1])) T1 = some (.tup [.non, .int 0]) := u2 _ _ upd_same
      have hSm : (upd (upd H3 T1 (.tup [.non, .int 0])) Sm (.lst [.ref T1])) Sm = some (.lst (rV [T1])) := upd_same
      have u12 := u1.trans u2
      have hSm3 : H3 Sm = none := u1.free nSm
      generalize upd (upd H3 T1 (.tup [.non, .int 0])) Sm (.lst [.ref T1]) = H4 at u2 hT1 hSm u12
      have s4 := s3.trans u12
      refine ⟨_, rfl, _, rfl, p, W, k, by rw [Int.zero_add]; rfl, hW.same s4, hV, hk', fun H5 zw ns s5 nzw hzw hperm => ?_⟩
      have Smz : Sm ≠ zw := ne_of_none hSm nzw
      have hVr : VR W.1.length (W.2.getD k []) := by
        rw [List.getD_eq_getElem?_getD, List.getElem?_eq_getElem hk']
        exact hV.rs _ (List.getElem_mem hk')
      have hnl : ns.length ≤ 4 := by
        rw [hperm.length_eq]
        have := flat_len hVr
        omega
      have kSm : ∀ {H6 : Hp}, SameBut [Sm] H5 H6 → Same H3 H6 := fun {H6} sb b u e => sb b u (s5 _ _ (u12 _ _ e)) (by simpa using ne_of_none e hSm3)
      refine ⟨zw, rfl, ⟨_, SqL.of hzw⟩, for_list (K := K) (a := zw) (xs := nV ns) (fun j σ H6 => ∃ (v5 : Option V) (us : List Addr), σ = [some (.ref p), some (.ref a), some (.ref fz), some (.int (0 + (k : Int))), some (.ref Sm), v5, v6, v7, v8, v9, none] ∧ SameBut [Sm] H5 H6 ∧ H6 Sm = some (.lst (rV us)) ∧
          AllAt (PairO (hid [Sm] H6)) us ((none, 0) :: (ns.take j).map fun t => (some t, wW o none W k t)))
        ⟨v5, [T1], rfl, fun _ _ e _ => e, s5 _ _ hSm, ?_⟩ (fun j σ H6 _ ⟨_, _, _, sb, _⟩ => SqL.of (sb _ _ hzw (by simpa using Smz.symm))) ?_ ?_⟩
      · rw [List.take_zero]
        refine ⟨rfl, fun i b y h1 h2 => ?_⟩
        cases i with
        | zero =>
          cases h1; cases h2
          exact hid_some.mpr ⟨by simpa using ne_of hT1 hSm (by intro z; cases z), s5 _ _ hT1⟩
        | succ i => simp at h1
      · rintro j y σ H6 hy ⟨v5, us, rfl, sb6, hSm6, hus⟩
        obtain ⟨t, ht, rfl⟩ := nV_get hy
        have htf : t ∈ (W.2.getD k []).flatten := hperm.mem_iff.mp (List.mem_of_getElem? ht)
        have s6 := s3.trans (kSm sb6)
        have hjl := (List.getElem?_eq_some_iff.mp ht).1
        refine ⟨_, rfl, .inl ⟨rfl, _, SqL.of hSm6⟩, _, rfl, _, rfl, _, rfl, _, rfl, _, rfl, p, a, W, o, k, t, by rw [Int.zero_add]; rfl, hW.same s6, hV, hA.same s6, ho, hk', htf, fun H7 s7 => ⟨(by show 2 ≤ sizeLine; decide), fun T nT => ?_⟩⟩
        have u7 := same_upd (o := .tup [.int t, .int (wW o none W k t)]) nT
        have hSm7 := u7 _ _ (s7 _ _ hSm6)
        have hT7 : (upd H7 T (.tup [.int t, .int (wW o none W k t)])) T = _ := upd_same
        have u67 := s7.trans u7
        generalize upd H7 T (.tup [.int t, .int (wW o none W k t)]) = H8 at u7 hSm7 hT7 u67
        have TS : T ≠ Sm := ne_of hT7 hSm7 (by intro z; cases z)
        refine ⟨Sm, _, _, rfl, rfl, hSm7, ?_, ?_⟩
        · rw [rV_len, hus.1, List.length_cons, List.length_map, List.length_take]; exact small1000 (by omega)
        have sb : SameBut [Sm] H8 (upd H8 Sm (.lst (rV us ++ [.ref T]))) := sameBut_upd (by simp)
        refine ⟨_, us ++ [T], rfl, (sb6.trans (.of u67 _)).trans sb, by rw [upd_same, rV_snoc], ?_⟩
        rw [take_one ht, List.map_append, ← List.cons_append]
        refine AllAt.snoc (hus.mono fun _ _ h => (hid_mono (.of u67 _)).trans (hid_mono sb) _ _ h) (hid_some.mpr ⟨by simpa using TS, ?_⟩)
        rw [upd_ne TS]; exact hT7
      rintro σ H6 ⟨v5, us, rfl, sb6, hSm6, hus'⟩
      rw [nV_len, List.take_length] at hus'
      have hCn := hCa.next hperm
      have hssl : ((none, 0) :: ns.map fun t => (some t, wW o none W k t) : List (Option Nat × Int)).length ≤ 5 := by rw [List.length_cons, List.length_map]; omega
      have hssm : ∀ x ∈ ((none, 0) :: ns.map fun t => (some t, wW o none W k t) : List (Option Nat × Int)), ∀ t, x.1 = some t → t < W.1.length := fun x hx t ht => by
        rcases List.mem_cons.mp hx with e | e
        · rw [e] at ht; cases ht
        · obtain ⟨t', h1, h2⟩ := List.mem_map.mp e
          rw [← h2] at ht; cases ht
          exact hVr.lt t (hperm.mem_iff.mp h1)
      have hus : AllAt (PairO H6) us ((none, 0) :: ns.map fun t => (some t, wW o none W k t)) := hus'.mono fun _ _ h => hid_same _ _ h
      generalize ((none, 0) :: ns.map fun t => (some t, wW o none W k t) : List (Option Nat × Int)) = ss at hCn hssl hssm hus
      have k36 := kSm sb6
      have s6 := s3.trans k36
      -- longer = []
      refine ⟨Nat.zero_le _, fun Lg nLg => ?_⟩
      have hfz6 := k36 _ _ hfz
      have hts6 : AllAt (CandAt H6) ts L := hts.mono fun _ _ h => h.same k36
      have u6 := same_upd (o := .lst []) nLg
      have hLg : (upd H6 Lg (.lst [])) Lg = some (.lst (rV [])) := upd_same
      have hfz7 := u6 _ _ hfz6
      have hSm7 := u6 _ _ hSm6
      have fzL : fz ≠ Lg := ne_of_none hfz6 nLg
      have SmL : Sm ≠ Lg := ne_of_none hSm6 nLg
      have hLgH : H Lg = none := s6.free nLg
      have kL : ∀ {H8 : Hp}, SameBut [Lg] (upd H6 Lg (.lst [])) H8 → Same H6 H8 := fun {H8} sb b u e => sb b u (u6 _ _ e) (by simpa using ne_of_none e nLg)
      refine ⟨_, rfl, fz, rfl, ⟨_, SqL.of hfz7⟩, for_list (K := K) (a := fz) (xs := rV ts) (fun j σ H8 => ∃ (v5 v7 v8 v9 : Option V) (gs : List Addr), σ = [some (.ref p), some (.ref a), some (.ref fz), some (.int (0 + (k : Int))), some (.ref Sm), v5, some (.ref Lg), v7, v8, v9, none] ∧ SameBut [Lg] (upd H6 Lg (.lst [])) H8 ∧ H8 Lg = some (.lst (rV gs)) ∧
          AllAt (CandAt (hid [Lg] H8)) gs (exts W (L.take j) ss))
        ⟨_, _, _, _, [], rfl, fun _ _ e _ => e, hLg, by rw [List.take_zero]; exact AllAt.nil⟩ (fun j σ H8 _ ⟨_, _, _, _, _, _, sb, _⟩ => SqL.of (kL sb _ _ hfz6)) ?_ ?_⟩
      · rintro j y σ H8 hy ⟨v5, v7, v8, v9, gs, rfl, sb8, hLg8, hgs⟩
        obtain ⟨T, hT, rfl⟩ := rV_get hy
        obtain ⟨⟨d, v⟩, hcj, da, hTc, hda⟩ := hts6.at hT
        have k68 := kL sb8
        refine ⟨T, _, rfl, SqT.of (k68 _ _ hTc), rfl, _, _, rfl, _, _, rfl, rfl, ?_⟩
        have hdl := (hCa.to _ (List.mem_of_getElem? hcj)).1.len
        have hdl' : d.length = k := hdl
        refine ⟨_, rfl, Sm, rfl, ⟨_, SqL.of (k68 _ _ hSm6)⟩, for_list (K := K) (a := Sm) (xs := rV us) (fun e σ H9 => ∃ (v5 v9 : Option V) (gs : List Addr), σ = [some (.ref p), some (.ref a), some (.ref fz), some (.int (0 + (k : Int))), some (.ref Sm), v5, some (.ref Lg), some (.ref da), some (.int v), v9, none] ∧ SameBut [Lg] (upd H6 Lg (.lst [])) H9 ∧ H9 Lg = some (.lst (rV gs)) ∧
            AllAt (CandAt (hid [Lg] H9)) gs (exts W (L.take j) ss ++ ext W (d, v) (ss.take e)))
          ⟨_, _, gs, rfl, sb8, hLg8, by rw [List.take_zero, show ext W (d, v) [] = [] from rfl, List.append_nil]; exact hgs⟩ (fun e σ H9 _ ⟨_, _, _, _, sb, _⟩ => SqL.of (kL sb _ _ hSm6)) ?_ ?_⟩
        · rintro e y σ H9 hy ⟨v5, v9, gs, rfl, sb9, hLg9, hgs⟩
          obtain ⟨U, hU, rfl⟩ := rV_get hy
          obtain ⟨⟨x, m⟩, hxe, hUx⟩ := hus.at hU
          have k69 := kL sb9
          have s9 := s6.trans k69
          have hda9 := k69 _ _ hda
          have hxt := hssm _ (List.mem_of_getElem? hxe)
          have hext := ext_snoc W (d, v) (ss.take e) (x, m)
          rw [← take_snoc hxe] at hext
          refine ⟨U, _, rfl, SqT.of (k69 _ _ hUx), rfl, _, _, rfl, _, _, rfl, rfl, ?_⟩
          have hszl : gs.length < 1000 := by
            rw [hgs.1, List.length_append]
            have h1 := exts_len W ss (L.take j)
            have h2 := ext_len W (d, v) (ss.take e)
            have h3 : (L.take j).length ≤ 125 := by
              have h5 : 5 ^ k ≤ 125 := Nat.le_trans (Nat.pow_le_pow_right (by decide) (show k ≤ 3 by omega)) (by decide)
              rw [List.length_take]; omega
            have h4 := Nat.mul_le_mul h3 hssl
            have h6 : (ss.take e).length ≤ 5 := by rw [List.length_take]; omega
            omega
          cases x with
          | none =>
            rw [show okx W (d, v).1 ((none, m) : Option Nat × Int).1 = true from rfl, if_pos rfl] at hext
            refine ⟨_, rfl, rfl, true, rfl, iteT (iteT ?_)⟩
            refine ⟨_, rfl, .inl ⟨rfl, _, SqL.of hLg9⟩, _, rfl, _, rfl, (by show 1 ≤ sizeLine; decide), fun e1 ne1 => ⟨da, e1, _, _, rfl, rfl, same_upd ne1 _ _ hda9, upd_same, ?_, fun nd nnd => ⟨_, rfl, _, rfl, _, _, rfl, rfl, (by show 2 ≤ sizeLine; decide), fun TT nTT => ?_⟩⟩⟩
            · rw [dV_len, hdl']; exact Nat.le_of_lt (small1000 (by show _ + 1 ≤ 1000; omega))
            have w12 := (same_upd (o := .lst [oV (none : Option Nat)]) ne1).trans (same_upd (o := .lst (dV d ++ [oV (none : Option Nat)])) nnd)
            have w3 := same_upd (o := .tup [.ref nd, .int (v + m)]) nTT
            have hndd := w3 _ _ (upd_same (H := upd H9 e1 (.lst [oV (none : Option Nat)])) (a := nd) (o := .lst (dV d ++ [oV (none : Option Nat)])))
            have hLgA := w3 _ _ (w12 _ _ hLg9)
            have w123 := w12.trans w3
            have ndL : nd ≠ Lg := (ne_of_none (same_upd (o := .lst [oV (none : Option Nat)]) ne1 _ _ hLg9) nnd).symm
            refine ⟨Lg, _, _, rfl, rfl, hLgA, by rw [rV_len]; exact small1000 (by omega), ?_⟩
            have TTL : TT ≠ Lg := (ne_of_none (w12 _ _ hLg9) nTT).symm
            refine ⟨_, _, gs ++ [TT], rfl, (sb9.trans (.of w123 _)).trans (sameBut_upd (by simp)), by rw [upd_same, rV_snoc], ?_⟩
            rw [hext, ← List.append_assoc]
            refine AllAt.snoc (hgs.mono fun _ _ h => h.same ((hid_mono (.of w123 _)).trans (hid_mono (sameBut_upd (by simp))))) ⟨nd, hid_some.mpr ⟨by simpa using TTL, ?_⟩, hid_some.mpr ⟨by simpa using ndL, ?_⟩⟩
            · rw [upd_ne TTL, upd_same]
            · rw [upd_ne ndL, hndd]; unfold dV; rw [List.map_append]; rfl
          | some t =>
            have htm := hxt t rfl
            refine ⟨_, rfl, rfl, false, rfl, iteF ?_⟩
            have hat : atI (nV W.1) (t : Int) = some (.int (W.1.getD t 0 : Nat)) := atI_nat (nV_at (by rw [List.getD_eq_getElem?_getD, List.getElem?_eq_getElem htm]; rfl))
            refine ⟨_, rfl, .inl ⟨rfl, _, SqL.of hda9⟩, _, rfl, da, _, _, rfl, rfl, SqL.of hda9, rfl, dV_flat _, _, rfl, p, _, _, _, rfl, rfl, SqT.of (s9 _ _ hp), rfl, _, rfl, c, _, _, _, rfl, rfl, SqL.of (s9 _ _ hc), hat, _, _, rfl, rfl, _, rfl, ite2B (fun ee => ?_) (fun ee => ?_)⟩
            · have e1 : (((dV d).countP fun z => eqV z (.int t) : Nat) : Int) < ((W.1.getD t 0 : Nat) : Int) := of_decide_eq_true ee
              rw [countP_dV] at e1
              rw [show okx W (d, v).1 ((some t, m) : Option Nat × Int).1 = true from decide_eq_true (by show cnt d t < _; omega), if_pos rfl] at hext
              refine ⟨_, rfl, .inl ⟨rfl, _, SqL.of hLg9⟩, _, rfl, _, rfl, (by show 1 ≤ sizeLine; decide), fun e1 ne1 => ⟨da, e1, _, _, rfl, rfl, same_upd ne1 _ _ hda9, upd_same, ?_, fun nd nnd => ⟨_, rfl, _, rfl, _, _, rfl, rfl, (by show 2 ≤ sizeLine; decide), fun TT nTT => ?_⟩⟩⟩
              · rw [dV_len, hdl']; exact Nat.le_of_lt (small1000 (by show _ + 1 ≤ 1000; omega))
              have w12 := (same_upd (o := .lst [oV (some t)]) ne1).trans (same_upd (o := .lst (dV d ++ [oV (some t)])) nnd)
              have w3 := same_upd (o := .tup [.ref nd, .int (v + m)]) nTT
              have hndd := w3 _ _ (upd_same (H := upd H9 e1 (.lst [oV (some t)])) (a := nd) (o := .lst (dV d ++ [oV (some t)])))
              have hLgA := w3 _ _ (w12 _ _ hLg9)
              have w123 := w12.trans w3
              have ndL : nd ≠ Lg := (ne_of_none (same_upd (o := .lst [oV (some t)]) ne1 _ _ hLg9) nnd).symm
              refine ⟨Lg, _, _, rfl, rfl, hLgA, by rw [rV_len]; exact small1000 (by omega), ?_⟩
              have TTL : TT ≠ Lg := (ne_of_none (w12 _ _ hLg9) nTT).symm
              refine ⟨_, _, gs ++ [TT], rfl, (sb9.trans (.of w123 _)).trans (sameBut_upd (by simp)), by rw [upd_same, rV_snoc], ?_⟩
              rw [hext, ← List.append_assoc]
              refine AllAt.snoc (hgs.mono fun _ _ h => h.same ((hid_mono (.of w123 _)).trans (hid_mono (sameBut_upd (by simp))))) ⟨nd, hid_some.mpr ⟨by simpa using TTL, ?_⟩, hid_some.mpr ⟨by simpa using ndL, ?_⟩⟩
              · rw [upd_ne TTL, upd_same]
              · rw [upd_ne ndL, hndd]; unfold dV; rw [List.map_append]; rfl
            · have e1 : ¬ (((dV d).countP fun z => eqV z (.int t) : Nat) : Int) < ((W.1.getD t 0 : Nat) : Int) := of_decide_eq_false ee
              rw [countP_dV] at e1
              rw [show okx W (d, v).1 ((some t, m) : Option Nat × Int).1 = false from decide_eq_false (by show ¬ cnt d t < _; omega), if_neg (by decide), List.append_nil] at hext
              refine ⟨_, _, gs, rfl, sb9, hLg9, ?_⟩
              rw [hext]; exact hgs
        · rintro σ H9 ⟨v5, v9, gs, rfl, sb9, hLg9, hgs⟩
          rw [rV_len, hus.1, List.take_length] at hgs
          refine ⟨_, _, _, _, gs, rfl, sb9, hLg9, ?_⟩
          rw [take_snoc hcj, exts_snoc]; exact hgs
      · rintro σ H8 ⟨v5, v7, v8, v9, gs, rfl, sb8, hLg8, hgs⟩
        rw [rV_len, hts.1, List.take_length] at hgs
        refine ⟨_, rfl, _, _, _, _, _, _, _, Lg, gs, _, rfl, s6.trans (kL sb8), hLg8, hgs.mono fun _ _ h => h.same hid_same, hCn, exts_le W hk4 hLl hssl⟩
    · rintro σ H3 ⟨v3, v4, v5, v6, v7, v8, v9, fz, ts, L, rfl, s3, hfz, hts, hCa, hLl⟩
      have eN : ((rV bs).length : Int).toNat = W.2.length := by rw [rV_len]; omega
      rw [eN] at hCa hLl
      have h625 := pow5 hn4
      have hLne : 0 < L.length := by
        have hz : OkD W W.2.length (List.replicate W.2.length none) := ⟨List.length_replicate, (fun a t h => by rw [got_rep] at h; cases h), fun t => by rw [cnt_rep]; omega⟩
        exact List.length_pos_of_mem (hCa.from_ _ hz)
      -- most
      refine ⟨_, rfl, fz, rfl, ⟨_, SqL.of hfz⟩, fun D nD => ?_⟩
      refine lc_list (K := K) (a := fz) (xs := rV ts) (fun i H4 => Same H3 H4 ∧ H4 D = some (.lst (((L.take i).map (·.2)).map V.int))) ⟨same_upd nD, upd_same⟩ (fun i H4 _ ⟨s4, _⟩ => SqL.of (s4 _ _ hfz)) ?_ ?_
      · rintro i y H4 hy ⟨s4, hD⟩
        obtain ⟨T, hT, rfl⟩ := rV_get hy
        obtain ⟨⟨d, v⟩, hcj, da, hTc, hda⟩ := hts.at hT
        have hil := (List.getElem?_eq_some_iff.mp hcj).1
        refine ⟨T, _, rfl, SqT.of (s4 _ _ hTc), rfl, _, _, rfl, _, _, rfl, rfl, rfl, _, rfl, _, hD, ?_, fun c' u h => ?_, ?_⟩
        · rw [List.length_map, List.length_map, List.length_take]; exact small1000 (by omega)
        · rw [upd_ne (ne_of_none h nD)]; exact s4 _ _ h
        · rw [upd_same, take_snoc hcj, List.map_append, List.map_append]; rfl
      rintro H4 ⟨s4, hD⟩
      rw [rV_len, hts.1, List.take_length] at hD
      refine ⟨D, L.map (·.2), rfl, SqL.of hD, by rw [List.length_map]; exact hLne, fun m hm hmax => ?_⟩
      have hB := hCa.bests hm hmax
      have hfz4 := s4 _ _ hfz
      refine ⟨_, rfl, fz, rfl, ⟨_, SqL.of hfz4⟩, fun z nz => ?_⟩
      refine lc_list (K := K) (a := fz) (xs := rV ts) (fun i H5 => ∃ zs, Same H4 H5 ∧ H5 z = some (.lst (rV zs)) ∧ AllAt (fun b d => hid [z] H5 b = some (.lst (dV d))) zs (((L.take i).filter fun c => decide (c.2 = m)).map (·.1))) ⟨[], same_upd nz, upd_same, by rw [List.take_zero]; exact AllAt.nil⟩ (fun i H5 _ ⟨_, s5, _⟩ => SqL.of (s5 _ _ hfz4)) ?_ ?_
      · rintro i y H5 hy ⟨zs, s5, hz, hzs⟩
        obtain ⟨T, hT, rfl⟩ := rV_get hy
        obtain ⟨⟨d, v⟩, hcj, da, hTc, hda⟩ := hts.at hT
        have hil := (List.getElem?_eq_some_iff.mp hcj).1
        have s35 := s4.trans s5
        have hfil : (L.take (i + 1)).filter (fun c => decide (c.2 = m)) = (L.take i).filter (fun c => decide (c.2 = m)) ++ if decide (v = m) = true then [(d, v)] else [] := by
          rw [take_snoc hcj, List.filter_append, List.filter_cons]
          show _ ++ (if decide (v = m) = true then _ else _) = _
          split <;> simp
        have hlz : zs.length ≤ i := by
          rw [hzs.1, List.length_map]
          refine Nat.le_trans (List.length_filter_le _ _) ?_
          rw [List.length_take]; omega
        refine ⟨T, _, rfl, SqT.of (s35 _ _ hTc), rfl, _, _, rfl, _, _, rfl, rfl, rfl, _, rfl, _, rfl, rfl, _, rfl, ?_⟩
        rw [show decide (V.int v = V.int m) = decide (v = m) from by rw [Bool.eq_iff_iff, decide_eq_true_eq, decide_eq_true_eq]; exact ⟨fun e => by injection e, fun e => by rw [e]⟩]
        refine ite2B (fun e => ?_) (fun e => ?_)
        · rw [if_pos e] at hfil
          have daz : da ≠ z := ne_of_none (s4 _ _ hda) nz
          have sb : SameBut [z] H5 (upd H5 z (.lst (rV zs ++ [.ref da]))) := sameBut_upd (by simp)
          refine ⟨_, rfl, _, hz, ?_, zs ++ [da], fun c' u h => ?_, by rw [upd_same, rV_snoc], ?_⟩
          · rw [rV_len]; exact small1000 (by omega)
          · rw [upd_ne (ne_of_none h nz)]; exact s5 _ _ h
          · rw [hfil, List.map_append]
            refine AllAt.snoc (hzs.mono fun _ _ h => hid_mono sb _ _ h) (hid_some.mpr ⟨by simpa using daz, ?_⟩)
            rw [upd_ne daz]; exact s35 _ _ hda
        · rw [if_neg (by rw [e]; decide), List.append_nil] at hfil
          refine ⟨zs, s5, hz, ?_⟩
          rw [hfil]; exact hzs
      · rintro H5 ⟨zs, s5, hz, hzs⟩
        rw [rV_len, hts.1, List.take_length] at hzs
        refine q H5 z zs _ (s3.trans (s4.trans s5)) hz (hzs.mono fun _ _ h => (hid_some.mp h).2) hB ?_
        rw [List.length_map]
        refine Nat.le_trans (List.length_filter_le _ _) ?_
        omega
end
end WD

set_option Elab.async false
set_option linter.all false
set_option maxRecDepth 100000
set_option maxHeartbeats 1000000
namespace WD
open PySem PySem.Spec PyProof.Rows L2
theorem behind_le {W : Wish} (g : Chg) (h1 : W.1.length ≤ 3) (h2 : W.2.length ≤ 3) : (behind W g).1.length ≤ 4 ∧ (behind W g).2.length ≤ 4 := by
  cases g with
  | list a rs => exact ⟨by show W.1.length ≤ 4; omega, by show (W.2.set a rs).length ≤ 4; rw [List.length_set]; omega⟩
  | copies t c => exact ⟨by show (W.1.set t c).length ≤ 4; rw [List.length_set]; omega, by show W.2.length ≤ 4; omega⟩
  | come rs => exact ⟨by show W.1.length ≤ 4; omega, by show (W.2 ++ [rs]).length ≤ 4; simp; omega⟩
  | go a => exact ⟨by show W.1.length ≤ 4; omega, by show (W.2.eraseIdx a).length ≤ 4; have := List.length_eraseIdx_le W.2 a; omega⟩
  | thing c => exact ⟨by show (W.1 ++ [c]).length ≤ 4; simp; omega, by show W.2.length ≤ 4; omega⟩
theorem two {ds : List Nat} (h : ds.length = 2) : ∃ a b, ds = [a, b] := by
  match ds, h with
  | [a, b], _ => exact ⟨a, b, rfl⟩
theorem ord3 {x : Nat} (h : x < 3) : ∃ o : Str, atI [V.str ("firsts" : Str), V.str ("full" : Str), V.str ("lasts" : Str)] (x : Int) = some (.str o) ∧ Ord o := by
  match x, h with
  | 0, _ => exact ⟨_, rfl, .inl rfl⟩
  | 1, _ => exact ⟨_, rfl, .inr (.inl rfl)⟩
  | 2, _ => exact ⟨_, rfl, .inr (.inr rfl)⟩
theorem st_eq {t : TS} {D : Ends} {σ σ' : L2.St} {H : Hp} (e : σ = σ') (h : t D σ' H) : t D σ H := by rw [e]; exact h
section
variable {P : Program} {w : World} {K : PySem.W.Frag} {mg : Str → Option Value} {base : Heap} {cS cR cP : Addr}
def sp_law_block (K : PySem.W.Frag) (cS cR cP : Addr) : Sp := fun vs H Q _ => ∃ (b : Addr) (cs : List Int) (k : Int), vs = [.ref b, .int k] ∧ 0 ≤ k ∧ SqL K H b (cs.map V.int) ∧ ∀ H', Same H H' → Q (.bl true) H'
abbrev nm_law_block : List Str := ["_law_script", "_law_at", "_law_wishes_here", "_law_dealing", "_law_digits", "_law_order", "_law_change_here", "_law_behind_here", "_law_found", "_law_moved_here", "_law_paper", "_law_due", "_law_old", "_law_best", "_law_other"]
theorem sc_law_block : FnScope nm_law_block ["_law_script", "_law_at"] (defScope s_law_block) := ⟨rfl, rfl, rfl, by decide +kernel, rfl, by decide +kernel, by decide +kernel⟩
theorem c_law_block (T : Tx K mg cS cR cP) : C8.Cal P w K mg base 13 "_law_block" (sp_law_block K cS cR cP) [] := by
  refine cal_of T.d_law_block sc_law_block (fun _ _ _ _ _ _ us hl => match us, hl with | [_, _], _ => rfl) (fun vs H Q E h => ?_) (fun f cdv A outer s H vs Q E hr h => ?_)
  · obtain ⟨b, cs, k, rfl, hk0, hb, q⟩ := h
    rfl
  · obtain ⟨b, cs, k, rfl, hk0, hb, q⟩ := h
    have hu := hu_of hr
    refine ⟨_, 
    (pss_cons (ps_set (i := 2) sc_law_block.nd rfl (by first | exact Or.inl rfl | exact Or.inr rfl) (C8.pe_c (c_law_wishes T) hr (by decide) rfl (pa_cons (pv 0) (pa_cons (pv 1) (pa_cons pe_int (pa_cons pe_int (pa_cons pe_int pa_nil)))))))
    (pss_cons (ps_set (i := 3) sc_law_block.nd rfl (by first | exact Or.inl rfl | exact Or.inr rfl) (C8.pe_c (c_law_dealt T) hr (by decide) rfl (pa_cons (pv 2) (pa_cons (C8.pe_c (c_law_cell_at T) hr (by decide) rfl (pa_cons (pv 0) (pa_cons (pe_op op_add (pv 1) pe_int) pa_nil))) (pa_cons (pe_op op_add (pv 1) pe_int) pa_nil)))))
    (pss_cons (ps_set (i := 4) sc_law_block.nd rfl (by first | exact Or.inl rfl | exact Or.inr rfl) (C8.pe_c (c_law_numbers T) hr (by decide) rfl (pa_cons (C8.pe_c (c_law_cell_at T) hr (by decide) rfl (pa_cons (pv 0) (pa_cons (pe_op op_add (pv 1) pe_int) pa_nil))) (pa_cons (pe_op op_add (pv 1) pe_int) (pa_cons (pe_lst (pa_cons pe_int (pa_cons pe_int pa_nil))) pa_nil)))))
    (pss_cons (ps_set (i := 5) sc_law_block.nd rfl (by first | exact Or.inl rfl | exact Or.inr rfl) (pe_ix ix_list (pe_lst (pa_cons pe_str (pa_cons pe_str (pa_cons pe_str pa_nil)))) (pe_ix ix_list (pv 4) pe_int (fun _ _ => rfl)) (fun _ _ => rfl)))
    (pss_cons (ps_set (i := 6) sc_law_block.nd rfl (by first | exact Or.inl rfl | exact Or.inr rfl) (C8.pe_c (c_law_change T) hr (by decide) rfl (pa_cons (pv 2) (pa_cons (C8.pe_c (c_law_cell_at T) hr (by decide) rfl (pa_cons (pv 0) (pa_cons (pe_op op_add (pv 1) pe_int) pa_nil))) (pa_cons (pe_op op_add (pv 1) pe_int) pa_nil)))))
    (pss_cons (ps_if (pt_not (pt_val (C8.pe_c (c_law_good T) hr (by decide) rfl (pa_cons (pv 2) (pa_cons (pv 6) pa_nil))))) 
      (pss_one (ps_set (i := 6) sc_law_block.nd rfl (by first | exact Or.inl rfl | exact Or.inr rfl) (pe_tup (pa_cons pe_str (pa_cons pe_int (pa_cons (pe_ix ix_list (pv 4) pe_int (fun _ _ => rfl)) pa_nil)))))) pss_nil)
    (pss_cons (ps_asg (C8.pe_c (c_mended T) hr (by decide) rfl (pa_cons (pv 2) (pa_cons (pv 6) (pa_cons (pv 5) (pa_cons (pv 3) pa_nil))))) (pg_tup rfl (pgs_cons (pg_name (i := 7) sc_law_block.nd rfl (by first | exact Or.inl rfl | exact Or.inr rfl)) (pgs_cons (pg_name (i := 8) sc_law_block.nd rfl (by first | exact Or.inl rfl | exact Or.inr rfl)) (pgs_cons (pg_name (i := 9) sc_law_block.nd rfl (by first | exact Or.inl rfl | exact Or.inr rfl)) (pgs_cons (pg_name (i := 10) sc_law_block.nd rfl (by first | exact Or.inl rfl | exact Or.inr rfl)) pgs_nil))))))
    (pss_cons (ps_set (i := 11) sc_law_block.nd rfl (by first | exact Or.inl rfl | exact Or.inr rfl) (C8.pe_c (c_law_behind T) hr (by decide) rfl (pa_cons (pv 2) (pa_cons (pv 6) pa_nil))))
    (pss_cons (ps_set (i := 12) sc_law_block.nd rfl (by first | exact Or.inl rfl | exact Or.inr rfl) (C8.pe_c (c_law_carried T) hr (by decide) rfl (pa_cons (pv 6) (pa_cons (pv 3) pa_nil))))
    (pss_cons (ps_if (PW.pt (pw_or (pt_cmpR (op_neD hr.units) (pv 7) (pv 11) (nomark _)) (pw_or1 (pt_cmpR (op_neD hr.units) (pv 9) (C8.pe_c (c_law_moved T) hr (by decide) rfl (pa_cons (pv 12) (pa_cons (pv 8) pa_nil))) (nomark _))))) 
      (pss_one (ps_ret pe_bl)) pss_nil)
    (pss_cons (ps_set (i := 13) sc_law_block.nd rfl (by first | exact Or.inl rfl | exact Or.inr rfl) (C8.pe_c (c_law_bests T) hr (by decide) rfl (pa_cons (pv 11) (pa_cons (pe_tup (pa_cons (pv 5) (pa_cons pe_non (pa_cons (pe_lst pa_nil) pa_nil)))) pa_nil))))
    (pss_cons (ps_if (pt_cmpR (op_notInD (hu65 hr)) (pv 8) (pv 13) (by rfl)) 
      (pss_one (ps_ret pe_bl)) pss_nil)
    (pss_one (ps_ret (pe_cmpR op_eq (pe_callB call_len_seq (by rfl) T.b_len bo_len (pa_cons (pv 9) pa_nil)) (pe_callB (cr_min rfl) (by rfl) T.b_min bo_min (pa_cons (pe_lc (own := [("_law_other", 14)]) (g := gName 14) (tt := tYes) rfl sc_law_block.nd (pi_list (pv 13)) (blkOk_by (own := [("_law_other", 14)]) (N := nm_law_block) (sc := defScope s_law_block) (by decide +kernel)) (fun _ _ _ _ _ => (pg_name (i := 14) sc_law_block.nd rfl (by first | exact Or.inl rfl | exact Or.inr rfl))) (fun _ _ _ _ _ => pts_nil) (fun _ _ _ _ _ => (pe_callB (r := rLenS K) call_len_seq (by rfl) T.b_len bo_len (pa_cons (C8.pe_c (c_law_moved T) hr (by decide) rfl (pa_cons (pv 12) (pa_cons (pv 14) pa_nil))) pa_nil)))) pa_nil)) (nomark _)))))))))))))))), ?_⟩
    obtain ⟨k, rfl⟩ := Int.eq_ofNat_of_zero_le hk0
    refine ⟨_, rfl, _, rfl, b, cs, k, rfl, hb, fun H1 p W s1 hW1 hV hm hn => ?_⟩
    -- dealing
    refine ⟨_, rfl, _, rfl, _, rfl, _, _, rfl, rfl, b, cs, _, rfl, by omega, sqlSame hb s1, fun i1 => ⟨_, rfl, _, _, rfl, rfl, p, W, i1, _, rfl, hW1, hV, fun H2 D d s2 _ hD hdl hdt => ?_⟩⟩
    have s12 := s1.trans s2
    show tSeq _ _ _ _ _
    refine st_eq (σ' := [some (.ref b), some (.int (k : Nat)), some (.ref p), some (.ref D), none, none, none, none, none, none, none, none, none, none, none]) rfl ?_
    -- digits
    refine ⟨_, rfl, _, rfl, _, _, rfl, rfl, b, cs, _, rfl, by omega, sqlSame hb s12, fun i2 => ⟨_, rfl, _, _, rfl, rfl, (by show 2 ≤ sizeLine; decide), fun a1 na1 => ?_⟩⟩
    have u1 := same_upd (o := .lst [.int 3, .int 8]) na1
    refine ⟨i2, _, a1, [3, 8], rfl, upd_same, by decide, by decide, fun H3 zd ds s3' _ hzd hds hdo => ?_⟩
    have s3 := u1.trans s3'
    have g0 : ds.getD 0 0 < 3 := hdo.lt 0 (by rw [hds]; decide)
    have g1 : ds.getD 1 0 < 8 := hdo.lt 1 (by rw [hds]; decide)
    obtain ⟨x0, x1, rfl⟩ := two hds
    have g0' : x0 < 3 := g0
    have g1' : x1 < 8 := g1
    have e0 : atI (nV [x0, x1]) 0 = some (.int (x0 : Nat)) := rfl
    have e1 : atI (nV [x0, x1]) 1 = some (.int (x1 : Nat)) := rfl
    show tSeq _ _ _ _ _
    refine st_eq (σ' := [some (.ref b), some (.int (k : Nat)), some (.ref p), some (.ref D), some (.ref zd), none, none, none, none, none, none, none, none, none, none]) rfl ?_
    -- order
    obtain ⟨o, hoa, ho⟩ := ord3 g0'
    refine ⟨(by show 3 ≤ sizeLine; decide), fun a2 na2 => ?_⟩
    have u2 := same_upd (o := .lst [.str ("firsts" : Str), .str ("full" : Str), .str ("lasts" : Str)]) na2
    refine ⟨_, rfl, zd, _, _, _, rfl, rfl, SqL.of (u2 _ _ hzd), e0, a2, _, _, _, rfl, rfl, SqL.of upd_same, hoa, ?_⟩
    have hzd4 := u2 _ _ hzd
    generalize upd H3 a2 (.lst [.str ("firsts" : Str), .str ("full" : Str), .str ("lasts" : Str)]) = H4 at u2 hzd4
    have s24 := s3.trans u2
    have s14 := s2.trans s24
    show tSeq _ _ _ _ _
    refine st_eq (σ' := [some (.ref b), some (.int (k : Nat)), some (.ref p), some (.ref D), some (.ref zd), some (.str o), none, none, none, none, none, none, none, none, none]) rfl ?_
    -- change
    refine ⟨_, rfl, _, rfl, _, rfl, _, _, rfl, rfl, b, cs, _, rfl, by omega, sqlSame hb (s1.trans s14), fun i3 => ⟨_, rfl, _, _, rfl, rfl, p, W, i3, _, rfl, hW1.same s14, hV, fun H5 ch g s5 hC5 hP => ?_⟩⟩
    have s15 := s14.trans s5
    show tSeq _ _ _ _ _
    refine st_eq (σ' := [some (.ref b), some (.int (k : Nat)), some (.ref p), some (.ref D), some (.ref zd), some (.str o), some (.ref ch), none, none, none, none, none, none, none, none]) rfl ?_
    -- good
    refine ⟨_, rfl, _, rfl, p, ch, W, g, rfl, hW1.same s15, hV, hC5, hP, fun H6 gb s6 hgb => ⟨gb, rfl, ?_⟩⟩
    have s16 := s15.trans s6
    have hzd6 := s6 _ _ (s5 _ _ hzd4)
    have hW := hW1
    cases gb with
    | true =>
      refine iteBF (by rfl) ?_
      have hG := hgb rfl
      have hC := hC5.same s6
      have s7 := s16
      have t7 := s24.trans (s5.trans s6)
      have q := fun H' (z : Same H1 H') => q H' (s1.trans z)
      show tSeq _ _ _ _ _
      refine st_eq (σ' := [some (.ref b), some (.int (k : Nat)), some (.ref p), some (.ref D), some (.ref zd), some (.str o), some (.ref ch), none, none, none, none, none, none, none, none]) rfl ?_
      -- mended
      refine ⟨_, rfl, _, rfl, _, rfl, _, rfl, p, ch, D, W, g, o, d, rfl, hW.same s7, hV, hC, hG, ho, t7 _ _ hD, hdl, hdt, fun H8 E zb zf zm v rows f u pp s8' hE hzb hzf hzm hRO hCe => ⟨E, _, rfl, SqT.of hE, rfl, _, _, rfl, _, _, rfl, _, _, rfl, _, _, rfl, rfl, ?_⟩⟩
      have hVb := hG.vw hV
      have hob := hG.old hdl hdt
      have s8 := s7.trans s8'
      show tSeq _ _ _ _ _
      refine st_eq (σ' := [some (.ref b), some (.int (k : Nat)), some (.ref p), some (.ref D), some (.ref zd), some (.str o), some (.ref ch), some (.ref zb), some (.ref zf), some (.ref zm), some v, none, none, none, none]) rfl ?_
      -- due, old
      refine ⟨_, rfl, _, rfl, p, ch, W, g, rfl, hW.same s8, hV, hC.same s8', hG, fun H9 zu s9 hzu => ?_⟩
      refine ⟨_, rfl, _, rfl, ch, D, W, g, d, rfl, (hC.same s8').same s9, hV, hG, s9 _ _ (s8' _ _ (t7 _ _ hD)), hdl, fun H10 zo s10 _ hzo => ?_⟩
      have s8A := s9.trans s10
      have hbl4 := behind_le g hm hn
      have hfl : f.length = (carry g d).length := by rw [hCe.feas.len, hRO.len]; exact hob.1.symm
      have hol := hob.1
      have hl7 := hVb.l7
      show tSeq _ _ _ _ _
      refine st_eq (σ' := [some (.ref b), some (.int (k : Nat)), some (.ref p), some (.ref D), some (.ref zd), some (.str o), some (.ref ch), some (.ref zb), some (.ref zf), some (.ref zm), some v, some (.ref zu), some (.ref zo), none, none]) rfl ?_
      -- behind, moved
      refine ⟨_, rfl, _, rfl, wishD (behind W g), wishD (behind W g), wish_dp (hzb.same s8A), wish_dp (hzu.same s10), wish_shaped _, wish_shaped _, _, rfl, iteBF (by rw [wish_eqv]; rfl) ?_⟩
      refine ⟨_, rfl, _, rfl, _, rfl, zo, zf, carry g d, f, rfl, hzo, s8A _ _ hzf, hfl, by omega, fun H11 zm2 s11 _ hzm2 => ?_⟩
      refine ⟨natsD _, natsD _, row_dp (s11 _ _ (s8A _ _ hzm)), row_dp hzm2, nats_shaped _, nats_shaped _, _, rfl, iteBF (by rw [nats_eqv, decide_eq_true rfl]; rfl) ?_⟩
      -- bests
      refine ⟨_, rfl, _, rfl, Nat.zero_le _, fun t0 nt0 => ⟨(by show 3 ≤ sizeLine; decide), fun E0 nE0 => ?_⟩⟩
      have r1 := (same_upd (o := .lst []) nt0).trans (same_upd (o := .tup [.str o, .non, .ref t0]) nE0)
      have s9r := s10.trans (s11.trans r1)
      refine ⟨zu, E0, behind W g, o, rfl, hzu.same s9r, hVb, ⟨.non, t0, upd_same, rfl, same_upd nE0 _ _ upd_same⟩, ho, hbl4.1, hbl4.2, fun H12 z zs ds s12 hz hzs hB h625 => ?_⟩
      have s8F := s8A.trans (s11.trans (r1.trans s12))
      obtain ⟨hF, hFb, hFm⟩ := best_found hRO hol hCe
      have hfds : f ∈ ds := hB.from_ f hF hFb
      show tSeq _ _ _ _ _
      refine st_eq (σ' := [some (.ref b), some (.int (k : Nat)), some (.ref p), some (.ref D), some (.ref zd), some (.str o), some (.ref ch), some (.ref zb), some (.ref zf), some (.ref zm), some v, some (.ref zu), some (.ref zo), some (.ref z), none]) rfl ?_
      -- found in best
      refine ⟨_, rfl, _, rfl, dealD f, ds.map dealD, deal_dp (s8F _ _ hzf), .lst (SqL.of hz) (dpAll_at (fun a x h => deal_dp h) zs ds hzs), deal_shaped _, deals_shaped _, _, rfl, iteBF ?_ ?_⟩
      · have : ((ds.map dealD).any fun z => PyData.eqv z (dealD f)) = true := by
          rw [List.any_eq_true]
          exact ⟨dealD f, List.mem_map.mpr ⟨f, hfds, rfl⟩, by rw [deal_eqv]; exact decide_eq_true rfl⟩
        rw [this]; rfl
      -- the fewest
      have hzo12 := s12 _ _ (r1 _ _ (s11 _ _ hzo))
      refine ⟨_, rfl, zm, _, rfl, .inl (SqL.of (s8F _ _ hzm)), _, rfl, z, rfl, ⟨_, SqL.of hz⟩, fun DD nDD => ?_⟩
      refine lc_list (K := K) (a := z) (xs := rV zs) (fun i H13 => Same H12 H13 ∧ H13 DD = some (.lst (((ds.take i).map fun e => ((mvd (carry g d) e (carry g d).length).length : Int)).map V.int))) ⟨same_upd nDD, upd_same⟩ (fun i H13 _ ⟨s13, _⟩ => SqL.of (s13 _ _ hz)) ?_ ?_
      · rintro i y H13 hy ⟨s13, hDD⟩
        obtain ⟨a, ha, rfl⟩ := rV_get hy
        obtain ⟨e, he, hae⟩ := hzs.at ha
        have hil := (List.getElem?_eq_some_iff.mp he).1
        have hel := (hB.to e (List.mem_of_getElem? he)).1.len
        refine ⟨rfl, _, rfl, _, rfl, zo, a, carry g d, e, rfl, s13 _ _ hzo12, s13 _ _ hae, by omega, by omega, fun H14 z2 s14 _ hz2 => ?_⟩
        refine ⟨z2, _, rfl, .inl (SqL.of hz2), _, s14 _ _ hDD, ?_, fun c' u' h => ?_, ?_⟩
        · rw [List.length_map, List.length_map, List.length_take]; exact small1000 (by omega)
        · rw [upd_ne (ne_of_none h nDD)]; exact s14 _ _ (s13 _ _ h)
        · rw [upd_same, take_snoc he, List.map_append, List.map_append, nV_len]; rfl
      rintro H13 ⟨s13, hDD⟩
      rw [rV_len, hzs.1, List.take_length] at hDD
      refine ⟨DD, _, rfl, SqL.of hDD, by rw [List.length_map]; exact List.length_pos_of_mem hfds, fun m hm' hmin => ⟨rfl, ?_⟩⟩
      have e1 : ((mvd (carry g d) f (carry g d).length).length : Int) = m := by
        have h1 := hmin _ (List.mem_map.mpr ⟨f, hfds, rfl⟩)
        obtain ⟨e, he, e2⟩ := List.mem_map.mp hm'
        obtain ⟨he1, he2⟩ := hB.to e he
        have h2 := hFm e he1 (he2 f hF)
        omega
      refine vb (c := true) (decide_eq_true ?_) (q H13 (s8.trans (s8F.trans s13)))
      rw [nV_len, e1]
    | false =>
      refine iteB (by rfl) ?_
      refine ⟨_, rfl, zd, _, _, _, rfl, rfl, SqL.of hzd6, e1, (by show 3 ≤ sizeLine; decide), fun ch nch => ?_⟩
      have u7 := same_upd (o := .tup [.str ("copies" : Str), .int 0, .int (x1 : Nat)]) nch
      have hC : ChgAt (upd H6 ch (.tup [.str ("copies" : Str), .int 0, .int (x1 : Nat)])) ch (.copies 0 x1) := upd_same
      have hG : Good W (.copies 0 x1) := ⟨hV.c1, by omega⟩
      generalize upd H6 ch (.tup [.str ("copies" : Str), .int 0, .int (x1 : Nat)]) = H7 at u7 hC
      generalize Chg.copies 0 x1 = g at hC hG
      have s7 := s16.trans u7
      have t7 := s24.trans (s5.trans (s6.trans u7))
      have q := fun H' (z : Same H1 H') => q H' (s1.trans z)
      show tSeq _ _ _ _ _
      refine st_eq (σ' := [some (.ref b), some (.int (k : Nat)), some (.ref p), some (.ref D), some (.ref zd), some (.str o), some (.ref ch), none, none, none, none, none, none, none, none]) rfl ?_
      -- mended
      refine ⟨_, rfl, _, rfl, _, rfl, _, rfl, p, ch, D, W, g, o, d, rfl, hW.same s7, hV, hC, hG, ho, t7 _ _ hD, hdl, hdt, fun H8 E zb zf zm v rows f u pp s8' hE hzb hzf hzm hRO hCe => ⟨E, _, rfl, SqT.of hE, rfl, _, _, rfl, _, _, rfl, _, _, rfl, _, _, rfl, rfl, ?_⟩⟩
      have hVb := hG.vw hV
      have hob := hG.old hdl hdt
      have s8 := s7.trans s8'
      show tSeq _ _ _ _ _
      refine st_eq (σ' := [some (.ref b), some (.int (k : Nat)), some (.ref p), some (.ref D), some (.ref zd), some (.str o), some (.ref ch), some (.ref zb), some (.ref zf), some (.ref zm), some v, none, none, none, none]) rfl ?_
      -- due, old
      refine ⟨_, rfl, _, rfl, p, ch, W, g, rfl, hW.same s8, hV, hC.same s8', hG, fun H9 zu s9 hzu => ?_⟩
      refine ⟨_, rfl, _, rfl, ch, D, W, g, d, rfl, (hC.same s8').same s9, hV, hG, s9 _ _ (s8' _ _ (t7 _ _ hD)), hdl, fun H10 zo s10 _ hzo => ?_⟩
      have s8A := s9.trans s10
      have hbl4 := behind_le g hm hn
      have hfl : f.length = (carry g d).length := by rw [hCe.feas.len, hRO.len]; exact hob.1.symm
      have hol := hob.1
      have hl7 := hVb.l7
      show tSeq _ _ _ _ _
      refine st_eq (σ' := [some (.ref b), some (.int (k : Nat)), some (.ref p), some (.ref D), some (.ref zd), some (.str o), some (.ref ch), some (.ref zb), some (.ref zf), some (.ref zm), some v, some (.ref zu), some (.ref zo), none, none]) rfl ?_
      -- behind, moved
      refine ⟨_, rfl, _, rfl, wishD (behind W g), wishD (behind W g), wish_dp (hzb.same s8A), wish_dp (hzu.same s10), wish_shaped _, wish_shaped _, _, rfl, iteBF (by rw [wish_eqv]; rfl) ?_⟩
      refine ⟨_, rfl, _, rfl, _, rfl, zo, zf, carry g d, f, rfl, hzo, s8A _ _ hzf, hfl, by omega, fun H11 zm2 s11 _ hzm2 => ?_⟩
      refine ⟨natsD _, natsD _, row_dp (s11 _ _ (s8A _ _ hzm)), row_dp hzm2, nats_shaped _, nats_shaped _, _, rfl, iteBF (by rw [nats_eqv, decide_eq_true rfl]; rfl) ?_⟩
      -- bests
      refine ⟨_, rfl, _, rfl, Nat.zero_le _, fun t0 nt0 => ⟨(by show 3 ≤ sizeLine; decide), fun E0 nE0 => ?_⟩⟩
      have r1 := (same_upd (o := .lst []) nt0).trans (same_upd (o := .tup [.str o, .non, .ref t0]) nE0)
      have s9r := s10.trans (s11.trans r1)
      refine ⟨zu, E0, behind W g, o, rfl, hzu.same s9r, hVb, ⟨.non, t0, upd_same, rfl, same_upd nE0 _ _ upd_same⟩, ho, hbl4.1, hbl4.2, fun H12 z zs ds s12 hz hzs hB h625 => ?_⟩
      have s8F := s8A.trans (s11.trans (r1.trans s12))
      obtain ⟨hF, hFb, hFm⟩ := best_found hRO hol hCe
      have hfds : f ∈ ds := hB.from_ f hF hFb
      show tSeq _ _ _ _ _
      refine st_eq (σ' := [some (.ref b), some (.int (k : Nat)), some (.ref p), some (.ref D), some (.ref zd), some (.str o), some (.ref ch), some (.ref zb), some (.ref zf), some (.ref zm), some v, some (.ref zu), some (.ref zo), some (.ref z), none]) rfl ?_
      -- found in best
      refine ⟨_, rfl, _, rfl, dealD f, ds.map dealD, deal_dp (s8F _ _ hzf), .lst (SqL.of hz) (dpAll_at (fun a x h => deal_dp h) zs ds hzs), deal_shaped _, deals_shaped _, _, rfl, iteBF ?_ ?_⟩
      · have : ((ds.map dealD).any fun z => PyData.eqv z (dealD f)) = true := by
          rw [List.any_eq_true]
          exact ⟨dealD f, List.mem_map.mpr ⟨f, hfds, rfl⟩, by rw [deal_eqv]; exact decide_eq_true rfl⟩
        rw [this]; rfl
      -- the fewest
      have hzo12 := s12 _ _ (r1 _ _ (s11 _ _ hzo))
      refine ⟨_, rfl, zm, _, rfl, .inl (SqL.of (s8F _ _ hzm)), _, rfl, z, rfl, ⟨_, SqL.of hz⟩, fun DD nDD => ?_⟩
      refine lc_list (K := K) (a := z) (xs := rV zs) (fun i H13 => Same H12 H13 ∧ H13 DD = some (.lst (((ds.take i).map fun e => ((mvd (carry g d) e (carry g d).length).length : Int)).map V.int))) ⟨same_upd nDD, upd_same⟩ (fun i H13 _ ⟨s13, _⟩ => SqL.of (s13 _ _ hz)) ?_ ?_
      · rintro i y H13 hy ⟨s13, hDD⟩
        obtain ⟨a, ha, rfl⟩ := rV_get hy
        obtain ⟨e, he, hae⟩ := hzs.at ha
        have hil := (List.getElem?_eq_some_iff.mp he).1
        have hel := (hB.to e (List.mem_of_getElem? he)).1.len
        refine ⟨rfl, _, rfl, _, rfl, zo, a, carry g d, e, rfl, s13 _ _ hzo12, s13 _ _ hae, by omega, by omega, fun H14 z2 s14 _ hz2 => ?_⟩
        refine ⟨z2, _, rfl, .inl (SqL.of hz2), _, s14 _ _ hDD, ?_, fun c' u' h => ?_, ?_⟩
        · rw [List.length_map, List.length_map, List.length_take]; exact small1000 (by omega)
        · rw [upd_ne (ne_of_none h nDD)]; exact s14 _ _ (s13 _ _ h)
        · rw [upd_same, take_snoc he, List.map_append, List.map_append, nV_len]; rfl
      rintro H13 ⟨s13, hDD⟩
      rw [rV_len, hzs.1, List.take_length] at hDD
      refine ⟨DD, _, rfl, SqL.of hDD, by rw [List.length_map]; exact List.length_pos_of_mem hfds, fun m hm' hmin => ⟨rfl, ?_⟩⟩
      have e1 : ((mvd (carry g d) f (carry g d).length).length : Int) = m := by
        have h1 := hmin _ (List.mem_map.mpr ⟨f, hfds, rfl⟩)
        obtain ⟨e, he, e2⟩ := List.mem_map.mp hm'
        obtain ⟨he1, he2⟩ := hB.to e he
        have h2 := hFm e he1 (he2 f hF)
        omega
      refine vb (c := true) (decide_eq_true ?_) (q H13 (s8.trans (s8F.trans s13)))
      rw [nV_len, e1]
end
end WD

set_option Elab.async false
set_option linter.all false
set_option maxRecDepth 100000
set_option maxHeartbeats 1000000
namespace WD
open PySem PySem.Spec PyProof.Rows L2
theorem small_j {J : Int} (h1 : 0 ≤ J) (h2 : J ≤ 63) : Builtin.Range.small 0 J 10 = true := by
  have : ∀ y : _root_.Fin 64, Builtin.Range.small 0 ((y.val : Nat) : Int) 10 = true := by decide +kernel
  have h := this ⟨J.toNat, by omega⟩
  rw [show ((J.toNat : Nat) : Int) = J by omega] at h
  exact h
theorem size_j {J : Int} (h1 : 0 ≤ J) (h2 : J ≤ 63) : Builtin.Range.rangeSize 0 J 10 = ((Builtin.Range.rangeSize 0 J 10).toNat : Int) := by
  have : ∀ y : _root_.Fin 64, 0 ≤ Builtin.Range.rangeSize 0 ((y.val : Nat) : Int) 10 := by decide +kernel
  have h := this ⟨J.toNat, by omega⟩
  rw [show ((J.toNat : Nat) : Int) = J by omega] at h
  omega
section
variable {P : Program} {w : World} {K : PySem.W.Frag} {mg : Str → Option Value} {base : Heap} {cS cR cP : Addr}
def sp_law (K : PySem.W.Frag) (cS cR cP : Addr) : Sp := fun vs H Q _ => ∃ (b : Addr) (cs : List Int), vs = [.ref b] ∧ SqL K H b (cs.map V.int) ∧ ∀ H', Q (.bl true) H'
abbrev nm_law : List Str := ["_law_script", "_law_at"]
theorem sc_law : FnScope nm_law ["_law_script"] (defScope s_law) := ⟨rfl, rfl, rfl, by decide +kernel, rfl, by decide +kernel, by decide +kernel⟩
theorem b_law (T : Tx K mg cS cR cP) : BodyOk P w K mg base 13 nm_law "law" s_law (sp_law K cS cR cP) := by
    intro f cdv A outer s H vs Q E hr h
    obtain ⟨b, cs, rfl, hb, q⟩ := h
    have hu := hu_of hr
    refine ⟨_, 
    (pss_cons (ps_for PassesOwn.never rfl (pi_range3 rfl T.b_range (pa_cons pe_int (pa_cons (pe_callB (call_max2 rfl) (by rfl) T.b_max bo_max (pa_cons pe_int (pa_cons (pe_callB (call_min2 rfl) (by rfl) T.b_min bo_min (pa_cons pe_int (pa_cons (pe_callB call_len_seq (by rfl) T.b_len bo_len (pa_cons (pv 0) pa_nil)) pa_nil))) pa_nil))) (pa_cons pe_int pa_nil)))) (pg_name (i := 1) sc_law.nd rfl (by first | exact Or.inl rfl | exact Or.inr rfl)) 
      (pss_one (ps_if (pt_not (pt_val (C8.pe_c (c_law_block T) hr (by decide) rfl (pa_cons (pv 0) (pa_cons (pv 1) pa_nil))))) 
        (pss_one (ps_ret pe_bl)) pss_nil)))
    (pss_one (ps_ret pe_bl))), ?_⟩
    refine ⟨_, rfl, b, _, rfl, .inl hb, _, _, rfl, _, _, rfl, ?_⟩
    have hJ : 0 ≤ (if (if ((cs.map V.int).length : Int) < 63 then ((cs.map V.int).length : Int) else 63) > 1 then (if ((cs.map V.int).length : Int) < 63 then ((cs.map V.int).length : Int) else 63) else 1) ∧ (if (if ((cs.map V.int).length : Int) < 63 then ((cs.map V.int).length : Int) else 63) > 1 then (if ((cs.map V.int).length : Int) < 63 then ((cs.map V.int).length : Int) else 63) else 1) ≤ 63 := by
      split
      · split <;> omega
      · omega
    refine ⟨0, _, 10, _, rfl, ⟨by decide, by decide, small_j hJ.1 hJ.2, size_j hJ.1 hJ.2⟩, for_rangeC (Pv := fun i σ H2 => ∃ v1, σ = [some (.ref b), v1] ∧ Same H H2) ⟨none, rfl, fun _ _ e => e⟩ ?_ ?_⟩
    · rintro i σ H2 hi ⟨v1, rfl, s2⟩
      refine ⟨_, rfl, _, rfl, b, cs, _, rfl, by omega, sqlSame hb s2, fun H3 s3 => ⟨true, rfl, iteBF rfl ⟨_, rfl, s2.trans s3⟩⟩⟩
    · rintro σ H2 ⟨v1, rfl, s2⟩
      exact q H2
end
end WD

set_option Elab.async false
set_option linter.all false
set_option maxRecDepth 100000
set_option maxHeartbeats 0
namespace WD
open PySem PySem.Spec PyProof.Rows L2
/-! ### the head: facts by names, the run -/
def dd_is_whole : He.DefD := ⟨("is_whole", none), "is_whole", "is_whole", defArgs s_is_whole, defBody s_is_whole, defScope s_is_whole, [], []⟩
def dd_need_row : He.DefD := ⟨("need_row", none), "need_row", "need_row", defArgs s_need_row, defBody s_need_row, defScope s_need_row, [], []⟩
def dd_is_many : He.DefD := ⟨("is_many", none), "is_many", "is_many", defArgs s_is_many, defBody s_is_many, defScope s_is_many, [], []⟩
def dd_is_thing : He.DefD := ⟨("is_thing", none), "is_thing", "is_thing", defArgs s_is_thing, defBody s_is_thing, defScope s_is_thing, [], []⟩
def dd_are_ranks : He.DefD := ⟨("are_ranks", none), "are_ranks", "are_ranks", defArgs s_are_ranks, defBody s_are_ranks, defScope s_are_ranks, [], []⟩
def dd_look_at_wishes : He.DefD := ⟨("look_at_wishes", none), "look_at_wishes", "look_at_wishes", defArgs s_look_at_wishes, defBody s_look_at_wishes, defScope s_look_at_wishes, [], []⟩
def dd_longest : He.DefD := ⟨("longest", none), "longest", "longest", defArgs s_longest, defBody s_longest, defScope s_longest, [], []⟩
def dd_is_order : He.DefD := ⟨("is_order", none), "is_order", "is_order", defArgs s_is_order, defBody s_is_order, defScope s_is_order, [], []⟩
def dd_is_old : He.DefD := ⟨("is_old", none), "is_old", "is_old", defArgs s_is_old, defBody s_is_old, defScope s_is_old, [], []⟩
def dd_are_turns : He.DefD := ⟨("are_turns", none), "are_turns", "are_turns", defArgs s_are_turns, defBody s_are_turns, defScope s_are_turns, [], []⟩
def dd_fault_of : He.DefD := ⟨("fault_of", none), "fault_of", "fault_of", defArgs s_fault_of, defBody s_fault_of, defScope s_fault_of, [], []⟩
def dd_look_at_aim : He.DefD := ⟨("look_at_aim", none), "look_at_aim", "look_at_aim", defArgs s_look_at_aim, defBody s_look_at_aim, defScope s_look_at_aim, [], []⟩
def dd_powers_of : He.DefD := ⟨("powers_of", none), "powers_of", "powers_of", defArgs s_powers_of, defBody s_powers_of, defScope s_powers_of, [], []⟩
def dd_Scale_init : He.DefD := ⟨("Scale", some "__init__"), "__init__", "Scale.__init__", defArgs s_Scale_init, defBody s_Scale_init, defScope s_Scale_init, [], []⟩
def dd_Scale_by_order : He.DefD := ⟨("Scale", some "by_order"), "by_order", "Scale.by_order", defArgs s_Scale_by_order, defBody s_Scale_by_order, defScope s_Scale_by_order, [], []⟩
def dd_Scale_pick_of : He.DefD := ⟨("Scale", some "pick_of"), "pick_of", "Scale.pick_of", defArgs s_Scale_pick_of, defBody s_Scale_pick_of, defScope s_Scale_pick_of, [], []⟩
def dd_Scale_of : He.DefD := ⟨("Scale", some "of"), "of", "Scale.of", defArgs s_Scale_of, defBody s_Scale_of, defScope s_Scale_of, [], []⟩
def dd_worths_of : He.DefD := ⟨("worths_of", none), "worths_of", "worths_of", defArgs s_worths_of, defBody s_worths_of, defScope s_worths_of, [], []⟩
def dd_all_worths : He.DefD := ⟨("all_worths", none), "all_worths", "all_worths", defArgs s_all_worths, defBody s_all_worths, defScope s_all_worths, [], []⟩
def dd_rows_by : He.DefD := ⟨("rows_by", none), "rows_by", "rows_by", defArgs s_rows_by, defBody s_rows_by, defScope s_rows_by, [], []⟩
def dd_left_by : He.DefD := ⟨("left_by", none), "left_by", "left_by", defArgs s_left_by, defBody s_left_by, defScope s_left_by, [], []⟩
def dd_Reach_init : He.DefD := ⟨("Reach", some "__init__"), "__init__", "Reach.__init__", defArgs s_Reach_init, defBody s_Reach_init, defScope s_Reach_init, [], []⟩
def dd_Reach_to_things : He.DefD := ⟨("Reach", some "to_things"), "to_things", "Reach.to_things", defArgs s_Reach_to_things, defBody s_Reach_to_things, defScope s_Reach_to_things, [], []⟩
def dd_Reach_to_askers : He.DefD := ⟨("Reach", some "to_askers"), "to_askers", "Reach.to_askers", defArgs s_Reach_to_askers, defBody s_Reach_to_askers, defScope s_Reach_to_askers, [], []⟩
def dd_Reach_go_on : He.DefD := ⟨("Reach", some "go_on"), "go_on", "Reach.go_on", defArgs s_Reach_go_on, defBody s_Reach_go_on, defScope s_Reach_go_on, [], []⟩
def dd_Reach_end_by : He.DefD := ⟨("Reach", some "end_by"), "end_by", "Reach.end_by", defArgs s_Reach_end_by, defBody s_Reach_end_by, defScope s_Reach_end_by, [], []⟩
def dd_Reach_way_to : He.DefD := ⟨("Reach", some "way_to"), "way_to", "Reach.way_to", defArgs s_Reach_way_to, defBody s_Reach_way_to, defScope s_Reach_way_to, [], []⟩
def dd_best_way : He.DefD := ⟨("best_way", none), "best_way", "best_way", defArgs s_best_way, defBody s_best_way, defScope s_best_way, [], []⟩
def dd_dealt_best : He.DefD := ⟨("dealt_best", none), "dealt_best", "dealt_best", defArgs s_dealt_best, defBody s_dealt_best, defScope s_dealt_best, [], []⟩
def dd_Prices_init : He.DefD := ⟨("Prices", some "__init__"), "__init__", "Prices.__init__", defArgs s_Prices_init, defBody s_Prices_init, defScope s_Prices_init, [], []⟩
def dd_Prices_rest : He.DefD := ⟨("Prices", some "rest"), "rest", "Prices.rest", defArgs s_Prices_rest, defBody s_Prices_rest, defScope s_Prices_rest, [], []⟩
def dd_Prices_chain : He.DefD := ⟨("Prices", some "chain"), "chain", "Prices.chain", defArgs s_Prices_chain, defBody s_Prices_chain, defScope s_Prices_chain, [], []⟩
def dd_Prices_way_by : He.DefD := ⟨("Prices", some "way_by"), "way_by", "Prices.way_by", defArgs s_Prices_way_by, defBody s_Prices_way_by, defScope s_Prices_way_by, [], []⟩
def dd_Prices_raised_by : He.DefD := ⟨("Prices", some "raised_by"), "raised_by", "Prices.raised_by", defArgs s_Prices_raised_by, defBody s_Prices_raised_by, defScope s_Prices_raised_by, [], []⟩
def dd_Prices_settle : He.DefD := ⟨("Prices", some "settle"), "settle", "Prices.settle", defArgs s_Prices_settle, defBody s_Prices_settle, defScope s_Prices_settle, [], []⟩
def dd_Prices_told : He.DefD := ⟨("Prices", some "told"), "told", "Prices.told", defArgs s_Prices_told, defBody s_Prices_told, defScope s_Prices_told, [], []⟩
def dd_best_dealing : He.DefD := ⟨("best_dealing", none), "best_dealing", "best_dealing", defArgs s_best_dealing, defBody s_best_dealing, defScope s_best_dealing, [], []⟩
def dd_copied : He.DefD := ⟨("copied", none), "copied", "copied", defArgs s_copied, defBody s_copied, defScope s_copied, [], []⟩
def dd_is_there : He.DefD := ⟨("is_there", none), "is_there", "is_there", defArgs s_is_there, defBody s_is_there, defScope s_is_there, [], []⟩
def dd_put : He.DefD := ⟨("put", none), "put", "put", defArgs s_put, defBody s_put, defScope s_put, [], []⟩
def dd_grown : He.DefD := ⟨("grown", none), "grown", "grown", defArgs s_grown, defBody s_grown, defScope s_grown, [], []⟩
def dd_changed : He.DefD := ⟨("changed", none), "changed", "changed", defArgs s_changed, defBody s_changed, defScope s_changed, [], []⟩
def dd_carried : He.DefD := ⟨("carried", none), "carried", "carried", defArgs s_carried, defBody s_carried, defScope s_carried, [], []⟩
def dd_mended : He.DefD := ⟨("mended", none), "mended", "mended", defArgs s_mended, defBody s_mended, defScope s_mended, [], []⟩
def dd_law_cell_at : He.DefD := ⟨("_law_cell_at", none), "_law_cell_at", "_law_cell_at", defArgs s_law_cell_at, defBody s_law_cell_at, defScope s_law_cell_at, [], []⟩
def dd_law_numbers : He.DefD := ⟨("_law_numbers", none), "_law_numbers", "_law_numbers", defArgs s_law_numbers, defBody s_law_numbers, defScope s_law_numbers, [], []⟩
def dd_law_wishes : He.DefD := ⟨("_law_wishes", none), "_law_wishes", "_law_wishes", defArgs s_law_wishes, defBody s_law_wishes, defScope s_law_wishes, [], []⟩
def dd_law_rank : He.DefD := ⟨("_law_rank", none), "_law_rank", "_law_rank", defArgs s_law_rank, defBody s_law_rank, defScope s_law_rank, [], []⟩
def dd_law_longest : He.DefD := ⟨("_law_longest", none), "_law_longest", "_law_longest", defArgs s_law_longest, defBody s_law_longest, defScope s_law_longest, [], []⟩
def dd_law_wished : He.DefD := ⟨("_law_wished", none), "_law_wished", "_law_wished", defArgs s_law_wished, defBody s_law_wished, defScope s_law_wished, [], []⟩
def dd_law_dealt : He.DefD := ⟨("_law_dealt", none), "_law_dealt", "_law_dealt", defArgs s_law_dealt, defBody s_law_dealt, defScope s_law_dealt, [], []⟩
def dd_law_worth : He.DefD := ⟨("_law_worth", none), "_law_worth", "_law_worth", defArgs s_law_worth, defBody s_law_worth, defScope s_law_worth, [], []⟩
def dd_law_bests : He.DefD := ⟨("_law_bests", none), "_law_bests", "_law_bests", defArgs s_law_bests, defBody s_law_bests, defScope s_law_bests, [], []⟩
def dd_law_ranks : He.DefD := ⟨("_law_ranks", none), "_law_ranks", "_law_ranks", defArgs s_law_ranks, defBody s_law_ranks, defScope s_law_ranks, [], []⟩
def dd_law_change : He.DefD := ⟨("_law_change", none), "_law_change", "_law_change", defArgs s_law_change, defBody s_law_change, defScope s_law_change, [], []⟩
def dd_law_good : He.DefD := ⟨("_law_good", none), "_law_good", "_law_good", defArgs s_law_good, defBody s_law_good, defScope s_law_good, [], []⟩
def dd_law_behind : He.DefD := ⟨("_law_behind", none), "_law_behind", "_law_behind", defArgs s_law_behind, defBody s_law_behind, defScope s_law_behind, [], []⟩
def dd_law_carried : He.DefD := ⟨("_law_carried", none), "_law_carried", "_law_carried", defArgs s_law_carried, defBody s_law_carried, defScope s_law_carried, [], []⟩
def dd_law_moved : He.DefD := ⟨("_law_moved", none), "_law_moved", "_law_moved", defArgs s_law_moved, defBody s_law_moved, defScope s_law_moved, [], []⟩
def dd_law_block : He.DefD := ⟨("_law_block", none), "_law_block", "_law_block", defArgs s_law_block, defBody s_law_block, defScope s_law_block, [], []⟩
def dd_law : He.DefD := ⟨("law", none), "law", "law", defArgs s_law, defBody s_law, defScope s_law, [], []⟩
def fn0 : List He.DefD := [dd_is_whole, dd_need_row, dd_is_many, dd_is_thing, dd_are_ranks, dd_look_at_wishes, dd_longest, dd_is_order, dd_is_old, dd_are_turns, dd_fault_of, dd_look_at_aim, dd_powers_of, dd_Scale_init, dd_Scale_by_order, dd_Scale_pick_of, dd_Scale_of, dd_worths_of, dd_all_worths, dd_rows_by, dd_left_by, dd_Reach_init, dd_Reach_to_things, dd_Reach_to_askers, dd_Reach_go_on]
def fn1 : List He.DefD := [dd_Reach_end_by, dd_Reach_way_to, dd_best_way, dd_dealt_best, dd_Prices_init, dd_Prices_rest, dd_Prices_chain, dd_Prices_way_by, dd_Prices_raised_by, dd_Prices_settle, dd_Prices_told, dd_best_dealing, dd_copied, dd_is_there, dd_put, dd_grown, dd_changed, dd_carried, dd_mended, dd_law_cell_at, dd_law_numbers, dd_law_wishes, dd_law_rank, dd_law_longest, dd_law_wished]
def fn2 : List He.DefD := [dd_law_dealt, dd_law_worth, dd_law_bests, dd_law_ranks, dd_law_change, dd_law_good, dd_law_behind, dd_law_carried, dd_law_moved, dd_law_block, dd_law]
def fn : List He.DefD := fn0 ++ fn1 ++ fn2
def fa0 : List He.Fa := [.glo "is_whole", .glo "need_row", .glo "is_many", .glo "is_thing", .glo "are_ranks", .glo "look_at_wishes", .glo "longest", .glo "is_order", .glo "is_old", .glo "are_turns", .glo "fault_of", .glo "look_at_aim", .glo "powers_of", .glo "worths_of", .glo "all_worths", .glo "rows_by", .glo "left_by", .glo "best_way", .glo "dealt_best", .glo "best_dealing", .glo "copied", .glo "is_there", .glo "put", .glo "grown", .glo "changed"]
def fa1 : List He.Fa := [.glo "carried", .glo "mended", .glo "_law_cell_at", .glo "_law_numbers", .glo "_law_wishes", .glo "_law_rank", .glo "_law_longest", .glo "_law_wished", .glo "_law_dealt", .glo "_law_worth", .glo "_law_bests", .glo "_law_ranks", .glo "_law_change", .glo "_law_good", .glo "_law_behind", .glo "_law_carried", .glo "_law_moved", .glo "_law_block", .glo "law", .glo "Scale", .cls "Scale", .noat "Scale" "order", .noat "Scale" "old", .noat "Scale" "turns", .noat "Scale" "base"]
def fa2 : List He.Fa := [.noat "Scale" "ranks", .noat "Scale" "steps", .noat "Scale" "picks", .mkr "Scale", .meth "Scale" "by_order", .meth "Scale" "pick_of", .meth "Scale" "of", .glo "Reach", .cls "Reach", .noat "Reach" "rows", .noat "Reach" "dealt", .noat "Reach" "start", .noat "Reach" "freed", .noat "Reach" "taken", .noat "Reach" "takers", .mkr "Reach", .meth "Reach" "to_things", .meth "Reach" "to_askers", .meth "Reach" "go_on", .meth "Reach" "end_by", .meth "Reach" "way_to", .glo "Prices", .cls "Prices", .noat "Prices" "rows", .noat "Prices" "dealt"]
def fa3 : List He.Fa := [.noat "Prices" "left", .noat "Prices" "prices", .noat "Prices" "raisers", .mkr "Prices", .meth "Prices" "rest", .meth "Prices" "chain", .meth "Prices" "way_by", .meth "Prices" "raised_by", .meth "Prices" "settle", .meth "Prices" "told", .free "isinstance", .free "int", .free "bool", .free "list", .free "len", .free "tuple", .free "enumerate", .free "max", .free "str", .free "sorted", .free "range", .free "sum", .free "min", .free "all", .int "MOST_THINGS" 6]
def fa4 : List He.Fa := [.int "MOST_COPIES" 7, .int "MOST_ASKERS" 7, .int "MOST_RANKS" 5]
def fa : List He.Fa := fa0 ++ fa1 ++ fa2 ++ fa3 ++ fa4
def lo0 : List Str := ["is_whole", "DealError", "NoWishes", "NoAim", "NoChange", "MOST_THINGS", "MOST_COPIES", "MOST_ASKERS", "MOST_RANKS", "need_row", "is_many", "is_thing", "are_ranks", "look_at_wishes", "longest", "is_order", "is_old", "are_turns", "fault_of", "look_at_aim", "powers_of", "Scale", "worths_of", "all_worths", "rows_by"]
def lo1 : List Str := ["left_by", "Reach", "best_way", "dealt_best", "Prices", "best_dealing", "copied", "is_there", "put", "grown", "changed", "carried", "mended", "_law_cell_at", "_law_numbers", "_law_wishes", "_law_rank", "_law_longest", "_law_wished", "_law_dealt", "_law_worth", "_law_bests", "_law_ranks", "_law_change", "_law_good"]
def lo2 : List Str := ["_law_behind", "_law_carried", "_law_moved", "_law_block"]
def lo : List Str := lo0 ++ lo1 ++ lo2
abbrev R : PySem.W.OpenRow := PySem.W.OpenLaw.row PySem.Challenge.rw_wishdeal_k75_whole_fewest_moved
abbrev hk : PySem.W.Hook := He.hookD 5 fa fn
def ob (s : PySem.W.SharedT) : He.AlD := He.obsDG 5 fa fn (HandSHeadRun.getT s)
theorem ob_eq (s : PySem.W.SharedT) : ob s = hk.obs s.abs := He.obsDG_eq (HandSHeadRun.getT_eq s)
theorem run (w : World) : HandSHeadRun.RunEq R (PySem.W.view R.prog [64]) hk ob 4000 lo w := by
  intro os
  kernel_rfl
theorem tx_of {K : PySem.W.Frag} {h : Heap} {mg : Str → Option Value} (X : K.In h) (G : h.Ns mainGlobals mg) (c : He.SaysD fa fn K) : Tx K mg (He.ga K "Scale") (He.ga K "Reach") (He.ga K "Prices") := by
  exact ⟨⟨⟨_, He.glo_ok X G (c.fact 0 (f := .glo "is_whole") rfl), ⟨c.def_ 0 (d := dd_is_whole) rfl⟩⟩⟩,
    ⟨⟨_, He.glo_ok X G (c.fact 1 (f := .glo "need_row") rfl), ⟨c.def_ 1 (d := dd_need_row) rfl⟩⟩⟩,
    ⟨⟨_, He.glo_ok X G (c.fact 2 (f := .glo "is_many") rfl), ⟨c.def_ 2 (d := dd_is_many) rfl⟩⟩⟩,
    ⟨⟨_, He.glo_ok X G (c.fact 3 (f := .glo "is_thing") rfl), ⟨c.def_ 3 (d := dd_is_thing) rfl⟩⟩⟩,
    ⟨⟨_, He.glo_ok X G (c.fact 4 (f := .glo "are_ranks") rfl), ⟨c.def_ 4 (d := dd_are_ranks) rfl⟩⟩⟩,
    ⟨⟨_, He.glo_ok X G (c.fact 5 (f := .glo "look_at_wishes") rfl), ⟨c.def_ 5 (d := dd_look_at_wishes) rfl⟩⟩⟩,
    ⟨⟨_, He.glo_ok X G (c.fact 6 (f := .glo "longest") rfl), ⟨c.def_ 6 (d := dd_longest) rfl⟩⟩⟩,
    ⟨⟨_, He.glo_ok X G (c.fact 7 (f := .glo "is_order") rfl), ⟨c.def_ 7 (d := dd_is_order) rfl⟩⟩⟩,
    ⟨⟨_, He.glo_ok X G (c.fact 8 (f := .glo "is_old") rfl), ⟨c.def_ 8 (d := dd_is_old) rfl⟩⟩⟩,
    ⟨⟨_, He.glo_ok X G (c.fact 9 (f := .glo "are_turns") rfl), ⟨c.def_ 9 (d := dd_are_turns) rfl⟩⟩⟩,
    ⟨⟨_, He.glo_ok X G (c.fact 10 (f := .glo "fault_of") rfl), ⟨c.def_ 10 (d := dd_fault_of) rfl⟩⟩⟩,
    ⟨⟨_, He.glo_ok X G (c.fact 11 (f := .glo "look_at_aim") rfl), ⟨c.def_ 11 (d := dd_look_at_aim) rfl⟩⟩⟩,
    ⟨⟨_, He.glo_ok X G (c.fact 12 (f := .glo "powers_of") rfl), ⟨c.def_ 12 (d := dd_powers_of) rfl⟩⟩⟩,
    ⟨⟨_, He.glo_ok X G (c.fact 13 (f := .glo "worths_of") rfl), ⟨c.def_ 17 (d := dd_worths_of) rfl⟩⟩⟩,
    ⟨⟨_, He.glo_ok X G (c.fact 14 (f := .glo "all_worths") rfl), ⟨c.def_ 18 (d := dd_all_worths) rfl⟩⟩⟩,
    ⟨⟨_, He.glo_ok X G (c.fact 15 (f := .glo "rows_by") rfl), ⟨c.def_ 19 (d := dd_rows_by) rfl⟩⟩⟩,
    ⟨⟨_, He.glo_ok X G (c.fact 16 (f := .glo "left_by") rfl), ⟨c.def_ 20 (d := dd_left_by) rfl⟩⟩⟩,
    ⟨⟨_, He.glo_ok X G (c.fact 17 (f := .glo "best_way") rfl), ⟨c.def_ 27 (d := dd_best_way) rfl⟩⟩⟩,
    ⟨⟨_, He.glo_ok X G (c.fact 18 (f := .glo "dealt_best") rfl), ⟨c.def_ 28 (d := dd_dealt_best) rfl⟩⟩⟩,
    ⟨⟨_, He.glo_ok X G (c.fact 19 (f := .glo "best_dealing") rfl), ⟨c.def_ 36 (d := dd_best_dealing) rfl⟩⟩⟩,
    ⟨⟨_, He.glo_ok X G (c.fact 20 (f := .glo "copied") rfl), ⟨c.def_ 37 (d := dd_copied) rfl⟩⟩⟩,
    ⟨⟨_, He.glo_ok X G (c.fact 21 (f := .glo "is_there") rfl), ⟨c.def_ 38 (d := dd_is_there) rfl⟩⟩⟩,
    ⟨⟨_, He.glo_ok X G (c.fact 22 (f := .glo "put") rfl), ⟨c.def_ 39 (d := dd_put) rfl⟩⟩⟩,
    ⟨⟨_, He.glo_ok X G (c.fact 23 (f := .glo "grown") rfl), ⟨c.def_ 40 (d := dd_grown) rfl⟩⟩⟩,
    ⟨⟨_, He.glo_ok X G (c.fact 24 (f := .glo "changed") rfl), ⟨c.def_ 41 (d := dd_changed) rfl⟩⟩⟩,
    ⟨⟨_, He.glo_ok X G (c.fact 25 (f := .glo "carried") rfl), ⟨c.def_ 42 (d := dd_carried) rfl⟩⟩⟩,
    ⟨⟨_, He.glo_ok X G (c.fact 26 (f := .glo "mended") rfl), ⟨c.def_ 43 (d := dd_mended) rfl⟩⟩⟩,
    ⟨⟨_, He.glo_ok X G (c.fact 27 (f := .glo "_law_cell_at") rfl), ⟨c.def_ 44 (d := dd_law_cell_at) rfl⟩⟩⟩,
    ⟨⟨_, He.glo_ok X G (c.fact 28 (f := .glo "_law_numbers") rfl), ⟨c.def_ 45 (d := dd_law_numbers) rfl⟩⟩⟩,
    ⟨⟨_, He.glo_ok X G (c.fact 29 (f := .glo "_law_wishes") rfl), ⟨c.def_ 46 (d := dd_law_wishes) rfl⟩⟩⟩,
    ⟨⟨_, He.glo_ok X G (c.fact 30 (f := .glo "_law_rank") rfl), ⟨c.def_ 47 (d := dd_law_rank) rfl⟩⟩⟩,
    ⟨⟨_, He.glo_ok X G (c.fact 31 (f := .glo "_law_longest") rfl), ⟨c.def_ 48 (d := dd_law_longest) rfl⟩⟩⟩,
    ⟨⟨_, He.glo_ok X G (c.fact 32 (f := .glo "_law_wished") rfl), ⟨c.def_ 49 (d := dd_law_wished) rfl⟩⟩⟩,
    ⟨⟨_, He.glo_ok X G (c.fact 33 (f := .glo "_law_dealt") rfl), ⟨c.def_ 50 (d := dd_law_dealt) rfl⟩⟩⟩,
    ⟨⟨_, He.glo_ok X G (c.fact 34 (f := .glo "_law_worth") rfl), ⟨c.def_ 51 (d := dd_law_worth) rfl⟩⟩⟩,
    ⟨⟨_, He.glo_ok X G (c.fact 35 (f := .glo "_law_bests") rfl), ⟨c.def_ 52 (d := dd_law_bests) rfl⟩⟩⟩,
    ⟨⟨_, He.glo_ok X G (c.fact 36 (f := .glo "_law_ranks") rfl), ⟨c.def_ 53 (d := dd_law_ranks) rfl⟩⟩⟩,
    ⟨⟨_, He.glo_ok X G (c.fact 37 (f := .glo "_law_change") rfl), ⟨c.def_ 54 (d := dd_law_change) rfl⟩⟩⟩,
    ⟨⟨_, He.glo_ok X G (c.fact 38 (f := .glo "_law_good") rfl), ⟨c.def_ 55 (d := dd_law_good) rfl⟩⟩⟩,
    ⟨⟨_, He.glo_ok X G (c.fact 39 (f := .glo "_law_behind") rfl), ⟨c.def_ 56 (d := dd_law_behind) rfl⟩⟩⟩,
    ⟨⟨_, He.glo_ok X G (c.fact 40 (f := .glo "_law_carried") rfl), ⟨c.def_ 57 (d := dd_law_carried) rfl⟩⟩⟩,
    ⟨⟨_, He.glo_ok X G (c.fact 41 (f := .glo "_law_moved") rfl), ⟨c.def_ 58 (d := dd_law_moved) rfl⟩⟩⟩,
    ⟨⟨_, He.glo_ok X G (c.fact 42 (f := .glo "_law_block") rfl), ⟨c.def_ 59 (d := dd_law_block) rfl⟩⟩⟩,
    ⟨⟨_, He.glo_ok X G (c.fact 43 (f := .glo "law") rfl), ⟨c.def_ 60 (d := dd_law) rfl⟩⟩⟩,
    He.glo_ok X G (c.fact 44 (f := .glo "Scale") rfl),
    He.cls_ok (c.fact 45 (f := .cls "Scale") rfl),
    He.noat_ok (c.fact 46 (f := .noat "Scale" "order") rfl),
    He.noat_ok (c.fact 47 (f := .noat "Scale" "old") rfl),
    He.noat_ok (c.fact 48 (f := .noat "Scale" "turns") rfl),
    He.noat_ok (c.fact 49 (f := .noat "Scale" "base") rfl),
    He.noat_ok (c.fact 50 (f := .noat "Scale" "ranks") rfl),
    He.noat_ok (c.fact 51 (f := .noat "Scale" "steps") rfl),
    He.noat_ok (c.fact 52 (f := .noat "Scale" "picks") rfl),
    ⟨⟨_, He.mkr_ok (c.fact 53 (f := .mkr "Scale") rfl), ⟨c.def_ 13 (d := dd_Scale_init) rfl⟩⟩⟩,
    ⟨⟨_, He.meth_ok (c.fact 54 (f := .meth "Scale" "by_order") rfl), ⟨c.def_ 14 (d := dd_Scale_by_order) rfl⟩⟩⟩,
    ⟨⟨_, He.meth_ok (c.fact 55 (f := .meth "Scale" "pick_of") rfl), ⟨c.def_ 15 (d := dd_Scale_pick_of) rfl⟩⟩⟩,
    ⟨⟨_, He.meth_ok (c.fact 56 (f := .meth "Scale" "of") rfl), ⟨c.def_ 16 (d := dd_Scale_of) rfl⟩⟩⟩,
    He.glo_ok X G (c.fact 57 (f := .glo "Reach") rfl),
    He.cls_ok (c.fact 58 (f := .cls "Reach") rfl),
    He.noat_ok (c.fact 59 (f := .noat "Reach" "rows") rfl),
    He.noat_ok (c.fact 60 (f := .noat "Reach" "dealt") rfl),
    He.noat_ok (c.fact 61 (f := .noat "Reach" "start") rfl),
    He.noat_ok (c.fact 62 (f := .noat "Reach" "freed") rfl),
    He.noat_ok (c.fact 63 (f := .noat "Reach" "taken") rfl),
    He.noat_ok (c.fact 64 (f := .noat "Reach" "takers") rfl),
    ⟨⟨_, He.mkr_ok (c.fact 65 (f := .mkr "Reach") rfl), ⟨c.def_ 21 (d := dd_Reach_init) rfl⟩⟩⟩,
    ⟨⟨_, He.meth_ok (c.fact 66 (f := .meth "Reach" "to_things") rfl), ⟨c.def_ 22 (d := dd_Reach_to_things) rfl⟩⟩⟩,
    ⟨⟨_, He.meth_ok (c.fact 67 (f := .meth "Reach" "to_askers") rfl), ⟨c.def_ 23 (d := dd_Reach_to_askers) rfl⟩⟩⟩,
    ⟨⟨_, He.meth_ok (c.fact 68 (f := .meth "Reach" "go_on") rfl), ⟨c.def_ 24 (d := dd_Reach_go_on) rfl⟩⟩⟩,
    ⟨⟨_, He.meth_ok (c.fact 69 (f := .meth "Reach" "end_by") rfl), ⟨c.def_ 25 (d := dd_Reach_end_by) rfl⟩⟩⟩,
    ⟨⟨_, He.meth_ok (c.fact 70 (f := .meth "Reach" "way_to") rfl), ⟨c.def_ 26 (d := dd_Reach_way_to) rfl⟩⟩⟩,
    He.glo_ok X G (c.fact 71 (f := .glo "Prices") rfl),
    He.cls_ok (c.fact 72 (f := .cls "Prices") rfl),
    He.noat_ok (c.fact 73 (f := .noat "Prices" "rows") rfl),
    He.noat_ok (c.fact 74 (f := .noat "Prices" "dealt") rfl),
    He.noat_ok (c.fact 75 (f := .noat "Prices" "left") rfl),
    He.noat_ok (c.fact 76 (f := .noat "Prices" "prices") rfl),
    He.noat_ok (c.fact 77 (f := .noat "Prices" "raisers") rfl),
    ⟨⟨_, He.mkr_ok (c.fact 78 (f := .mkr "Prices") rfl), ⟨c.def_ 29 (d := dd_Prices_init) rfl⟩⟩⟩,
    ⟨⟨_, He.meth_ok (c.fact 79 (f := .meth "Prices" "rest") rfl), ⟨c.def_ 30 (d := dd_Prices_rest) rfl⟩⟩⟩,
    ⟨⟨_, He.meth_ok (c.fact 80 (f := .meth "Prices" "chain") rfl), ⟨c.def_ 31 (d := dd_Prices_chain) rfl⟩⟩⟩,
    ⟨⟨_, He.meth_ok (c.fact 81 (f := .meth "Prices" "way_by") rfl), ⟨c.def_ 32 (d := dd_Prices_way_by) rfl⟩⟩⟩,
    ⟨⟨_, He.meth_ok (c.fact 82 (f := .meth "Prices" "raised_by") rfl), ⟨c.def_ 33 (d := dd_Prices_raised_by) rfl⟩⟩⟩,
    ⟨⟨_, He.meth_ok (c.fact 83 (f := .meth "Prices" "settle") rfl), ⟨c.def_ 34 (d := dd_Prices_settle) rfl⟩⟩⟩,
    ⟨⟨_, He.meth_ok (c.fact 84 (f := .meth "Prices" "told") rfl), ⟨c.def_ 35 (d := dd_Prices_told) rfl⟩⟩⟩,
    He.free_ok X G (c.fact 85 (f := .free "isinstance") rfl),
    He.free_ok X G (c.fact 86 (f := .free "int") rfl),
    He.free_ok X G (c.fact 87 (f := .free "bool") rfl),
    He.free_ok X G (c.fact 88 (f := .free "list") rfl),
    He.free_ok X G (c.fact 89 (f := .free "len") rfl),
    He.free_ok X G (c.fact 90 (f := .free "tuple") rfl),
    He.free_ok X G (c.fact 91 (f := .free "enumerate") rfl),
    He.free_ok X G (c.fact 92 (f := .free "max") rfl),
    He.free_ok X G (c.fact 93 (f := .free "str") rfl),
    He.free_ok X G (c.fact 94 (f := .free "sorted") rfl),
    He.free_ok X G (c.fact 95 (f := .free "range") rfl),
    He.free_ok X G (c.fact 96 (f := .free "sum") rfl),
    He.free_ok X G (c.fact 97 (f := .free "min") rfl),
    He.free_ok X G (c.fact 98 (f := .free "all") rfl),
    He.int_ok X G (c.fact 99 (f := .int "MOST_THINGS" 6) rfl),
    He.int_ok X G (c.fact 100 (f := .int "MOST_COPIES" 7) rfl),
    He.int_ok X G (c.fact 101 (f := .int "MOST_ASKERS" 7) rfl),
    He.int_ok X G (c.fact 102 (f := .int "MOST_RANKS" 5) rfl)⟩
end WD

set_option Elab.async false
set_option linter.all false
set_option maxRecDepth 100000
set_option maxHeartbeats 0
namespace WD
open PySem PySem.Spec PyProof.Rows L2
theorem facts {w : World} {K : PySem.W.Frag} {h : Heap} {mg : Str → Option Value} {f : Addr} (X : K.In h) (G : h.Ns mainGlobals mg) (hfa : mg ("law" : Str) = some (.ref f)) (c : He.SaysD fa fn K) :
    ∃ fd : FuncData, (∀ (s : Shared) (v : Value), BindsTo s fd ⟨[v], []⟩ [("_law_script", v)]) ∧
      ∀ base : Heap, K.In base → base.Ns mainGlobals mg → FnOk (PySem.Challenge.rw_wishdeal_k75_whole_fewest_moved).prog w K mg base C8.CX0 14 f fd ["_law_script"] (sp_law K (He.ga K "Scale") (He.ga K "Reach") (He.ga K "Prices")) := by
  have T := tx_of X G c
  obtain ⟨f', hm, fd, F⟩ := T.d_law.ex
  have e := hfa.symm.trans hm
  cases e
  have b := FunD.bindsA (ps := ["_law_script"]) F fun _ _ _ _ _ _ us hl => match us, hl with | [_], _ => rfl
  refine ⟨fd, fun s v => b s [v] rfl, fun base _ _ => fn_ofA F sc_law (fun vs H Q E h => ?_) (b_law T)⟩
  obtain ⟨_, _, rfl, _⟩ := h
  rfl
end WD
open PySem PySem.W PySem.Calls PyProof.Rows
theorem PySem.Challenge.cw_wishdeal_k75_whole_fewest_moved_holds : PySem.Challenge.rw_wishdeal_k75_whole_fewest_moved.Holds := by
  w_on; o_law
  refine HandSHeadRun.head_any (r := OpenLaw.row PySem.Challenge.rw_wishdeal_k75_whole_fewest_moved) (q := view (OpenLaw.row PySem.Challenge.rw_wishdeal_k75_whole_fewest_moved).prog [64]) (H := WD.hk) (ob := WD.ob) (M := 4000) (loose := WD.lo) (d := HandSHeadRun.topDef (OpenLaw.row PySem.Challenge.rw_wishdeal_k75_whole_fewest_moved).prog 64) (kwd := []) WD.ob_eq
    (by kernel_rfl) (fun s => by kernel_rfl) WD.run (by kernel_rfl) (by kernel_rfl) (by kernel_rfl) (by rfl) (by first | assumption | decide +kernel) (by decide +kernel) ⟨rfl, rfl, rfl, rfl, rfl, by decide +kernel⟩ ?hw ?hc
  case hw => w_witness2
  case hc =>
    refine L2.walk_ofE (l := PySem.Challenge.rw_wishdeal_k75_whole_fewest_moved) (n := 63) (k := 14) (x := "_law_script") (CX := C8.CX0) rfl (by decide) (by kernel_rfl) ⟨rfl, by decide, by decide⟩ ?F (fun _ _ _ _ z => z)
    intro w mg fa h Y G hmg0
    obtain ⟨K, KX, c⟩ := Y
    have hmg : mg ("law" : PySem.Str) = some (.ref fa) := by
      have e : (HandSHeadRun.topDef (OpenLaw.row PySem.Challenge.rw_wishdeal_k75_whole_fewest_moved).prog 64).name = ("law" : PySem.Str) := by kernel_rfl
      rw [← e]
      exact hmg0
    obtain ⟨fd, hb, hF⟩ := WD.facts (w := w) KX G hmg c
    exact ⟨K, fd, WD.sp_law K _ _ _, KX, hb, fun H a ns hl _ hS => ⟨a, ns, rfl, hS, fun _ => rfl⟩, hF⟩
