import PyProof.Rows.All
import Wide.All
import OpenK.AllK
import Wide.FinOn
import HandS.ForMost
import KE.KDictWalk
import KE.KDictDisplayH
import KE.KDictPairs
import KE.GoesMore
import KE.GoesEnum
import KE.GoesZip
import KE.KDictZip
import KE.KDictItemsList
import HandS.DictTup
import HandS.Lambda
import HandS.SortKw
import KE.SortKeyHeap
import KE.KLam
import HandS.Nested
import HandS.Words
import HandS.TupAny
import HandS.Star
import HandS.Wide
import HandS.IsInst
import HandS.Style
import HandS.WordsList
import HandS.EndTab
import PySem.Challenge.RW_stillsums_k49_products_of_counts_as_sums
/-! Formal sums of words, the product of counts. Plain Lean. -/
set_option autoImplicit false
set_option linter.all false
namespace KM
section
variable {α : Type} [DecidableEq α]

abbrev FS (α : Type) := List (List α × Int)

/-- the coefficient of a word -/
def coef : FS α → List α → Int
  | [], _ => 0
  | (u, n) :: r, w => (if u = w then n else 0) + coef r w

theorem coef_append : ∀ (a b : FS α) (w : List α), coef (a ++ b) w = coef a w + coef b w
  | [], b, w => by simp [coef]
  | (u, n) :: r, b, w => by simp only [List.cons_append, coef, coef_append r b w]; omega

/-- add so many of a word to a dict -/
def add : FS α → List α → Int → FS α
  | [], w, n => [(w, n)]
  | (u, m) :: r, w, n => if u = w then (u, m + n) :: r else (u, m) :: add r w n

theorem coef_add : ∀ (a : FS α) (w : List α) (n : Int) (v : List α), coef (add a w n) v = coef a v + (if w = v then n else 0)
  | [], w, n, v => by simp [add, coef]
  | (u, m) :: r, w, n, v => by
    unfold add
    by_cases h : u = w
    · subst h
      rw [if_pos rfl]
      simp only [coef]
      by_cases h2 : u = v
      · simp [h2]; omega
      · simp [h2]
    · rw [if_neg h]
      simp only [coef, coef_add r w n v]; omega
theorem add_keys : ∀ (a : FS α) (w : List α) (n : Int) (v : List α), v ∈ (add a w n).map (·.1) ↔ v ∈ a.map (·.1) ∨ v = w
  | [], w, n, v => by simp [add]
  | (u, m) :: r, w, n, v => by
    unfold add
    by_cases h : u = w
    · subst h
      rw [if_pos rfl]
      simp only [List.map_cons, List.mem_cons]
      constructor
      · intro h; exact .inl h
      · rintro (h | h)
        · exact h
        · exact .inl h
    · rw [if_neg h]
      simp only [List.map_cons, List.mem_cons, add_keys r w n v]
      constructor
      · rintro (h | h | h)
        · exact .inl (.inl h)
        · exact .inl (.inr h)
        · exact .inr h
      · rintro ((h | h) | h)
        · exact .inl h
        · exact .inr (.inl h)
        · exact .inr (.inr h)
theorem add_nodup : ∀ {a : FS α} {w : List α} {n : Int}, (a.map (·.1)).Nodup → ((add a w n).map (·.1)).Nodup
  | [], w, n, _ => by simp [add]
  | (u, m) :: r, w, n, h => by
    unfold add
    by_cases h2 : u = w
    · rw [if_pos h2]; exact h
    · rw [if_neg h2]
      simp only [List.map_cons, List.nodup_cons] at h ⊢
      refine ⟨fun q => ?_, add_nodup h.2⟩
      rcases (add_keys r w n u).mp q with q | q
      · exact h.1 q
      · exact h2 q
theorem add_length : ∀ (a : FS α) (w : List α) (n : Int), (add a w n).length ≤ a.length + 1
  | [], w, n => by simp [add]
  | (u, m) :: r, w, n => by
    unfold add
    by_cases h2 : u = w
    · rw [if_pos h2]; simp
    · rw [if_neg h2]; simp [add_length r w n]

theorem coef_none {a : FS α} {w : List α} (h : w ∉ a.map (·.1)) : coef a w = 0 := by
  induction a with
  | nil => rfl
  | cons p r ih =>
    obtain ⟨u, n⟩ := p
    simp only [List.map_cons, List.mem_cons, not_or] at h
    simp only [coef]
    rw [if_neg (fun e => h.1 e.symm), ih h.2]; rfl
theorem coef_mem : ∀ {a : FS α} {w : List α} {n : Int}, (a.map (·.1)).Nodup → (w, n) ∈ a → coef a w = n
  | [], _, _, _, h => nomatch h
  | (u, m) :: r, w, n, hn, h => by
    simp only [List.map_cons, List.nodup_cons] at hn
    simp only [coef]
    rcases List.mem_cons.mp h with e | h
    · cases e
      rw [if_pos rfl, coef_none hn.1]; omega
    · have hm : w ∈ r.map (·.1) := List.mem_map.mpr ⟨_, h, rfl⟩
      rw [if_neg (fun e => hn.1 (by rw [e]; exact hm)), coef_mem hn.2 h]; omega
theorem mem_coef {a : FS α} {w : List α} (hn : (a.map (·.1)).Nodup) (h : coef a w ≠ 0) : (w, coef a w) ∈ a := by
  by_cases q : w ∈ a.map (·.1)
  · obtain ⟨⟨u, n⟩, h1, h2⟩ := List.mem_map.mp q
    have h2 : u = w := h2
    subst h2
    rw [coef_mem hn h1]; exact h1
  · exact absurd (coef_none q) h

/-- what a linear reading of words makes of a sum -/
def lin (f : List α → Int) : FS α → Int
  | [] => 0
  | (u, n) :: r => n * f u + lin f r

theorem lin_append (f : List α → Int) : ∀ a b : FS α, lin f (a ++ b) = lin f a + lin f b
  | [], b => by simp [lin]
  | (u, n) :: r, b => by simp only [List.cons_append, lin, lin_append f r b]; omega
theorem lin_add (f : List α → Int) : ∀ (a : FS α) (w : List α) (n : Int), lin f (add a w n) = lin f a + n * f w
  | [], w, n => by simp [add, lin]
  | (u, m) :: r, w, n => by
    unfold add
    by_cases h : u = w
    · subst h
      rw [if_pos rfl]; simp only [lin]; rw [Int.add_mul]; omega
    · rw [if_neg h]; simp only [lin, lin_add f r w n]; omega

/-- a sum as a dict -/
def norm (a : FS α) : FS α := a.foldl (fun m p => add m p.1 p.2) []
theorem foldl_nodup : ∀ (a m : FS α), (m.map (·.1)).Nodup → ((a.foldl (fun m p => add m p.1 p.2) m).map (·.1)).Nodup
  | [], _, h => h
  | p :: r, m, h => foldl_nodup r _ (add_nodup h)
theorem norm_nodup (a : FS α) : ((norm a).map (·.1)).Nodup := foldl_nodup a [] List.Pairwise.nil
theorem foldl_coef : ∀ (a m : FS α) (w : List α), coef (a.foldl (fun m p => add m p.1 p.2) m) w = coef m w + coef a w
  | [], m, w => by simp [coef]
  | (u, n) :: r, m, w => by
    simp only [List.foldl_cons, foldl_coef r, coef_add, coef]; omega
theorem norm_coef (a : FS α) (w : List α) : coef (norm a) w = coef a w := by
  unfold norm; rw [foldl_coef]; simp [coef]
theorem foldl_lin (f : List α → Int) : ∀ (a m : FS α), lin f (a.foldl (fun m p => add m p.1 p.2) m) = lin f m + lin f a
  | [], m => by simp [lin]
  | (u, n) :: r, m => by simp only [List.foldl_cons, foldl_lin f r, lin_add, lin]; omega
theorem norm_lin (f : List α → Int) (a : FS α) : lin f (norm a) = lin f a := by
  unfold norm; rw [foldl_lin]; simp [lin]
theorem foldl_len : ∀ (a m : FS α), (a.foldl (fun m p => add m p.1 p.2) m).length ≤ m.length + a.length
  | [], m => by simp
  | p :: r, m => by
    have h1 := foldl_len r (add m p.1 p.2)
    have h2 := add_length m p.1 p.2
    simp only [List.foldl_cons, List.length_cons]; omega

def nz (a : FS α) : FS α := a.filter fun p => decide (p.2 ≠ 0)
theorem nz_lin (f : List α → Int) : ∀ a : FS α, lin f (nz a) = lin f a
  | [] => rfl
  | (u, n) :: r => by
    unfold nz
    by_cases h : n = 0
    · subst h
      rw [List.filter_cons_of_neg (by simp)]
      have := nz_lin f r
      unfold nz at this
      rw [this]; simp [lin]
    · rw [List.filter_cons_of_pos (by simpa using h)]
      have := nz_lin f r
      unfold nz at this
      simp only [lin, this]
theorem lin_perm (f : List α → Int) {a b : FS α} (h : a.Perm b) : lin f a = lin f b := by
  induction h with
  | nil => rfl
  | cons p _ ih => obtain ⟨u, n⟩ := p; simp only [lin, ih]
  | swap p q _ => obtain ⟨u, n⟩ := p; obtain ⟨v, m⟩ := q; simp only [lin]; omega
  | trans _ _ h1 h2 => exact h1.trans h2

theorem nodup_of_keys {a : FS α} (h : (a.map (·.1)).Nodup) : a.Nodup := by
  induction a with
  | nil => exact List.Pairwise.nil
  | cons p r ih =>
    simp only [List.map_cons, List.nodup_cons] at h
    rw [List.nodup_cons]
    exact ⟨fun q => h.1 (List.mem_map.mpr ⟨p, q, rfl⟩), ih h.2⟩
theorem nz_perm {a b : FS α} (ha : (a.map (·.1)).Nodup) (hb : (b.map (·.1)).Nodup) (h : ∀ w, coef a w = coef b w) : (nz a).Perm (nz b) := by
  refine (List.perm_ext_iff_of_nodup ((nodup_of_keys ha).filter _) ((nodup_of_keys hb).filter _)).mpr fun p => ?_
  obtain ⟨w, n⟩ := p
  simp only [List.mem_filter, decide_eq_true_eq]
  constructor
  · rintro ⟨h1, h2⟩
    have e := coef_mem ha h1
    refine ⟨?_, h2⟩
    have := mem_coef (a := b) (w := w) hb (by rw [← h, e]; exact h2)
    rw [← h, e] at this
    exact this
  · rintro ⟨h1, h2⟩
    have e := coef_mem hb h1
    refine ⟨?_, h2⟩
    have := mem_coef (a := a) (w := w) ha (by rw [h, e]; exact h2)
    rw [h, e] at this
    exact this

/-! ### sorted terms -/
variable (le : List α → List α → Bool)
structure Ord : Prop where
  tr : ∀ a b c, le a b = true → le b c = true → le a c = true
  tot : ∀ a b, (le a b || le b a) = true
  asym : ∀ a b, le a b = true → le b a = true → a = b
def canon (m : FS α) : FS α := (nz m).mergeSort fun p q => le p.1 q.1
variable {le}
theorem canon_perm (m : FS α) : (canon le m).Perm (nz m) := List.mergeSort_perm _ _
theorem canon_sorted (O : Ord le) (m : FS α) : (canon le m).Pairwise fun p q => le p.1 q.1 = true :=
  List.pairwise_mergeSort (le := fun (p q : List α × Int) => le p.1 q.1) (fun a b c h1 h2 => O.tr a.1 b.1 c.1 h1 h2) (fun a b => O.tot a.1 b.1) (nz m)
theorem canon_one (O : Ord le) {m l : FS α} (hm : (m.map (·.1)).Nodup) (hp : l.Perm (nz m)) (hs : l.Pairwise fun p q => le p.1 q.1 = true) : l = canon le m := by
  have h1 : (canon le m).Pairwise fun p q => le p.1 q.1 = true := canon_sorted O m
  have hp2 : l.Perm (canon le m) := hp.trans (canon_perm m).symm
  have keys : ∀ p ∈ l, ∀ q ∈ l, p.1 = q.1 → p = q := fun p hp' q hq e => by
    have hp2 := (List.mem_filter.mp (hp.mem_iff.mp hp')).1
    have hq2 := (List.mem_filter.mp (hp.mem_iff.mp hq)).1
    obtain ⟨u, n⟩ := p
    obtain ⟨v, k⟩ := q
    have e : u = v := e
    subst e
    rw [← coef_mem hm hp2, ← coef_mem hm hq2]
  refine List.Perm.eq_of_pairwise (le := fun p q => le p.1 q.1 = true) (fun p q hp' hq h1 h2 => keys p hp' q (hp2.mem_iff.mpr hq) (O.asym _ _ h1 h2)) hs h1 hp2
theorem canon_eq (O : Ord le) {a b : FS α} (ha : (a.map (·.1)).Nodup) (hb : (b.map (·.1)).Nodup) (h : ∀ w, coef a w = coef b w) : canon le a = canon le b := by
  refine canon_one O hb ((canon_perm a).trans (nz_perm ha hb h)) (canon_sorted O a)

/-- the terms of a sum -/
def terms (le : List α → List α → Bool) (a : FS α) : FS α := canon le (norm a)
theorem terms_of (O : Ord le) {m a : FS α} (hm : (m.map (·.1)).Nodup) (h : ∀ w, coef m w = coef a w) : canon le m = terms le a :=
  canon_eq O hm (norm_nodup a) fun w => (h w).trans (norm_coef a w).symm
theorem terms_eq (O : Ord le) {a b : FS α} (h : ∀ w, coef a w = coef b w) : terms le a = terms le b :=
  canon_eq O (norm_nodup a) (norm_nodup b) fun w => by rw [norm_coef, norm_coef, h]
theorem terms_lin (f : List α → Int) (a : FS α) : lin f (terms le a) = lin f a := by
  unfold terms
  rw [lin_perm f (canon_perm _), nz_lin, norm_lin]
theorem terms_nodup (a : FS α) : ((terms le a).map (·.1)).Nodup := by
  have h : ((nz (norm a)).map (·.1)).Nodup := List.Nodup.sublist (List.Sublist.map _ List.filter_sublist) (norm_nodup a)
  exact ((canon_perm (le := le) (norm a)).map (·.1)).symm.nodup h
theorem nz_coef {m : FS α} (w : List α) : coef (nz m) w = coef m w := by
  induction m with
  | nil => rfl
  | cons p r ih =>
    obtain ⟨u, n⟩ := p
    unfold nz at ih ⊢
    by_cases h : n = 0
    · subst h
      rw [List.filter_cons_of_neg (by simp), ih]; simp [coef]
    · rw [List.filter_cons_of_pos (by simpa using h)]
      simp only [coef, ih]
theorem coef_perm {a b : FS α} (h : a.Perm b) (w : List α) : coef a w = coef b w := by
  induction h with
  | nil => rfl
  | cons p _ ih => obtain ⟨u, n⟩ := p; simp only [coef, ih]
  | swap p q _ => obtain ⟨u, n⟩ := p; obtain ⟨v, m⟩ := q; simp only [coef]; omega
  | trans _ _ h1 h2 => exact h1.trans h2
theorem terms_coef (a : FS α) (w : List α) : coef (terms le a) w = coef a w := by
  unfold terms
  rw [coef_perm (canon_perm _), nz_coef, norm_coef]
theorem terms_len (a : FS α) : (terms le a).length ≤ a.length := by
  have h1 := (canon_perm (le := le) (norm a)).length_eq
  have h2 : (nz (norm a)).length ≤ (norm a).length := List.length_filter_le _ _
  have h3 := foldl_len a []
  unfold terms
  unfold norm at h1 h2 ⊢
  simp only [List.length_nil] at h3
  omega
theorem norm_word : ∀ (a m : FS α) (P : List α → Prop), (∀ p ∈ m, P p.1) → (∀ p ∈ a, P p.1) → ∀ p ∈ a.foldl (fun m p => add m p.1 p.2) m, P p.1
  | [], m, P, h, _ => h
  | q :: r, m, P, h, h2 => by
    refine norm_word r _ P (fun p hp => ?_) fun p hp => h2 p (List.mem_cons_of_mem _ hp)
    have hk : p.1 ∈ (add m q.1 q.2).map (·.1) := List.mem_map.mpr ⟨p, hp, rfl⟩
    rcases (add_keys _ _ _ _).mp hk with k | k
    · obtain ⟨p', h3, h4⟩ := List.mem_map.mp k
      rw [← h4]; exact h p' h3
    · rw [k]; exact h2 q (List.mem_cons_self ..)
theorem terms_word {a : FS α} {P : List α → Prop} (h : ∀ p ∈ a, P p.1) : ∀ p ∈ terms le a, P p.1 := fun p hp => by
  have h1 := (canon_perm (le := le) (norm a)).mem_iff.mp hp
  have h2 := (List.mem_filter.mp h1).1
  exact norm_word a [] P (fun _ h => nomatch h) h p h2

/-! ### counts -/
/-- the count of a pattern in a row, both from their ends -/
def cntR : List α → List α → Int
  | [], _ => 1
  | _ :: _, [] => 0
  | a :: u, x :: r => cntR (a :: u) r + (if a = x then cntR u r else 0)
def cnt (u r : List α) : Int := cntR u.reverse r.reverse

/-! ### the product of two counts as a sum of counts: words from their ends -/
def snocs (a : α) (l : FS α) : FS α := l.map fun p => (p.1 ++ [a], p.2)
def F : List α → List α → FS α
  | [], v => [(v.reverse, 1)]
  | a :: u, [] => [((a :: u).reverse, 1)]
  | a :: u, b :: v => snocs a (F u (b :: v)) ++ (snocs b (F (a :: u) v) ++ if a = b then snocs a (F u v) else [])
termination_by u v => u.length + v.length

theorem F_nil (v : List α) : F [] v = [(v.reverse, 1)] := by rw [F]
theorem F_nil2 (u : List α) : F u [] = [(u.reverse, 1)] := by
  cases u with
  | nil => rw [F]
  | cons a u => rw [F]
theorem F_cons (a b : α) (u v : List α) : F (a :: u) (b :: v) = snocs a (F u (b :: v)) ++ (snocs b (F (a :: u) v) ++ if a = b then snocs a (F u v) else []) := by rw [F]

theorem lin_snocs_nil (a : α) (l : FS α) : lin (fun w => cnt w []) (snocs a l) = 0 := by
  induction l with
  | nil => rfl
  | cons p r ih =>
    have e : cnt (p.1 ++ [a]) ([] : List α) = 0 := by
      unfold cnt
      rw [List.reverse_append]
      rfl
    unfold snocs at ih ⊢
    simp only [List.map_cons, lin, e, ih]; simp
theorem lin_snocs (a x : α) (r : List α) (l : FS α) : lin (fun w => cnt w (r ++ [x])) (snocs a l) = lin (fun w => cnt w r) (snocs a l) + (if a = x then lin (fun w => cnt w r) l else 0) := by
  induction l with
  | nil => simp [snocs, lin]
  | cons p q ih =>
    obtain ⟨u, n⟩ := p
    have e : cnt (u ++ [a]) (r ++ [x]) = cnt (u ++ [a]) r + (if a = x then cnt u r else 0) := by
      unfold cnt
      rw [List.reverse_append, List.reverse_append]
      rfl
    unfold snocs at ih ⊢
    simp only [List.map_cons, lin, e, ih]
    split
    · rw [Int.mul_add]; omega
    · simp only [Int.add_zero]
def wF (u v r : List α) : Int := lin (fun w => cnt w r) (F u v)
theorem cnt_one (u r : List α) : lin (fun w => cnt w r) [(u.reverse, (1 : Int))] = cntR u r.reverse := by
  simp [lin, cnt]
theorem lin_ite (f : List α → Int) (c : Prop) [Decidable c] (l : FS α) : lin f (if c then l else []) = if c then lin f l else 0 := by
  split <;> rfl
/-- THE PRODUCT -/
theorem F_prod (r : List α) : ∀ u v : List α, lin (fun w => cnt w r.reverse) (F u v) = cntR u r * cntR v r := by
  induction r with
  | nil =>
    intro u v
    match u, v with
    | [], v => rw [F_nil, cnt_one]; simp [cntR]
    | a :: u, [] => rw [F_nil2, cnt_one]; simp [cntR]
    | a :: u, b :: v =>
      rw [F_cons, lin_append, lin_append, lin_ite]
      simp only [List.reverse_nil, lin_snocs_nil]
      simp [cntR]
  | cons x r ih =>
    intro u v
    match u, v with
    | [], v => rw [F_nil, cnt_one]; simp [cntR]
    | a :: u, [] => rw [F_nil2, cnt_one]; simp [cntR]
    | a :: u, b :: v =>
      have e1 := ih (a :: u) (b :: v)
      have e2 := ih u (b :: v)
      have e3 := ih (a :: u) v
      have e4 := ih u v
      rw [F_cons, lin_append, lin_append, lin_ite] at e1
      rw [F_cons, lin_append, lin_append, lin_ite, List.reverse_cons, lin_snocs, lin_snocs, lin_snocs, e2, e3, e4]
      simp only [cntR]
      generalize cntR (a :: u) r = A at *
      generalize cntR (b :: v) r = B at *
      generalize cntR u r = A' at *
      generalize cntR v r = B' at *
      generalize lin (fun w => cnt w r.reverse) (snocs a (F u (b :: v))) = S1 at *
      generalize lin (fun w => cnt w r.reverse) (snocs b (F (a :: u) v)) = S2 at *
      generalize lin (fun w => cnt w r.reverse) (snocs a (F u v)) = S3 at *
      by_cases h1 : a = x
      · by_cases h2 : b = x
        · have h3 : a = b := h1.trans h2.symm
          simp only [h1, h2, if_true] at e1 ⊢
          rw [Int.add_mul, Int.mul_add, Int.mul_add]
          omega
        · have h3 : ¬ a = b := fun e => h2 (e ▸ h1)
          simp only [h1, h2, if_true, if_false, show ¬ x = b from fun e => h2 e.symm] at e1 ⊢
          rw [Int.add_mul, Int.mul_add, Int.mul_add]
          simp only [Int.mul_zero]
          omega
      · by_cases h2 : b = x
        · have h3 : ¬ a = b := fun e => h1 (e.trans h2)
          simp only [h1, h2, if_true, if_false] at e1 ⊢
          rw [Int.add_mul, Int.mul_add, Int.mul_add]
          simp only [Int.zero_mul]
          omega
        · simp only [h1, h2, if_false] at e1 ⊢
          by_cases h3 : a = b
          · simp only [h3, if_true, if_false, h2] at e1 ⊢; simp; omega
          · simp only [h3, if_false] at e1 ⊢; simp; omega

/-- the product, words forward -/
def FF (u v : List α) : FS α := F u.reverse v.reverse
theorem FF_prod (u v r : List α) : lin (fun w => cnt w r) (FF u v) = cnt u r * cnt v r := by
  have := F_prod r.reverse u.reverse v.reverse
  rw [List.reverse_reverse] at this
  exact this

/-! ### sums times sums -/
def scl (k : Int) (l : FS α) : FS α := l.map fun p => (p.1, p.2 * k)
theorem lin_scl (f : List α → Int) (k : Int) : ∀ l : FS α, lin f (scl k l) = lin f l * k
  | [] => by simp [scl, lin]
  | (u, n) :: r => by
    have := lin_scl f k r
    unfold scl at this ⊢
    simp only [List.map_cons, lin, this]
    rw [Int.add_mul, Int.mul_right_comm]
theorem coef_scl (k : Int) (w : List α) : ∀ l : FS α, coef (scl k l) w = coef l w * k
  | [] => by simp [scl, coef]
  | (u, n) :: r => by
    have := coef_scl k w r
    unfold scl at this ⊢
    simp only [List.map_cons, coef, this]
    split
    · rw [Int.add_mul]
    · simp
def mulF (a b : FS α) : FS α := a.flatMap fun p => b.flatMap fun q => scl (p.2 * q.2) (FF p.1 q.1)
theorem lin_flat (f : List α → Int) {β : Type} (g : β → FS α) : ∀ l : List β, lin f (l.flatMap g) = (l.map fun x => lin f (g x)).sum
  | [] => rfl
  | x :: l => by
    rw [List.flatMap_cons, lin_append, lin_flat f g l, List.map_cons, List.sum_cons]
theorem coef_flat (w : List α) {β : Type} (g : β → FS α) : ∀ l : List β, coef (l.flatMap g) w = (l.map fun x => coef (g x) w).sum
  | [] => rfl
  | x :: l => by
    rw [List.flatMap_cons, coef_append, coef_flat w g l, List.map_cons, List.sum_cons]
theorem mulF_row (r u : List α) (n : Int) : ∀ b : FS α, lin (fun w => cnt w r) (b.flatMap fun q => scl (n * q.2) (FF u q.1)) = n * cnt u r * lin (fun w => cnt w r) b
  | [] => by simp [lin]
  | (v, m) :: b => by
    rw [List.flatMap_cons, lin_append, mulF_row r u n b, lin_scl, FF_prod]
    simp only [lin]
    grind
theorem mulF_prod (r : List α) : ∀ a b : FS α, lin (fun w => cnt w r) (mulF a b) = lin (fun w => cnt w r) a * lin (fun w => cnt w r) b
  | [], b => by simp [mulF, lin]
  | (u, n) :: a, b => by
    have := mulF_prod r a b
    unfold mulF at this ⊢
    rw [List.flatMap_cons, lin_append, this, mulF_row]
    simp only [lin]
    grind

end
end KM

set_option Elab.async false
set_option linter.all false
set_option maxRecDepth 100000
namespace KR
open PySem PySem.Spec PyProof.Rows L2
/-! ### for k, v in d.items(), the keys tuples -/
section
variable {X : Cx} {pins : List (Addr × Obj)} {σ : L2.St} {H : Hp} {s : Shared} {d : Addr} {o : Obj}
theorem frzT2 {kvs : List (List Key × V)} (I : Inv X pins σ H s) (h : H d = some (.frz o (.dT kvs))) :
    (d == sysModules) = false ∧ s.heap.get? d = some o ∧ o.ExactDict ∧ ∃ (es : Array DictEntry) (ep : Nat), o.data = .dict es ep ∧ es.size = kvs.length ∧
      ∀ (i : Nat) (hi : i < es.size) (k : List Key) (v : V), kvs[i]? = some (k, v) → ∃ (q : Addr), es[i].key = .ref q ∧ H q = some (.tup (k.map kV)) ∧ RelV v es[i].val := by
  obtain ⟨hd, z, hs, xs, pr, o', es, ep, ho, hx, hdt, he, _⟩ := I.hok d _ h
  rw [hd] at ho
  cases ho
  refine ⟨hs, hd, hx, es, ep, hdt, ?_, fun i hi k v e => ?_⟩
  · have l1 : es.size = xs.length := size_of_entries he
    have l2 : kvs.length = xs.length := Paired.length pr
    omega
  · obtain ⟨b, hb, e1, e2, e3⟩ := paired_get pr e
    have q := entry_at he i
    rw [hb, Array.getElem?_eq_getElem hi] at q
    have q' := Option.some.inj q
    refine ⟨b.2.1, ?_, e2, ?_⟩
    · rw [q']; rfl
    · rw [q']; exact e3
end
def ItiT (d : Addr) (o : Obj) (kvs : List (List Key × V)) : It :=
  ⟨fun i H => H d = some (.frz o (.dT kvs)) ∧ i < kvs.length, fun i H x H' => ∃ T k v q, kvs[i]? = some (k, v) ∧ x = .ref T ∧ H T = none ∧ H q = some (.tup (k.map kV)) ∧ H' = upd H T (.tup [.ref q, v]), fun i H => H d = some (.frz o (.dT kvs)) ∧ kvs.length ≤ i⟩
section
variable {P : Program} {w : World} {K : PySem.W.Frag} {d : Addr} {o : Obj} {es : Array DictEntry} {ep : Nat}
theorem turn_itemsT {kvs : List (List Key × V)} {elts : List Expr} {kk : Nat} {tpos : Pos} (it : Addr) (hod : o.data = .dict es ep) :
    Turn P w K (.Tuple elts kk tpos) (ItiT d o kvs) [it] it (fun i h => ∃ ok ov, IsItemIter h it d i kvs.length ep ok ov) where
  mem := by simp
  obj := fun i h st b hb => by
    have e : b = it := by simpa using hb
    subst e
    obtain ⟨ok, ov, e⟩ := st
    exact ⟨_, e, fun v z => nomatch z⟩
  keep := fun i h h' st k => let ⟨ok, ov, e⟩ := st; ⟨ok, ov, k it (by simp) _ e⟩
  item := by
    intro X hP hw hK hc i pins s σ H E I hf st hg
    subst hP hw hK
    obtain ⟨hd, hi⟩ := hg
    obtain ⟨hs, hgd, hx, es', ep', hdt, hsz, ent⟩ := frzT2 I hd
    obtain ⟨e1, e2⟩ := dict_ep hdt hod
    subst e1 e2
    obtain ⟨⟨k, v⟩, hkv⟩ : ∃ p, kvs[i]? = some p := ⟨kvs[i], List.getElem?_eq_getElem hi⟩
    obtain ⟨q, hkey, hq, rv⟩ := ent i (by omega) k v hkv
    obtain ⟨ok, ov, he⟩ := st
    rw [← hsz] at he
    have hlt : it < s.heap.objs.size := Heap.lt_size he
    have hm : s.heap.DictRaw d es ep := ⟨o, hgd, hx, hdt⟩
    refine wpAny_pyNext_items_item_raw he hm (by omega) fun h' ho hT hz hk => ?_
    refine ⟨_, rfl, wpAny_letOwnedTupleGo_items (s := { s with heap := h' }) ho fun h'' he' sb => ?_⟩
    have hT2 : h''.get? s.heap.objs.size = some { cls := .type "tuple", data := .seq #[es[i].key, es[i].val] } := (sb.2 _ (Nat.ne_of_gt hlt)).trans hT
    have new : ObjOk X.prog X.w (upd H s.heap.objs.size (.tup [.ref q, v])) h'' s.heap.objs.size (.tup [.ref q, v]) :=
      ⟨by show 2 ≤ sizeLine; decide, [es[i].key, es[i].val], .cons (by rw [hkey]; rfl) (.cons rv .nil), ⟨_, hT2, rfl, _, rfl⟩⟩
    have I1 : Inv X pins σ (upd H s.heap.objs.size (.tup [.ref q, v])) { s with heap := h'' } :=
      I.turnedNew (t' := s.toks) (ch := [it]) (fun b ob hb e => (sb.2 b (by simpa using hb)).trans (hk b ob (by simpa using hb) e)) hf (Nat.le_refl _) new
    refine ⟨.ref s.heap.objs.size, _, I1, rfl, ⟨_, k, v, q, hkv, rfl, I.hok.fresh (Nat.le_refl _), hq, rfl⟩, ⟨es[i].key, es[i].val, ?_⟩, fun b hb => ?_⟩
    · rw [← hsz]; exact he'
    · have e : b = it := by simpa using hb
      rw [e, upd_ne (Nat.ne_of_lt hlt)]
      exact (hf it (by simp)).1
  done := by
    intro X hP hw hK hc i pins s σ H E I hf st hg
    subst hP hw hK
    obtain ⟨hd, hi⟩ := hg
    obtain ⟨f0, f1, f2, f3, f4, f5⟩ := hf it (by simp)
    obtain ⟨hs, hgd, hx, es', ep', hdt, hsz, ent⟩ := frzT2 I hd
    obtain ⟨e1, e2⟩ := dict_ep hdt hod
    subst e1 e2
    obtain ⟨ok, ov, he⟩ := st
    rw [← hsz] at he
    have hm : s.heap.DictRaw d es ep := ⟨o, hgd, hx, hdt⟩
    exact wpAny_pyNext_items_end_raw (I.ok.hd hc) he hm (by omega) fun h' eb => ⟨rfl, I.turned (t' := s.toks) (fun b ob hb e => eb b ob hb e) f0 f1 f3 f4 f5⟩
  self := fun A i s Q E st h => let ⟨_, _, e⟩ := st; PySem.W.kcp_self e h
end
def iItemsT (td : TE) : TI := fun σ H R => td σ H fun x H1 => ∃ d o kvs, x = .ref d ∧ H1 d = some (.frz o (.dT kvs)) ∧ R (ItiT d o kvs) H1
section
variable {X : Cx} {tg e : Expr} {td : TE} {apos cpos : Pos}
theorem pi_itemsT {elts : List Expr} {kk : Nat} {tpos : Pos} (he : PE X e td) (hbase : attributeBase e "items" X.env (eval e X.env) = eval e X.env := by rfl) (hline : (apos.endLine == cpos.line) = true := by rfl) :
    PI X (.Tuple elts kk tpos) (.Call (.Attribute e "items" apos) [] [] cpos) (iItemsT td) := by
  refine ⟨fun pins s σ H R I h => ?_⟩
  refine wpAny_Call_method (T := "dict") (id := "dict.items") hbase rfl hline F.plainAttrs_dict F.slot_dict_items F.type_dict_items (thn (he.run pins s σ H _ I h) fun u s1 ⟨x, H1, I1, rx, d, o, kvs, ex, hd, q⟩ => ?_)
  subst ex
  obtain rfl : u = Value.ref d := rx
  obtain ⟨hs, hgd, hx, es, ep, hdt, hsz, ent⟩ := frzT2 I1 hd
  have hm : s1.heap.DictRaw d es ep := ⟨o, hgd, hx, hdt⟩
  refine ⟨hm.typeIs, ?_, ?_⟩
  · intro b e
    injection e with e
    subst e
    exact ⟨o, hgd, hx.2.1⟩
  have I2 : Inv X pins σ H1 { s1 with heap := s1.heap.push { cls := .type "dict_items", data := .fields #[.ref d] } } := I1.kept (t' := s1.toks) fun b ob q => Heap.get?_push_of_some _ q
  have hm2 : (s1.heap.push { cls := .type "dict_items", data := .fields #[.ref d] }).DictRaw d es ep := ⟨o, Heap.get?_push_of_some _ hgd, hx, hdt⟩
  have fin : wpAny (model X.prog X.w) X.A (pyIter (.ref s1.heap.objs.size)) (PIE X pins σ (.Tuple elts kk tpos) R) X.xe { s1 with heap := s1.heap.push { cls := .type "dict_items", data := .fields #[.ref d] } } := by
    refine wpAny_pyIter_items_raw (d := d) ⟨_, Heap.get?_push_size _ rfl, rfl, rfl⟩ hm2 (pi_one (tk := s1.toks) I2 _ (turn_itemsT _ hdt) ⟨.none, .none, ?_⟩ q)
    rw [← hsz]
    exact Heap.get?_push_size _ rfl
  show wpAny _ _ (callWith cpos (.builtin "dict.items") [.ref d] [] []) _ X.xe s1
  exact method_meetsIn F.slot_dict_items F.entry_dict_items rfl (PySem.evalArgs_none ⟨rfl, hm.typeIs, F.args_dict_items_1 _, _, meets_dict_items_raw d hs, ⟨⟨es, ep, hm⟩, fin⟩⟩)
end
end KR

set_option Elab.async false
set_option linter.all false
set_option maxRecDepth 100000
namespace KR
open PySem PySem.Spec PyProof.Rows L2
/-! ### displays and dict() with tuple keys -/
def putAllT (kvs : List (List Key × V)) (more : List (List Key × Addr × V)) : List (List Key × V) := more.foldl (fun acc z => putK acc z.1 z.2.2) kvs
theorem KT_putAll {H : Hp} : ∀ {more : List (List Key × Addr × V)} {rs : List (List Key × Addr × Value)} {kvs : List (List Key × V)} {xs : List (List Key × Addr × Value)},
    Paired (fun (p : List Key × Addr × V) (q : List Key × Addr × Value) => p.1 = q.1 ∧ p.2.1 = q.2.1 ∧ H p.2.1 = some (.tup (p.1.map kV)) ∧ RelV p.2.2 q.2.2) more rs → KT H kvs xs → KT H (putAllT kvs more) (storedAllH xs rs) := by
  intro more rs kvs xs r
  induction r generalizing kvs xs with
  | nil => intro q; exact q
  | @cons p q ps qs h t ih =>
    intro r0
    obtain ⟨h1, h2, h3, h4⟩ := h
    have e : KT H (putK kvs p.1 p.2.2) (storedH xs q.1 q.2.1 q.2.2) := by
      have := KT.put r0 p.1 h3 h4
      rw [← h1, ← h2]; exact this
    exact ih e
theorem length_putAllT : ∀ (more : List (List Key × Addr × V)) (kvs : List (List Key × V)), (putAllT kvs more).length ≤ kvs.length + more.length
  | [], kvs => by show kvs.length ≤ kvs.length + 0; omega
  | p :: r, kvs => by
    have h1 := length_putAllT r (putK kvs p.1 p.2.2)
    have h2 := length_putK kvs p.1 p.2.2
    show (putAllT (putK kvs p.1 p.2.2) r).length ≤ _
    rw [List.length_cons]; omega
/-- {k: v, ..}, the keys tuples -/
def tDispT (trs : List (TE × TE)) : TE := fun σ H Q => ∀ p, H p = none → tPairs trs σ (upd H p (.dT [])) fun ps H2 => H2 p = some (.dT []) ∧ ∃ kas : List (List Key × Addr × V), ps = kas.map (fun z => (V.ref z.2.1, z.2.2)) ∧ (∀ z ∈ kas, H2 z.2.1 = some (.tup (z.1.map kV))) ∧ kas.length ≤ 15 ∧ Q (.ref p) (upd H2 p (.dT (putAllT [] kas)))
theorem carriesH_of {X : Cx} {pins : List (Addr × Obj)} {σ : L2.St} {H : Hp} {s : Shared} (I : Inv X pins σ H s) : ∀ {kas : List (List Key × Addr × V)} {ws : List (Value × Value)}, VV (kas.map fun z => (V.ref z.2.1, z.2.2)) ws → (∀ z ∈ kas, H z.2.1 = some (.tup (z.1.map kV))) →
    ∃ rs : List (List Key × Addr × Value), CarriesH (tupleKind (mixKind X.prog X.w)) s.heap ws rs ∧ Paired (fun (p : List Key × Addr × V) (q : List Key × Addr × Value) => p.1 = q.1 ∧ p.2.1 = q.2.1 ∧ H p.2.1 = some (.tup (p.1.map kV)) ∧ RelV p.2.2 q.2.2) kas rs
  | [], _, r, _ => by rw [List.map_nil] at r; cases r; exact ⟨[], True.intro, .nil⟩
  | p :: kas, _, r, h => by
    rw [List.map_cons] at r
    cases r with
    | @cons a b as bs h1 t =>
      obtain ⟨rs, c, q⟩ := carriesH_of I t fun z hz => h z (List.mem_cons_of_mem _ hz)
      obtain ⟨b1, b2⟩ := b
      have hp := h p (List.mem_cons_self ..)
      obtain ⟨e1, e2⟩ := h1
      cases (show b1 = Value.ref p.2.1 from e1)
      exact ⟨(p.1, p.2.1, b2) :: rs, ⟨rfl, rfl, key_of I.hok hp, c⟩, .cons ⟨rfl, rfl, hp, e2⟩ q⟩
theorem pe_dispT {X : Cx} {pos : Pos} {keys : List (Option Expr)} {values : List Expr} {trs : List (TE × TE)} (hu : X.A.units + 1 < cLine) (h : PPs X pos keys values trs) (hall : keys.all (·.isSome) = true) (hl : keys.length = values.length) (h0 : keys ≠ [])
    (h15 : keys.length ≤ 15) : PE X (.Dict keys values pos) (tDispT trs) := by
  refine ⟨fun pins s σ H Q I q => ?_⟩
  have hn := I.hok.fresh (Nat.le_refl s.heap.objs.size)
  have I1 := I.laid (a := s.heap.objs.size) (o := .dT []) (h' := s.heap.push { cls := .type "dict", data := .dict #[] }) (t' := s.toks) (fun _ _ q => Heap.get?_push_of_some _ q) (Nat.le_refl _) (dt_empty s.heap I.big)
  have hpl := pairTrees_length keys values X.env pos hall hl
  have hp0 : pairTrees keys values X.env pos ≠ [] := fun he => by
    rw [he] at hpl
    exact h0 (List.length_eq_zero_iff.mp hpl.symm)
  rw [arm_eval_Dict, zip_pairTrees keys values X.env pos hall hl, dictDisplay_pairs (pairTrees keys values X.env pos) hp0 (by omega)]
  refine wpAny_bind (wpAny_standAt (wpAny_bind (wpAny_subDictH (knd := tupleKind (mixKind X.prog X.w)) (show X.A.units < cLine by omega) (by omega) (thn (h.run pins _ σ _ _ I1 (q _ hn)) fun ws s2 ⟨ps, H2, I2, rel, e, kas, ep, ek, lk, q2⟩ => ?_))))
  subst ep
  obtain ⟨rs, c, rk⟩ := carriesH_of I2 rel ek
  obtain ⟨z, hd, xs0, r0, dd⟩ := dt_of I2.hok e
  cases r0
  refine ⟨rs, c, dd, fun h' tk dd' hs => wpAny_pure ⟨.ref s.heap.objs.size, _, ?_, rfl, q2⟩⟩
  have hz : (putAllT [] kas).length ≤ sizeLine := by
    have h1 := length_putAllT kas []
    rw [List.length_nil] at h1
    rw [sizeLine_eq]; omega
  obtain ⟨o, es, ep, hq, h2, h3, h4, _, h5⟩ := dd'
  refine d_write I2 (by rw [e]; exact True.intro) hs ⟨o, hq⟩ ⟨hz, hd, _, (KT_putAll rk .nil).keeps fun c ys ec => ?_, o, es, ep, hq, h2, h3, h4, h5⟩
  rw [upd_ne (ne_of ec e (fun z => nomatch z))]
  exact ec
/-- dict(xs), xs a list of pairs whose firsts are tuples -/
def rDictT (K : PySem.W.Frag) : List V → Hp → VK → Prop := fun xs H Q => ∃ (a : Addr) (kas : List (Addr × List Key × Addr × V)), xs = [.ref a] ∧ SqL K H a (kas.map fun z => V.ref z.1) ∧
  (∀ z ∈ kas, H z.1 = some (.tup [.ref z.2.2.1, z.2.2.2]) ∧ H z.2.2.1 = some (.tup (z.2.1.map kV))) ∧ ∀ p, H p = none → Q (.ref p) (upd H p (.dT (putAllT [] (kas.map (·.2)))))
theorem pairsT_of {X : Cx} {pins : List (Addr × Obj)} {σ : L2.St} {H : Hp} {s : Shared} (I : Inv X pins σ H s) : ∀ {kas : List (Addr × List Key × Addr × V)}, (∀ z ∈ kas, H z.1 = some (.tup [.ref z.2.2.1, z.2.2.2]) ∧ H z.2.2.1 = some (.tup (z.2.1.map kV))) →
    ∃ rs : List (List Key × Addr × Value), Paired (fun (p : List Key × Addr × V) (q : List Key × Addr × Value) => p.1 = q.1 ∧ p.2.1 = q.2.1 ∧ H p.2.1 = some (.tup (p.1.map kV)) ∧ RelV p.2.2 q.2.2) (kas.map (·.2)) rs ∧ rs.length = kas.length ∧
      ∀ (j : Nat) (r : List Key × Addr × Value), rs[j]? = some r → ∃ z, kas[j]? = some z ∧ IsTup s.heap z.1 #[.ref r.2.1, r.2.2]
  | [], _ => ⟨[], .nil, rfl, fun j r e => by simp at e⟩
  | z :: kas, h => by
    obtain ⟨rs, p, l, q⟩ := pairsT_of I (kas := kas) fun y hy => h y (List.mem_cons_of_mem _ hy)
    obtain ⟨h1, h2⟩ := h z (List.mem_cons_self ..)
    obtain ⟨_, its, rv, ht⟩ := I.hok _ _ h1
    obtain ⟨u, y, ei, ru, ry⟩ := vals2 rv
    subst ei
    cases (show u = Value.ref z.2.2.1 from ru)
    refine ⟨(z.2.1, z.2.2.1, y) :: rs, .cons ⟨rfl, rfl, h2, ry⟩ p, by rw [List.length_cons, List.length_cons, l], fun j r e => ?_⟩
    cases j with
    | zero =>
      have e' : (z.2.1, z.2.2.1, y) = r := Option.some.inj e
      subst e'
      exact ⟨z, rfl, ht⟩
    | succ j =>
      obtain ⟨z', e1, e2⟩ := q j r (by simpa using e)
      exact ⟨z', by simpa using e1, e2⟩
theorem pairedR {α β : Type} {G : α → β → Prop} {l₁ : List α} {l₂ : List β} (h : Paired G l₁ l₂) : ∀ {i : Nat} {b : β}, l₂[i]? = some b → ∃ a, l₁[i]? = some a ∧ G a b := by
  induction h with
  | nil => intro i a e; simp at e
  | @cons a b l₁ l₂ r t ih =>
    intro i a' e
    cases i with
    | zero => exact ⟨a, rfl, by have : b = a' := by simpa using e
                                subst this; exact r⟩
    | succ i =>
      obtain ⟨x, h1, h2⟩ := ih (i := i) (by simpa using e)
      exact ⟨x, by simpa using h1, h2⟩
theorem call_dictT {X : Cx} (hcalm : X.calm = true) (hu : X.A.units + 3 < cLine) : CallR X (.type "dict") (rDictT X.K) := by
  intro pins s σ H xs us Q I r q
  obtain ⟨a, kas, ex, hq, hp, q⟩ := q
  subst ex
  obtain ⟨u, eu, rx⟩ := vals1 r
  subst eu
  cases rx
  obtain ⟨its, rv, pl, hz⟩ := I.list hq
  have ei : its = kas.map fun z => Value.ref z.1 := by
    have := refs_at (ps := kas.map (·.1)) (us := its) (by rw [List.map_map]; exact rv)
    rw [this, List.map_map]; rfl
  subst ei
  rw [List.length_map] at hz
  obtain ⟨rs, rel, hl, hpr⟩ := pairsT_of I hp
  obtain ⟨o, n, ho, hc, hd, hdat⟩ := pl
  have PA' := PairArg.list (prog := X.prog) (w := X.w) a (kas.map fun z => Value.ref z.1).toArray (fun j => ((kas[j]?).map (·.1)).getD 0) (rs.map fun r => (Value.ref r.2.1, r.2.2))
  refine call_dict_pairsH (knd := tupleKind (mixKind X.prog X.w)) (ps := rs) PA' (I.ok.hd hcalm) (show X.A.units + 1 + 1 < cLine by omega) ⟨⟨o, n, ho, hc, hd, hdat⟩, ?_, fun j k v e => ?_⟩ ⟨by rw [List.length_map], fun i key v e => ?_⟩ (fun h' hk x hx => ?_) (by rw [List.length_map, hl]; exact hz) fun h' tk dd' hk => ?_
  · simp [hl]
  · rw [List.getElem?_map] at e
    cases er : rs[j]? with
    | none => rw [er] at e; simp at e
    | some r =>
      rw [er] at e
      obtain ⟨z, ez, ht⟩ := hpr j r er
      have e' : (Value.ref r.2.1, r.2.2) = (k, v) := Option.some.inj e
      cases e'
      refine ⟨by simp [ez], .inl ?_⟩
      have et : ((kas[j]?).map (·.1)).getD 0 = z.1 := by rw [ez]; rfl
      show s.heap.IsTuple (((kas[j]?).map (·.1)).getD 0) _
      rw [et]
      exact ht
  · rw [show PairRel (rs.map fun r => (Value.ref r.2.1, r.2.2)) i key v = ((rs.map fun r => (Value.ref r.2.1, r.2.2))[i]? = some (key, v)) from rfl, List.getElem?_map] at e
    cases er : rs[i]? with
    | none => rw [er] at e; simp at e
    | some r =>
      rw [er] at e
      have e' : (Value.ref r.2.1, r.2.2) = (key, v) := Option.some.inj e
      cases e'
      exact ⟨r.1, r.2.1, rfl, rfl⟩
  · obtain ⟨j, hj⟩ := List.mem_iff_getElem?.mp hx
    obtain ⟨p, hp', e1, e2, e3, e4⟩ := pairedR rel hj
    obtain ⟨o', its, m, h1, h2⟩ := (show IsTupleKey (mixKind X.prog X.w) s.heap p.1 p.2.1 from key_of I.hok e3)
    show IsTupleKey (mixKind X.prog X.w) h' x.1 x.2.1
    rw [← e1, ← e2]
    exact ⟨o', its, m, hk _ _ (Nat.ne_of_lt (Heap.lt_size h1)) (by simp) h1, h2⟩
  · have hm : (s.heap.objs.size == sysModules) = false := beq_eq_false_iff_ne.mpr (Nat.ne_of_gt I.big)
    have hlen : (putAllT [] (kas.map (·.2))).length ≤ sizeLine := by
      refine Nat.le_trans (length_putAllT _ []) ?_
      rw [List.length_nil, Nat.zero_add, List.length_map]
      exact hz
    have hn := I.hok.fresh (Nat.le_refl s.heap.objs.size)
    obtain ⟨o', es, ep, hq', h2, h3, h4, _, h5⟩ := dd'
    refine ⟨.ref s.heap.objs.size, upd H s.heap.objs.size (.dT (putAllT [] (kas.map (·.2)))), I.laid (t' := tk) (fun b u e => hk b u (by simp) e) (Nat.le_refl _) ⟨hlen, hm, _, (KT_putAll rel .nil).keeps fun c ys ec => ?_, o', es, ep, hq', h2, h3, h4, h5⟩, rfl, q _ hn⟩
    rw [upd_ne (ne_of_none ec hn)]
    exact ec
end KR

set_option Elab.async false
set_option linter.all false
set_option maxRecDepth 100000
namespace KR
open PySem PySem.Spec PyProof.Rows L2
open PySem.AutoSeq1 (wpAny_loadPart')
/-! ### for i, x in enumerate(a tuple) -/
set_option maxHeartbeats 1000000 in
theorem meets_enumerate_newT (l : Addr) (items : Array Value) (n : Nat) (dct : Option Addr) (sl : Array (Option Value)) :
    Meets (Builtin.«enumerate.__new__» ⟨[.type "enumerate", .ref l], []⟩) (fun _ R s => s.heap.get? l = some { cls := .type "tuple", dict := dct, data := .seq items n, slots := sl } ∧
      R (.ok (.ret (.ref (s.heap.push { cls := .type "tuple_iterator", data := .fields #[.ref l, .int 0 0] }).objs.size)))
        { s with heap := (s.heap.push { cls := .type "tuple_iterator", data := .fields #[.ref l, .int 0 0] }).push { cls := .type "enumerate", data := .fields #[.none, .bool false, .ref s.heap.objs.size, rawInt 0, .none, .none] } }) :=
  .of_wp fun prog w A R s h => by
    obtain ⟨hp, g, d, tk, os⟩ := s; obtain ⟨hl, h⟩ := h
    have hsub := sub_enumerate
    have hL : Heap.IsTuple (Shared.heap ⟨hp, g, d, tk, os⟩) l items := ⟨_, hl, rfl, n, rfl⟩
    wp_walk using wpAny_loadPart' hl
    refine wpAny_stack_any fun st => wpAny_pure ?_
    split
    · rename_i c _ _ _ _ _
      cases (c == Value.type "enumerate")
      · wp_walk using wpAny_loadPart' hl, wpAny_pyIter_tuple hL
        exact ⟨_, rfl, h⟩
      · wp_walk using wpAny_loadPart' hl, wpAny_pyIter_tuple hL
        exact ⟨_, rfl, h⟩
    · wp_walk using wpAny_loadPart' hl, wpAny_pyIter_tuple hL
      exact ⟨_, rfl, h⟩
theorem call_enumerate_tuple {prog : Program} {w : World} {A : Around} {E : Value → Shared → Prop} {s : Shared} {l : Addr} {items : Array Value} {Q : Value → Shared → Prop} (hL : s.heap.IsTuple l items)
    (h : ∀ h', IsEnum h' (s.heap.objs.size + 1) s.heap.objs.size 0 .none → h'.IsTupleIter s.heap.objs.size l 0 → h'.objs.size = s.heap.objs.size + 2 →
      (∀ b o, s.heap.get? b = some o → h'.get? b = some o) → Q (.ref (s.heap.objs.size + 1)) { s with heap := h' }) :
    wpAny (model prog w) A (call (.type "enumerate") [.ref l]) Q E s := by
  obtain ⟨⟨c, dct, dt, sl⟩, hl, hc, n, hd⟩ := hL
  replace hc : c = .type "tuple" := hc
  replace hd : dt = .seq items n := hd
  subst hc hd
  refine callType_new F.called_enumerate (by decide) (F.typeCall_enumerate_1 _) (F.newCall_enumerate_1 _) (fun obj => F.args_object_init_2 obj _) F.entry_enumerate_new
    (meets_enumerate_newT l items n dct sl) ⟨hl, ?_⟩
  have hz : (s.heap.push { cls := .type "tuple_iterator", data := .fields #[.ref l, .int 0 0] }).objs.size = s.heap.objs.size + 1 := Heap.size_push ..
  show _ ∧ _
  rw [hz]
  have he : IsEnum ((s.heap.push { cls := .type "tuple_iterator", data := .fields #[.ref l, .int 0 0] }).push
      { cls := .type "enumerate", data := .fields #[.none, .bool false, .ref s.heap.objs.size, rawInt 0, .none, .none] }) (s.heap.objs.size + 1) s.heap.objs.size 0 .none := by
    have := Heap.get?_push_size (s.heap.push { cls := .type "tuple_iterator", data := .fields #[.ref l, .int 0 0] })
      (o := { cls := .type "enumerate", data := .fields #[.none, .bool false, .ref s.heap.objs.size, rawInt 0, .none, .none] }) rfl
    rw [hz] at this; exact this
  refine ⟨⟨_, he, rfl⟩, h _ he ⟨_, Heap.get?_push_of_some _ (Heap.get?_push_size _ rfl), rfl, rfl⟩ (by rw [Heap.size_push, hz]) fun b o x => Heap.get?_push_of_some _ (Heap.get?_push_of_some _ x)⟩
def IteT (K : PySem.W.Frag) (a : Addr) : It :=
  ⟨fun i H => ∃ (xs : List V) (x : V), SqT K H a xs ∧ xs[i]? = some x, fun i H v H' => ∃ T x, v = .ref T ∧ H T = none ∧ H' = upd H T (.tup [.int (i : Nat), x]) ∧ ∀ xs, SqT K H a xs → xs[i]? = some x, fun i H => ∃ xs : List V, SqT K H a xs ∧ xs.length = i⟩
theorem turn_enumT {P : Program} {w : World} {K : PySem.W.Frag} {elts : List Expr} {kk : Nat} {tpos : Pos} (a e it : Addr) :
    Turn P w K (.Tuple elts kk tpos) (IteT K a) [e, it] e (fun i h => (∃ old, IsEnum h e it ((i : Nat) : Int) old) ∧ h.IsTupleIter it a i ∧ e ≠ it ∧ e ≠ a ∧ a ≠ it) where
  mem := by simp
  obj := fun i h st b hb => by
    obtain ⟨⟨old, he⟩, ⟨o, ho, hc, hd⟩, _⟩ := st
    have e' : b = e ∨ b = it := by simpa using hb
    rcases e' with z | z
    · rw [z]; exact ⟨_, he, fun v q => nomatch q⟩
    · rw [z]; exact ⟨o, ho, fun v q => by rw [hd] at q; cases q⟩
  keep := fun i h h' st k => let ⟨⟨old, he⟩, hi, hne⟩ := st; ⟨⟨old, k e (by simp) _ he⟩, hi.at fun o q => k it (by simp) o q, hne⟩
  item := by
    intro X hP hw hK hc i pins s σ H E I hf st hg
    subst hP hw hK
    obtain ⟨⟨old, he⟩, hit, hne, hea, hai⟩ := st
    obtain ⟨xs, x, hq, hx⟩ := hg
    obtain ⟨its, rv, p, hz⟩ := I.tuple hq
    obtain ⟨u, hu, ru⟩ := rv.get hx
    have hel : e < s.heap.objs.size := Heap.lt_size he
    have hil : it < s.heap.objs.size := by obtain ⟨_, q, _⟩ := hit; exact Heap.lt_size q
    have hlt : i < its.toArray.size := by
      have := (List.getElem?_eq_some_iff.mp hu).1
      simpa using this
    have D := Draws.tuple (prog := X.prog) (w := X.w) (A := X.A.in1) (I.ok.hd hc) it a hai its.toArray
    refine wpAny_pyNext_enum_itemD D he ⟨hit, p⟩ hlt hne (by simp [hne, hea]) fun x' h' tk hPx ho hst hT hsz hk => ?_
    have ex : x' = u := by
      have h1 : its.toArray[i]? = some x' := hPx
      simp at h1
      rw [h1] at hu
      exact Option.some.inj hu
    subst ex
    obtain ⟨hit', _⟩ := hst
    refine ⟨_, rfl, wpAny_letOwnedTupleGo_enum (s := { s with heap := h', toks := tk + 1 }) ho fun h'' he' sb => ?_⟩
    have hT2 : h''.get? s.heap.objs.size = some { cls := .type "tuple", data := .seq #[.int i tk, x'] } := (sb.2 _ (Nat.ne_of_gt hel)).trans hT
    have new : ObjOk X.prog X.w (upd H s.heap.objs.size (.tup [.int (i : Nat), x])) h'' s.heap.objs.size (.tup [.int (i : Nat), x]) :=
      ⟨by show 2 ≤ sizeLine; decide, [.int i tk, x'], .cons ⟨_, rfl⟩ (.cons ru .nil), ⟨_, hT2, rfl, _, rfl⟩⟩
    have I1 : Inv X pins σ (upd H s.heap.objs.size (.tup [.int (i : Nat), x])) { s with heap := h'', toks := tk + 1 } :=
      I.turnedNew (ch := [e, it]) (fun b ob hb q => (sb.2 b (fun z => hb (by simp [z]))).trans (hk b ob (fun z => hb (by simp [z])) (fun z => hb (by simp [z])) q)) hf (Nat.le_refl _) new
    refine ⟨.ref s.heap.objs.size, _, I1, rfl, ⟨_, x, rfl, I.hok.fresh (Nat.le_refl _), rfl, fun ys hy => ?_⟩, ⟨⟨x', ?_⟩, hit'.at fun o q => (sb.2 it (Ne.symm hne)).trans q, hne, hea, hai⟩, fun b hb => ?_⟩
    · rw [I.tuple_inj hy hq]; exact hx
    · have e1 : ((i + 1 : Nat) : Int) = (i : Int) + 1 := by omega
      rw [e1]; exact he'
    · have hb' : b < s.heap.objs.size := by
        have e' : b = e ∨ b = it := by simpa using hb
        rcases e' with z | z
        · rw [z]; exact hel
        · rw [z]; exact hil
      rw [upd_ne (Nat.ne_of_lt hb')]
      exact (hf b hb).1
  done := by
    intro X hP hw hK hc i pins s σ H E I hf st hg
    subst hP hw hK
    obtain ⟨⟨old, he⟩, hit, hne, hea, hai⟩ := st
    obtain ⟨xs, hq, hx⟩ := hg
    obtain ⟨its, rv, p, hz⟩ := I.tuple hq
    obtain ⟨f0, f1, f2, f3, f4, f5⟩ := hf it (by simp)
    have hl := rv.length
    have D := Draws.tuple (prog := X.prog) (w := X.w) (A := X.A.in1) (I.ok.hd hc) it a hai its.toArray
    have en : its.toArray.size = i := by simp; omega
    exact wpAny_pyNext_enum_endD D he (by rw [en]; exact ⟨hit, p⟩) fun h' eb => ⟨rfl, I.turned (t' := s.toks) (fun b o hb q => eb b o hb q) f0 f1 f3 f4 f5⟩
  self := fun A i s Q E st h => let ⟨⟨_, he⟩, _⟩ := st; wpAny_pyIter_enum he h
def iEnumT (K : PySem.W.Frag) (ta : TA) : TI := fun σ H R => ta σ H fun vs H1 => ∃ a xs, vs = [.ref a] ∧ SqT K H1 a xs ∧ R (IteT K a) H1
theorem pi_enumT {X : Cx} {e : Expr} {ta : TA} {p pos tpos : Pos} {elts : List Expr} {kk : Nat} (hg : Gl X "enumerate") (hm : X.mg "enumerate" = none) (ha : PA X [e] ta) (hs : starEach [e] X.env = [(false, eval e X.env)] := by rfl) :
    PI X (.Tuple elts kk tpos) (.Call (.Name "enumerate" p) [e] [] pos) (iEnumT X.K ta) := by
  refine ⟨fun pins s σ H R I h => ?_⟩
  refine Call_ (ld_blt I hg hm boot_enumerate (PyProof.Rows.callWith_type1 (thn (ha.run pos pins s σ H _ I h) fun us s1 ⟨vs, H1, I1, r1, q1⟩ => ?_) hs rfl))
  obtain ⟨a, xs, ex, hq, q⟩ := q1
  subst ex
  cases r1 with
  | cons r rr =>
    cases rr
    cases r
    obtain ⟨its, rv, p', hz⟩ := I1.tuple hq
    have hla : a < s1.heap.objs.size := by obtain ⟨_, q, _⟩ := p'; exact Heap.lt_size q
    refine call_enumerate_tuple p' fun h' he hit hsz hk => wpAny_pyIter_enum he ?_
    have I2 : Inv X pins σ H1 { s1 with heap := h' } := I1.kept (t' := s1.toks) hk
    refine ⟨s1.heap.objs.size + 1, [s1.heap.objs.size + 1, s1.heap.objs.size], _, _, H1, rfl, I2, turn_enumT a (s1.heap.objs.size + 1) s1.heap.objs.size, ⟨⟨.none, he⟩, hit, Nat.succ_ne_self _, Nat.ne_of_gt (Nat.lt_succ_of_lt hla), Nat.ne_of_lt hla⟩, fun b hb => ?_, q⟩
    have e' : b = s1.heap.objs.size + 1 ∨ b = s1.heap.objs.size := by simpa using hb
    have hle : s1.heap.objs.size ≤ b := by
      rcases e' with z | z
      · rw [z]; exact Nat.le_add_right _ _
      · rw [z]; exact Nat.le_refl _
    exact I1.fpOk hle (I1.hok.fresh hle)
end KR

set_option Elab.async false
set_option linter.all false
set_option maxRecDepth 100000
namespace KR
open PySem PySem.Spec PySem.Calls PyProof.Rows PySem.W
/-! ### list(zip(a, b)) over any two drawn iterators: the tuples that are given out stay out -/
section
variable {prog : Program} {w : World} {A : Around} {E : Value → Shared → Prop} {s : Shared} {z TI TO i1 i2 T : Addr} {fp1 fp2 : List Addr} {n1 n2 i : Nat} {P1 P2 : Nat → Value → Prop} {St1 St2 : Nat → Heap → Prop} {f : Bool} {oT : Obj}
theorem zipD_next_item_held {Q : Value → Shared → Prop} (S : ZipSep2 z TI TO i1 i2 fp1 fp2) (D1 : Draws prog w A i1 fp1 n1 P1 St1) (D2 : Draws prog w A i2 fp2 n2 P2 St2)
    (hz : IsZipHeld s.heap z TI TO T f) (hT : s.heap.get? T = some oT) (hTI : IsTupOf2 s.heap TI (.ref i1) (.ref i2)) (st1 : St1 i s.heap) (st2 : St2 i s.heap) (hlt1 : i < n1) (hlt2 : i < n2)
    (hQ : ∀ x1 x2 h' tk, P1 i x1 → P2 i x2 → IsZipHeld h' z TI TO T true → St1 (i + 1) h' → St2 (i + 1) h' → IsTupOf2 h' s.heap.objs.size x1 x2 → h'.objs.size = s.heap.objs.size + 1 →
      (∀ c o, c ≠ z → c ≠ i1 → c ≠ i2 → s.heap.get? c = some o → h'.get? c = some o) → Q (.ref s.heap.objs.size) { s with heap := h', toks := tk }) :
    wpAny (model prog w) A (Builtin.«zip.__next__» ⟨[.ref z], []⟩) (fun fin s' => ∃ v, fin = .done (.ret v) ∧ Q v s') E s := by
  obtain ⟨hp, g, d, tk0, os⟩ := s
  show wpAny _ _ (field (.ref z) 2 >>= _) _ _ _
  refine wpAny_bind (wpAny_field hz rfl (x := .bool false) rfl ?_)
  show wpAny _ _ (field (.ref z) 3 >>= _) _ _ _
  refine wpAny_bind (wpAny_field hz rfl (x := .ref TI) rfl ?_)
  refine wpAny_bind (wpAny_seqItems hTI rfl ?_)
  show wpAny _ _ (Builtin.SmallTypes.ownedTupleIsFree (.ref z) >>= _) _ _ _
  refine wpAny_bind (wpAny_tupleHeld_zip hz hT fun h₁ hz₁ hs₁ => ?_)
  replace hs₁ : Heap.SameBut z hp h₁ := hs₁
  simp only [Bool.false_eq_true, if_false]
  refine wpAny_bind ?_
  rw [← Array.forIn_toList]
  simp only [List.forIn_cons, List.forIn_nil]
  refine wpAny_bind (wpAny_bind (wpAny_holding ?_))
  show wpAny _ _ (Builtin.SmallTypes.nextOf (.ref i1) >>= _) _ _ _
  refine wpAny_bind (D1.item i ⟨h₁, g, d, tk0, os⟩ _ _ hlt1 (D1.over st1 hs₁ S.zf1) fun x1 h₂ tk1 hx1 sn1 hs₂ => wpAny_pure ?_)
  replace hs₂ : Heap.SameBut i1 h₁ h₂ := hs₂
  refine wpAny_pure ?_
  refine wpAny_bind (wpAny_bind (wpAny_holding ?_))
  show wpAny _ _ (Builtin.SmallTypes.nextOf (.ref i2) >>= _) _ _ _
  refine wpAny_bind (D2.item i ⟨h₂, g, d, tk1, os⟩ _ _ hlt2 (D2.over (D2.over st2 hs₁ S.zf2) hs₂ S.sep1_2) fun x2 h₃ tk2 hx2 sn2 hs₃ => wpAny_pure ?_)
  replace hs₃ : Heap.SameBut i2 h₂ h₃ := hs₃
  refine wpAny_pure (wpAny_pure ?_)
  show wpAny _ _ (newTuple [x1, x2] >>= _) _ _ _
  refine wpAny_bind (wpAny_newTuple ?_)
  have hsz : h₃.objs.size = hp.objs.size := by rw [hs₃.1, hs₂.1, hs₁.1]
  have hz₃ : IsZipHeld h₃ z TI TO T true := hs₃.extBut _ _ S.zi2 (hs₂.extBut _ _ S.zi1 hz₁)
  have hk : ∀ c o, c ≠ z → c ≠ i1 → c ≠ i2 → hp.get? c = some o → h₃.get? c = some o := fun c o c1 c2 c3 e => hs₃.extBut _ _ c3 (hs₂.extBut _ _ c2 (hs₁.extBut _ _ c1 e))
  have sn1' : St1 (i + 1) h₃ := D1.over sn1 hs₃ S.sep2_1
  refine wpAny_pure ⟨_, rfl, ?_⟩
  show Q (.ref h₃.objs.size) _
  have hpr : IsTupOf2 (h₃.push { cls := .type "tuple", data := .seq #[x1, x2] }) h₃.objs.size x1 x2 := Heap.get?_push_size _ rfl
  have hz4 : (h₃.push { cls := .type "tuple", data := .seq #[x1, x2] }).objs.size = h₃.objs.size + 1 := Heap.size_push ..
  have q := hQ x1 x2 (h₃.push { cls := .type "tuple", data := .seq #[x1, x2] }) tk2 hx1 hx2 (Heap.get?_push_of_some _ hz₃) (D1.frame _ _ _ sn1' fun b hb o e => Heap.get?_push_of_some _ e) (D2.frame _ _ _ sn2 fun b hb o e => Heap.get?_push_of_some _ e)
  rw [hsz] at hpr hz4 ⊢
  exact q hpr hz4 fun c o c1 c2 c3 e => Heap.get?_push_of_some _ (hk c o c1 c2 c3 e)
theorem zipD_next_end_held {Q : Fin → Shared → Prop} (S : ZipSep2 z TI TO i1 i2 fp1 fp2) (D1 : Draws prog w A i1 fp1 n1 P1 St1) (D2 : Draws prog w A i2 fp2 n2 P2 St2)
    (hz : IsZipHeld s.heap z TI TO T f) (hT : s.heap.get? T = some oT) (hTI : IsTupOf2 s.heap TI (.ref i1) (.ref i2)) (st1 : St1 n1 s.heap) (hn : n1 = n2)
    (hE : ∀ h' tk e, (∀ c o, c ≠ z → c ≠ i1 → c ≠ i2 → s.heap.get? c = some o → h'.get? c = some o) → (∃ o, h'.get? e = some o ∧ o.cls = .type "StopIteration") → E (.ref e) { s with heap := h', toks := tk }) :
    wpAny (model prog w) A (Builtin.«zip.__next__» ⟨[.ref z], []⟩) Q E s := by
  obtain ⟨hp, g, d, tk0, os⟩ := s
  show wpAny _ _ (field (.ref z) 2 >>= _) _ _ _
  refine wpAny_bind (wpAny_field hz rfl (x := .bool false) rfl ?_)
  show wpAny _ _ (field (.ref z) 3 >>= _) _ _ _
  refine wpAny_bind (wpAny_field hz rfl (x := .ref TI) rfl ?_)
  refine wpAny_bind (wpAny_seqItems hTI rfl ?_)
  show wpAny _ _ (Builtin.SmallTypes.ownedTupleIsFree (.ref z) >>= _) _ _ _
  refine wpAny_bind (wpAny_tupleHeld_zip hz hT fun h₁ hz₁ hs₁ => ?_)
  replace hs₁ : Heap.SameBut z hp h₁ := hs₁
  simp only [Bool.false_eq_true, if_false]
  refine wpAny_bind ?_
  rw [← Array.forIn_toList]
  simp only [List.forIn_cons, List.forIn_nil]
  refine wpAny_bind (wpAny_bind (wpAny_holding ?_))
  show wpAny _ _ (Builtin.SmallTypes.nextOf (.ref i1) >>= _) _ _ _
  refine wpAny_bind (D1.done ⟨h₁, g, d, tk0, os⟩ _ _ (D1.over st1 hs₁ S.zf1) fun h₂ e hs₂ he => ?_)
  replace hs₂ : Heap.ExtBut i1 h₁ h₂ := hs₂
  exact hE h₂ tk0 e (fun c o c1 c2 _ x => hs₂ _ _ c2 (hs₁.extBut _ _ c1 x)) he
theorem pyNext_zipD_item_held {Q : Option Value → Shared → Prop} (S : ZipSep2 z TI TO i1 i2 fp1 fp2) (D1 : Draws prog w A.in1 i1 fp1 n1 P1 St1) (D2 : Draws prog w A.in1 i2 fp2 n2 P2 St2)
    (hz : IsZipHeld s.heap z TI TO T f) (hT : s.heap.get? T = some oT) (hTI : IsTupOf2 s.heap TI (.ref i1) (.ref i2)) (st1 : St1 i s.heap) (st2 : St2 i s.heap) (hlt1 : i < n1) (hlt2 : i < n2)
    (hQ : ∀ x1 x2 h' tk, P1 i x1 → P2 i x2 → IsZipHeld h' z TI TO T true → St1 (i + 1) h' → St2 (i + 1) h' → IsTupOf2 h' s.heap.objs.size x1 x2 → h'.objs.size = s.heap.objs.size + 1 →
      (∀ c o, c ≠ z → c ≠ i1 → c ≠ i2 → s.heap.get? c = some o → h'.get? c = some o) → Q (some (.ref s.heap.objs.size)) { s with heap := h', toks := tk }) :
    wpAny (model prog w) A (pyNext (.ref z)) Q E s := by
  have hTy : s.TypeIs (.ref z) "zip" := ⟨_, hz, rfl⟩
  unfold pyNext
  exact wpAny_bind (wpAny_attempt (wpAny_callSpecial?_slot (name := Str.ofString "__next__") hTy F.slot_zip_next
    (wpAny_call_entry F.slot_zip_next hTy F.entry_zip_next
      (zipD_next_item_held S D1 D2 hz hT hTI st1 st2 hlt1 hlt2 fun x1 x2 h' tk a1 a2 a3 a4 a5 a6 a7 a8 => wpAny_pure (hQ x1 x2 h' tk a1 a2 a3 a4 a5 a6 a7 a8)) (F.args_zip_next_1 _))))
theorem pyNext_zipD_end_held {Q : Option Value → Shared → Prop} (S : ZipSep2 z TI TO i1 i2 fp1 fp2) (D1 : Draws prog w A.in1 i1 fp1 n1 P1 St1) (D2 : Draws prog w A.in1 i2 fp2 n2 P2 St2)
    (hz : IsZipHeld s.heap z TI TO T f) (hT : s.heap.get? T = some oT) (hTI : IsTupOf2 s.heap TI (.ref i1) (.ref i2)) (st1 : St1 n1 s.heap) (hn : n1 = n2)
    (hQ : ∀ h' tk, (∀ c o, c ≠ z → c ≠ i1 → c ≠ i2 → s.heap.get? c = some o → h'.get? c = some o) → Q none { s with heap := h', toks := tk }) : wpAny (model prog w) A (pyNext (.ref z)) Q E s := by
  have hTy : s.TypeIs (.ref z) "zip" := ⟨_, hz, rfl⟩
  unfold pyNext
  refine wpAny_bind (wpAny_attempt (wpAny_callSpecial?_slot (name := Str.ofString "__next__") hTy F.slot_zip_next
    (wpAny_call_entry F.slot_zip_next hTy F.entry_zip_next (zipD_next_end_held S D1 D2 hz hT hTI st1 hn fun h' tk e hk he => ?_) (F.args_zip_next_1 _))))
  obtain ⟨o, ho, hc⟩ := he
  refine wpAny_bind (wpAny_isInstance (T := "StopIteration") (b := true) ⟨o, ho, hc⟩ isSubtype_stop ?_)
  exact wpAny_pure (hQ _ _ hk)
end
end KR

set_option Elab.async false
set_option linter.all false
set_option maxRecDepth 100000
namespace KR
open PySem PySem.Spec PySem.Calls PyProof.Rows PySem.W
theorem zip_no_len : typeLookup (.type "zip") "__len__" = pure none := am_miss_of_fast (by decide +kernel)
theorem zip_no_hint : typeLookup (.type "zip") "__length_hint__" = pure none := am_miss_of_fast (by decide +kernel)
theorem zip_hint {prog : Program} {w : World} {A : Around} {E : Value → Shared → Prop} {s : Shared} {r : Addr} (hT : s.TypeIs (.ref r) "zip") {Q : Bool → Shared → Prop} (h : Q true s) : wpAny (model prog w) A (Builtin.List.listLengthHint (.ref r)) Q E s := by
  unfold Builtin.List.listLengthHint
  refine wpAny_bind (wpAny_specialOf hT zip_no_len ?_)
  refine wpAny_bind (wpAny_specialOf hT zip_no_hint ?_)
  exact wpAny_pure h
end KR

set_option Elab.async false
set_option linter.all false
set_option maxRecDepth 100000
namespace KR
open PySem PySem.Spec PySem.Calls PyProof.Rows PySem.W
structure ZMade (P : Nat → Value → Value → Prop) (lo : Addr) (h : Heap) (as : List Addr) : Prop where
  rise : as.Pairwise (· < ·)
  above : ∀ a ∈ as, lo < a
  pairs : ∀ (j : Nat) (a : Addr), as[j]? = some a → ∃ x y, P j x y ∧ h.get? a = some { cls := .type "tuple", data := .seq #[x, y] }
theorem ZMade.there {P : Nat → Value → Value → Prop} {lo : Addr} {h : Heap} {as : List Addr} (g : ZMade P lo h as) {a : Addr} (ha : a ∈ as) : a < h.objs.size := by
  obtain ⟨j, hj⟩ := List.mem_iff_getElem?.mp ha
  obtain ⟨_, _, _, e⟩ := g.pairs j a hj
  exact Heap.lt_size e
section
variable {prog : Program} {w : World} {A : Around} {s : Shared} {R : Result → Shared → Prop} {z TI TO i1 i2 S : Addr} {fp1 fp2 : List Addr} {n : Nat} {P1 P2 : Nat → Value → Prop} {St1 St2 : Nat → Heap → Prop}
structure ZAt (h : Heap) (z TI TO i1 i2 S : Addr) (St1 St2 : Nat → Heap → Prop) (i : Nat) : Prop where
  ti : IsTupOf2 h TI (.ref i1) (.ref i2)
  s1 : St1 i h
  s2 : St2 i h
  at_ : (IsZip h z TI TO .none ∧ ∃ a1 a2, IsTupOf2 h TO a1 a2) ∨ ∃ T f oT, IsZipHeld h z TI TO T f ∧ h.get? T = some oT ∧ T ≠ z ∧ T ≠ i1 ∧ T ≠ i2 ∧ T ≠ S
theorem zl_item {E : Value → Shared → Prop} {i : Nat} {Q : Option Value → Shared → Prop} (Z : ZipSep2 z TI TO i1 i2 fp1 fp2) (D1 : Draws prog w A.in1 i1 fp1 n P1 St1) (D2 : Draws prog w A.in1 i2 fp2 n P2 St2) (st : ZAt s.heap z TI TO i1 i2 S St1 St2 i) (hS : S < s.heap.objs.size) (hi : i < n)
    (hQ : ∀ x y h' tk, P1 i x → P2 i y → ZAt h' z TI TO i1 i2 S St1 St2 (i + 1) → h'.get? s.heap.objs.size = some { cls := .type "tuple", data := .seq #[x, y] } → h'.objs.size = s.heap.objs.size + 1 →
      (∀ c o, c ≠ z → c ≠ TO → c ≠ i1 → c ≠ i2 → s.heap.get? c = some o → h'.get? c = some o) → Q (some (.ref s.heap.objs.size)) { s with heap := h', toks := tk }) :
    wpAny (model prog w) A (pyNext (.ref z)) Q E s := by
  obtain ⟨ti, s1, s2, at_⟩ := st
  obtain ⟨oi1, ho1⟩ := D1.live _ _ s1
  obtain ⟨oi2, ho2⟩ := D2.live _ _ s2
  have l1 : i1 < s.heap.objs.size := Heap.lt_size ho1
  have l2 : i2 < s.heap.objs.size := Heap.lt_size ho2
  rcases at_ with ⟨hz, a1, a2, hTO⟩ | ⟨T, f, oT, hz, hT, t1, t2, t3, t4⟩
  · have lz : z < s.heap.objs.size := Heap.lt_size hz
    refine wpAny_pyNext_zipD2_item Z D1 D2 hz ti hTO s1 s2 hi hi fun x y h' tk p1 p2 hz' hTO' s1' s2' hp hsz hk => hQ x y h' tk p1 p2 ⟨hk _ _ Z.TIz Z.TITO Z.TIi1 Z.TIi2 ti, s1', s2', .inr ⟨_, false, _, hz', hp, Nat.ne_of_gt lz, Nat.ne_of_gt l1, Nat.ne_of_gt l2, Nat.ne_of_gt hS⟩⟩ hp hsz hk
  · refine pyNext_zipD_item_held Z D1 D2 hz hT ti s1 s2 hi hi fun x y h' tk p1 p2 hz' s1' s2' hp hsz hk => hQ x y h' tk p1 p2 ⟨hk _ _ Z.TIz Z.TIi1 Z.TIi2 ti, s1', s2', .inr ⟨T, true, oT, hz', hk _ _ t1 t2 t3 hT, t1, t2, t3, t4⟩⟩ hp hsz fun c o c1 _ c3 c4 e => hk c o c1 c3 c4 e
theorem zl_done {E : Value → Shared → Prop} {Q : Option Value → Shared → Prop} (Z : ZipSep2 z TI TO i1 i2 fp1 fp2) (D1 : Draws prog w A.in1 i1 fp1 n P1 St1) (D2 : Draws prog w A.in1 i2 fp2 n P2 St2) (st : ZAt s.heap z TI TO i1 i2 S St1 St2 n)
    (hQ : ∀ h' tk, (∀ c o, c ≠ z → c ≠ TO → c ≠ i1 → c ≠ i2 → s.heap.get? c = some o → h'.get? c = some o) → Q none { s with heap := h', toks := tk }) : wpAny (model prog w) A (pyNext (.ref z)) Q E s := by
  obtain ⟨ti, s1, s2, at_⟩ := st
  rcases at_ with ⟨hz, a1, a2, hTO⟩ | ⟨T, f, oT, hz, hT, t1, t2, t3, t4⟩
  · exact wpAny_pyNext_zipD2_end Z D1 D2 hz ti hTO s1 s2 (Nat.le_refl _) (Nat.le_refl _) (.inl rfl) hQ
  · exact pyNext_zipD_end_held Z D1 D2 hz hT ti s1 rfl fun h' tk hk => hQ h' tk fun c o c1 _ c3 c4 e => hk c o c1 c3 c4 e
/-- what lies apart from the new list -/
structure SOff (S z TI TO i1 i2 : Addr) (fp1 fp2 : List Addr) : Prop where
  z : S ≠ z
  TI : S ≠ TI
  TO : S ≠ TO
  f1 : S ∉ fp1
  f2 : S ∉ fp2
  i1 : S ≠ i1
  i2 : S ≠ i2
theorem ZAt.push {h h' : Heap} {i : Nat} (a : ZAt h z TI TO i1 i2 S St1 St2 i) (D1 : Draws prog w A i1 fp1 n P1 St1) (D2 : Draws prog w A i2 fp2 n P2 St2) (o : SOff S z TI TO i1 i2 fp1 fp2) (k : ∀ b u, b ≠ S → h.get? b = some u → h'.get? b = some u) : ZAt h' z TI TO i1 i2 S St1 St2 i := by
  obtain ⟨ti, s1, s2, at_⟩ := a
  refine ⟨k _ _ o.TI.symm ti, D1.frame _ _ _ s1 fun b hb u e => k b u (fun q => o.f1 (q ▸ hb)) e, D2.frame _ _ _ s2 fun b hb u e => k b u (fun q => o.f2 (q ▸ hb)) e, ?_⟩
  rcases at_ with ⟨hz, a1, a2, hTO⟩ | ⟨T, f, oT, hz, hT, t1, t2, t3, t4⟩
  · exact .inl ⟨k _ _ o.z.symm hz, a1, a2, k _ _ o.TO.symm hTO⟩
  · exact .inr ⟨T, f, oT, k _ _ o.z.symm hz, k _ _ t4 hT, t1, t2, t3, t4⟩
theorem zl_loop (Z : ZipSep2 z TI TO i1 i2 fp1 fp2) (D1 : Draws prog w A.in1.in1 i1 fp1 n P1 St1) (D2 : Draws prog w A.in1.in1 i2 fp2 n P2 St2) (o : SOff S z TI TO i1 i2 fp1 fp2) (hn : n ≤ sizeLine) (res : Value) {h₁ : Heap}
    (hR : ∀ h' tk acc c as, (∀ b o, b ≠ S → b ≠ z → b ≠ TO → b ≠ i1 → b ≠ i2 → h₁.get? b = some o → h'.get? b = some o) → h'.get? S = some { cls := .type "list", dict := none, data := .seq acc c, slots := #[] } → as.length = n → ZMade (fun j x y => P1 j x ∧ P2 j y) S h' as →
      acc.toList = as.map Value.ref → R (.ok (.ret res)) { s with heap := h', toks := tk }) :
    ∀ (k i : Nat) (h : Heap) (tk c : Nat) (acc : Array Value) (as : List Addr), n - i = k → i ≤ n → ZAt h z TI TO i1 i2 S St1 St2 i → (∀ b o, b ≠ S → b ≠ z → b ≠ TO → b ≠ i1 → b ≠ i2 → h₁.get? b = some o → h.get? b = some o) →
      h.get? S = some { cls := .type "list", dict := none, data := .seq acc c, slots := #[] } → acc.toList = as.map Value.ref → as.length = i → ZMade (fun j x y => P1 j x ∧ P2 j y) S h as →
      (∀ a ∈ as, a ≠ z ∧ a ≠ TO ∧ a ≠ i1 ∧ a ≠ i2) → z < S → TO < S → i1 < S → i2 < S →
      codeAny (model prog w) A (.builtin "list.extend.loop" ⟨[.ref S, .ref z, res], []⟩) R { s with heap := h, toks := tk } := by
  intro k
  induction k with
  | zero =>
    intro i h tk c acc as hk hi hst hkeep hS hacc hal hG hap lz lT l1 l2
    obtain rfl : i = n := by omega
    refine codeAny_builtin PySem.F.entry_extend_loop ?_
    rw [Around.under_plainId PySem.F.plain_extend_loop _]
    show wpAny _ A.in1 (pyNext (.ref z) >>= _) _ _ _
    refine wpAny_bind (zl_done (s := { s with heap := h, toks := tk }) (A := A.in1) Z D1 D2 hst fun h' tk' he => ?_)
    refine wpAny_pure (hR h' tk' acc c as (fun b o h1 h2 h3 h4 h5 e => he b o h2 h3 h4 h5 (hkeep b o h1 h2 h3 h4 h5 e)) (he S _ o.z o.TO o.i1 o.i2 hS) hal ⟨hG.rise, hG.above, fun j a hj => ?_⟩ hacc)
    obtain ⟨x, y, hp, e3⟩ := hG.pairs j a hj
    obtain ⟨a1, a2, a3, a4⟩ := hap a (List.mem_of_getElem? hj)
    exact ⟨x, y, hp, he a _ a1 a2 a3 a4 e3⟩
  | succ k ih =>
    intro i h tk c acc as hk hi hst hkeep hS hacc hal hG hap lz lT l1 l2
    have hlt : i < n := by omega
    have hsz : acc.size = i := by rw [← Array.length_toList, hacc, List.length_map, hal]
    have hSl : S < h.objs.size := Heap.lt_size hS
    refine codeAny_builtin PySem.F.entry_extend_loop ?_
    rw [Around.under_plainId PySem.F.plain_extend_loop _]
    show wpAny _ A.in1 (pyNext (.ref z) >>= _) _ _ _
    refine wpAny_bind (zl_item (s := { s with heap := h, toks := tk }) (S := S) (A := A.in1) Z D1 D2 hst hSl hlt fun x y h' tk' hp1 hp2 hst' ht hz hkp => ?_)
    dsimp only at ht hz hkp ⊢
    have hS' := hkp S _ o.z o.TO o.i1 o.i2 hS
    have up : ∀ b o, b ≠ S → h'.get? b = some o → (h'.update S (Obj.mapSeq (·.push (Value.ref h.objs.size)))).get? b = some o := fun b o hb e => (Heap.get?_update_other _ _ (Ne.symm hb)).trans e
    show wpAny _ A.in1 (updateSeq S (·.push (Value.ref h.objs.size)) >>= _) _ _ _
    refine wpAny_bind ?_
    refine wpAny_updateSeq hS' rfl (wpAny_pure ⟨plainId_quiet PySem.F.plain_extend_loop _, ih (i + 1) _ tk' _ (acc.push (Value.ref h.objs.size)) (as ++ [h.objs.size]) (by omega) hlt (hst'.push D1 D2 o up)
      (fun b o' h1 h2 h3 h4 h5 e => up b o' h1 (hkp b o' h2 h3 h4 h5 (hkeep b o' h1 h2 h3 h4 h5 e))) (Heap.get?_update_self _ hS' rfl) (by rw [Array.toList_push, hacc, List.map_append]; rfl) (by rw [List.length_append, hal]; rfl) ⟨?_, ?_, ?_⟩ ?_ lz lT l1 l2⟩) (by rw [hsz]; omega) (by show (acc.push (Value.ref h.objs.size)).size ≤ sizeLine + 1; rw [Array.size_push, hsz]; omega)
    · refine List.pairwise_append.mpr ⟨hG.rise, List.pairwise_singleton _ _, fun a ha b hb => ?_⟩
      rw [List.mem_singleton.mp hb]
      exact hG.there ha
    · intro a ha
      rcases List.mem_append.mp ha with ha | ha
      · exact hG.above a ha
      · rw [List.mem_singleton.mp ha]; exact hSl
    · intro j b hj
      rcases Nat.lt_trichotomy j as.length with h1 | h1 | h1
      · rw [List.getElem?_append_left h1] at hj
        obtain ⟨x', y', hp, e3⟩ := hG.pairs j b hj
        have hb := hG.above b (List.mem_of_getElem? hj)
        obtain ⟨a1, a2, a3, a4⟩ := hap b (List.mem_of_getElem? hj)
        exact ⟨x', y', hp, up b _ (Nat.ne_of_gt hb) (hkp b _ a1 a2 a3 a4 e3)⟩
      · subst h1
        have hb : h.objs.size = b := by simpa using hj
        subst hb
        exact ⟨x, y, ⟨by rw [hal]; exact hp1, by rw [hal]; exact hp2⟩, up _ _ (Nat.ne_of_gt hSl) ht⟩
      · have hnone : (as ++ [h.objs.size])[j]? = none := List.getElem?_eq_none (by rw [List.length_append, List.length_singleton]; omega)
        rw [hnone] at hj; cases hj
    · intro a ha
      rcases List.mem_append.mp ha with ha | ha
      · exact hap a ha
      · rw [List.mem_singleton.mp ha]
        exact ⟨Nat.ne_of_gt (Nat.lt_trans lz hSl), Nat.ne_of_gt (Nat.lt_trans lT hSl), Nat.ne_of_gt (Nat.lt_trans l1 hSl), Nat.ne_of_gt (Nat.lt_trans l2 hSl)⟩
end
end KR

set_option Elab.async false
set_option linter.all false
set_option maxRecDepth 100000
namespace KR
open PySem PySem.Spec PySem.Calls PyProof.Rows PySem.W
section
variable {prog : Program} {w : World} {A : Around} {E : Value → Shared → Prop} {s : Shared} {z TI TO i1 i2 : Addr} {fp1 fp2 : List Addr} {n : Nat} {P1 P2 : Nat → Value → Prop} {St1 St2 : Nat → Heap → Prop}
theorem zl_extend {R : Result → Shared → Prop} (Z : ZipSep2 z TI TO i1 i2 fp1 fp2) (D1 : Draws prog w A.in1.in1 i1 fp1 n P1 St1) (D2 : Draws prog w A.in1.in1 i2 fp2 n P2 St2) (S : Addr) (o : SOff S z TI TO i1 i2 fp1 fp2)
    (hz : IsZip s.heap z TI TO .none) (hTI : IsTupOf2 s.heap TI (.ref i1) (.ref i2)) (hTO : ∃ a1 a2, IsTupOf2 s.heap TO a1 a2) (s1 : St1 0 s.heap) (s2 : St2 0 s.heap) (lz : z < S) (lT : TO < S) (l1 : i1 < S) (l2 : i2 < S) (res : Value) (c₀ : Nat) (hS : s.heap.get? S = some { cls := .type "list", data := .seq #[] c₀ })
    (hR : ∀ h' tk acc c as, (∀ b o, b ≠ S → b ≠ z → b ≠ TO → b ≠ i1 → b ≠ i2 → s.heap.get? b = some o → h'.get? b = some o) → h'.get? S = some { cls := .type "list", dict := none, data := .seq acc c, slots := #[] } → as.length = n → ZMade (fun j x y => P1 j x ∧ P2 j y) S h' as →
      acc.toList = as.map Value.ref → R (.ok (.ret res)) { s with heap := h', toks := tk }) (hn : n ≤ sizeLine) :
    wpAny (model prog w) A.in1 (Builtin.List.listExtendWith (.ref S) (.ref z) res)
      (fun fin s' => match fin with | .done f => R (.ok f) s' | .again c' => c'.quiet = true ∧ codeAny (model prog w) A c' R s') (fun e s' => R (.error e) s') s := by
  have hT : s.TypeIs (.ref z) "zip" := ⟨_, hz, rfl⟩
  have at0 : ZAt s.heap z TI TO i1 i2 S St1 St2 0 := ⟨hTI, s1, s2, .inl ⟨hz, hTO⟩⟩
  have key : ∀ (h : Heap) (c₁ tk : Nat), (∀ b o, b ≠ S → s.heap.get? b = some o → h.get? b = some o) →
      h.get? S = some { cls := .type "list", data := .seq #[] c₁ } → codeAny (model prog w) A (.builtin "list.extend.loop" ⟨[.ref S, .ref z, res], []⟩) R { s with heap := h, toks := tk } := by
    intro h c₁ tk hk hS₁
    exact zl_loop (s := s) (h₁ := s.heap) Z D1 D2 o hn res hR n 0 h tk c₁ #[] [] (Nat.sub_zero _) (Nat.zero_le _) (at0.push D1 D2 o hk) (fun b o' h1 h2 h3 h4 h5 e => hk b o' h1 e) hS₁ rfl rfl ⟨List.Pairwise.nil, (fun _ ha => nomatch ha), (fun j a hj => by simp at hj)⟩ (fun _ ha => nomatch ha) lz lT l1 l2
  unfold Builtin.List.listExtendWith
  refine wpAny_bind (wpAny_typeOf (T := "zip") hT ?_)
  have h1 : Builtin.List.listSameRef (.ref S) (.ref z) = false := by simp [Builtin.List.listSameRef, o.z]
  have h2 : (Value.type "zip" == Value.type "list") = false := by decide
  have h3 : (Value.type "zip" == Value.type "tuple") = false := by decide
  simp only [h1, h2, h3, Bool.or_false, Bool.false_eq_true, if_false]
  refine wpAny_bind (wpAny_pyIter_zip hz ?_)
  refine wpAny_bind (wpAny_holding (zip_hint hT ?_))
  refine wpAny_ite_split (fun _ => ?_) (fun _ => wpAny_pure ⟨plainId_quiet PySem.F.plain_extend_loop _, key _ c₀ _ (fun b o _ e => e) hS⟩)
  refine wpAny_bind (wpAny_rule ?_)
  refine wpAny_bind ?_
  show wpAny _ _ (updateSeq S (·.push .none) >>= fun _ => updateSeq S (·.pop)) _ _ _
  refine wpAny_bind (wpAny_updateSeq hS rfl ?_)
  have hS₂ := Heap.get?_update_self (Obj.mapSeq (·.push Value.none)) hS rfl
  refine wpAny_updateSeq (hz := by seq_fits) hS₂ rfl ?_
  have hS₃ := Heap.get?_update_self (Obj.mapSeq (·.pop)) hS₂ rfl
  refine wpAny_pure ⟨plainId_quiet PySem.F.plain_extend_loop _, key _ _ _ (fun b o hb e => ?_) hS₃⟩
  exact (Heap.get?_update_other _ _ (Ne.symm hb)).trans ((Heap.get?_update_other _ _ (Ne.symm hb)).trans e)
theorem zl_call {Q : Value → Shared → Prop} (Z : ZipSep2 z TI TO i1 i2 fp1 fp2) (D1 : Draws prog w A.in1.in1.in1 i1 fp1 n P1 St1) (D2 : Draws prog w A.in1.in1.in1 i2 fp2 n P2 St2)
    (hz : IsZip s.heap z TI TO .none) (hTI : IsTupOf2 s.heap TI (.ref i1) (.ref i2)) (hTO : ∃ a1 a2, IsTupOf2 s.heap TO a1 a2) (s1 : St1 0 s.heap) (s2 : St2 0 s.heap) (f1 : ∀ b ∈ fp1, b < s.heap.objs.size) (f2 : ∀ b ∈ fp2, b < s.heap.objs.size) (hn : n ≤ sizeLine)
    (hQ : ∀ h' tk acc c as, (∀ b o, b ≠ z → b ≠ TO → b ≠ i1 → b ≠ i2 → s.heap.get? b = some o → h'.get? b = some o) → h'.get? s.heap.objs.size = some { cls := .type "list", dict := none, data := .seq acc c, slots := #[] } → as.length = n → ZMade (fun j x y => P1 j x ∧ P2 j y) s.heap.objs.size h' as →
      acc.toList = as.map Value.ref → Q (.ref s.heap.objs.size) { s with heap := h', toks := tk }) :
    wpAny (model prog w) A (call (.type "list") [.ref z]) Q E s := by
  obtain ⟨b1, b2, hTO'⟩ := id hTO
  have lz : z < s.heap.objs.size := Heap.lt_size hz
  have lTI : TI < s.heap.objs.size := Heap.lt_size hTI
  have lTO : TO < s.heap.objs.size := Heap.lt_size hTO'
  have l1 := f1 _ Z.mem1
  have l2 := f2 _ Z.mem2
  have o : SOff s.heap.objs.size z TI TO i1 i2 fp1 fp2 := ⟨Nat.ne_of_gt lz, Nat.ne_of_gt lTI, Nat.ne_of_gt lTO, fun h => Nat.lt_irrefl _ (f1 _ h), fun h => Nat.lt_irrefl _ (f2 _ h), Nat.ne_of_gt l1, Nat.ne_of_gt l2⟩
  refine callType_codes (Q₁ := fun obj s₁ => obj = .ref s.heap.objs.size ∧ s₁ = { s with heap := s.heap.push { cls := .type "list", data := .seq #[] } }) PySem.F.called_list (PySem.F.typeCall_list_1 _) PySem.F.entry_list_init
    (code_list_new _ ⟨rfl, rfl⟩) fun obj s₁ h₁ => ?_
  obtain ⟨rfl, rfl⟩ := h₁
  have hS : (s.heap.push { cls := .type "list", data := .seq #[] }).get? s.heap.objs.size = some { cls := .type "list", data := .seq #[] } := Heap.get?_push_size _ rfl
  refine ⟨⟨_, hS, rfl⟩, PySem.F.args_list_init_2 _ _, ?_⟩
  show wpAny _ _ (do let old ← Builtin.List.listItems (.ref s.heap.objs.size); Builtin.List.listUpdate (.ref s.heap.objs.size) (fun _ => #[]); letGo old.toList.reverse; Builtin.List.listExtendWith (.ref s.heap.objs.size) (.ref z) .none) _ _ _
  refine wpAny_bind ?_
  unfold Builtin.List.listItems
  refine wpAny_bind (wpAny_seqItems hS rfl (wpAny_pure ?_))
  show wpAny _ _ (updateSeq s.heap.objs.size (fun _ => #[]) >>= fun _ => letGo (#[] : Array Value).toList.reverse >>= fun _ => Builtin.List.listExtendWith (.ref s.heap.objs.size) (.ref z) .none) _ _ _
  refine wpAny_bind (wpAny_updateSeq hS rfl ?_)
  have hS₂ := Heap.get?_update_self (Obj.mapSeq (fun _ => (#[] : Array Value))) hS rfl
  have oth : ∀ b u, b ≠ s.heap.objs.size → s.heap.get? b = some u → ((s.heap.push { cls := .type "list", data := .seq #[] }).update s.heap.objs.size (Obj.mapSeq (fun _ => (#[] : Array Value)))).get? b = some u :=
    fun b u hb e => (Heap.get?_update_other _ _ (Ne.symm hb)).trans (Heap.get?_push_of_some _ e)
  refine wpAny_bind (wpAny_letGo ?_)
  refine zl_extend (A := A.in1) Z D1 D2 s.heap.objs.size o (oth _ _ (Nat.ne_of_lt lz) hz) (oth _ _ (Nat.ne_of_lt lTI) hTI) ⟨b1, b2, oth _ _ (Nat.ne_of_lt lTO) hTO'⟩ (D1.frame _ _ _ s1 fun b hb u e => oth b u (Nat.ne_of_lt (f1 b hb)) e) (D2.frame _ _ _ s2 fun b hb u e => oth b u (Nat.ne_of_lt (f2 b hb)) e) lz lTO l1 l2 .none _ hS₂ (fun h' tk acc c as hk hS' hl hG hacc => ?_) hn
  exact ⟨rfl, hQ h' tk acc c as (fun b u h2 h3 h4 h5 e => hk b u (Nat.ne_of_lt (Heap.lt_size e)) h2 h3 h4 h5 (oth b u (Nat.ne_of_lt (Heap.lt_size e)) e)) hS' hl hG hacc⟩
end
end KR

set_option Elab.async false
set_option linter.all false
set_option maxRecDepth 100000
namespace KR
open PySem PySem.Spec PyProof.Rows L2
def tListZip (K : PySem.W.Frag) (ta : TA) : TE := fun σ H Q => ta σ H fun vs H1 => ∃ (a b : Addr) (xs ys : List V), vs = [.ref a, .ref b] ∧ ((SqL K H1 a xs ∧ SqL K H1 b ys) ∨ (SqT K H1 a xs ∧ SqT K H1 b ys)) ∧ xs.length = ys.length ∧
  ∀ (H' : Hp) (p : Addr) (ts : List Addr), Same H1 H' → H1 p = none → H' p = some (.lst (ts.map V.ref)) → Paired (fun (t : Addr) (q : V × V) => H' t = some (.tup [q.1, q.2])) ts (xs.zip ys) → Q (.ref p) H'
section
variable {X : Cx} {pins : List (Addr × Obj)} {σ : L2.St} {H : Hp} {s : Shared}
theorem vals_refs' : ∀ as : List Addr, Vals (as.map V.ref) (as.map Value.ref)
  | [] => .nil
  | a :: as => .cons rfl (vals_refs' as)
theorem off5 {b n k : Nat} (h : b < n) : b ≠ n + k := by omega
theorem lt5 {c n : Nat} (k : Nat) (h : c = n ∨ c < n) : c < n + (k + 1) := by omega
theorem lt6 {c n : Nat} (k : Nat) (h : c = n + 1 ∨ c < n) : c < n + (k + 2) := by omega
theorem paired_by {α β : Type} {F : α → β → Prop} : ∀ {l : List α} {m : List β}, l.length = m.length → (∀ (j : Nat) (a : α) (b : β), l[j]? = some a → m[j]? = some b → F a b) → Paired F l m
  | [], [], _, _ => .nil
  | [], b :: m, h, _ => by simp at h
  | a :: l, [], h, _ => by simp at h
  | a :: l, b :: m, h, f => .cons (f 0 a b rfl rfl) (paired_by (by simpa using h) fun j x y e1 e2 => f (j + 1) x y (by simpa using e1) (by simpa using e2))
theorem zl_fin {h' : Heap} {tk : Nat} {acc : Array Value} {c : Nat} {as : List Addr} {its its2 : List Value} {xs ys : List V} {lo : Addr} {Q : VK} (I : Inv X pins σ H s) (rv : Vals xs its) (rv2 : Vals ys its2) (hl : xs.length = ys.length) (hz : xs.length ≤ sizeLine)
    (hk : ∀ b o, s.heap.get? b = some o → h'.get? b = some o) (hlo : s.heap.objs.size ≤ lo) (hS : h'.get? lo = some { cls := .type "list", dict := none, data := .seq acc c, slots := #[] }) (hal : as.length = xs.length)
    (hG : ZMade (fun j x y => its.toArray[j]? = some x ∧ its2.toArray[j]? = some y) lo h' as) (hacc : acc.toList = as.map Value.ref)
    (q : ∀ (H' : Hp) (p : Addr) (ts : List Addr), Same H H' → H p = none → H' p = some (.lst (ts.map V.ref)) → Paired (fun (t : Addr) (q : V × V) => H' t = some (.tup [q.1, q.2])) ts (xs.zip ys) → Q (.ref p) H') :
    EP X pins σ Q (.ref lo) { s with heap := h', toks := tk } := by
  have nlo : H lo = none := I.hok.fresh hlo
  have nd : as.Nodup := List.Pairwise.imp (fun {a b} (h : a < b) => Nat.ne_of_lt h) hG.rise
  have I1 : Inv X pins σ H { s with heap := h', toks := tk } := I.kept hk
  have I2 : Inv X pins σ (upd H lo (.lst (as.map V.ref))) { s with heap := h', toks := tk } :=
    I1.take (h' := h') (t' := tk) (fun b ob _ e => e) (I.fpOk hlo nlo) ⟨by rw [List.length_map]; omega, acc.toList, c, by rw [hacc]; exact vals_refs' as, by rw [Array.toArray_toList]; exact hS⟩
  obtain ⟨H2, I3, g, qt⟩ := L2.DX.takeT (P := fun b vs => ∃ (j : Nat) (x y : V), as[j]? = some b ∧ xs[j]? = some x ∧ ys[j]? = some y ∧ vs = [x, y]) I as _ I2 nd fun b hb => by
    obtain ⟨j, hj⟩ := List.mem_iff_getElem?.mp hb
    obtain ⟨x, y, ⟨e1, e2⟩, hg⟩ := hG.pairs j b hj
    have hab := hG.above b hb
    have hjx : j < xs.length := by rw [← hal]; exact (List.getElem?_eq_some_iff.mp hj).1
    obtain ⟨u, eu, ru⟩ := rv.get (List.getElem?_eq_getElem hjx)
    obtain ⟨u2, eu2, ru2⟩ := rv2.get (List.getElem?_eq_getElem (show j < ys.length by omega))
    have ex : u = x := by
      simp at e1; rw [e1] at eu; exact (Option.some.inj eu).symm
    have ey : u2 = y := by
      simp at e2; rw [e2] at eu2; exact (Option.some.inj eu2).symm
    subst ex ey
    refine ⟨Nat.le_of_lt (Nat.lt_of_le_of_lt hlo hab), ?_, [xs[j], ys[j]], ⟨j, _, _, hj, List.getElem?_eq_getElem hjx, List.getElem?_eq_getElem (show j < ys.length by omega), rfl⟩, fun H3 => ⟨by show 2 ≤ sizeLine; decide, [u, u2], .cons ru (.cons ru2 .nil), ⟨_, hg, rfl, 0, rfl⟩⟩⟩
    rw [upd_ne (Nat.ne_of_gt hab)]
    exact I.hok.fresh (Nat.le_of_lt (Nat.lt_of_le_of_lt hlo hab))
  refine ⟨.ref lo, H2, I3, rfl, q H2 lo as (fun b o e => g b o (by rw [upd_ne (ne_of_none e nlo)]; exact e)) nlo (g _ _ upd_same) (paired_by (by rw [List.length_zip]; omega) fun j t p e1 e2 => ?_)⟩
  obtain ⟨vs, ⟨j', x, y, f1, f2, f3, f4⟩, hH⟩ := qt t (List.mem_of_getElem? e1)
  have ej : j = j' := (List.getElem?_inj (List.getElem?_eq_some_iff.mp e1).1 nd).mp (e1.trans f1.symm)
  subst ej
  obtain ⟨p1, p2⟩ := p
  obtain ⟨g1, g2⟩ := List.getElem?_zip_eq_some.mp e2
  rw [f2] at g1
  rw [f3] at g2
  cases g1
  cases g2
  rw [hH, f4]
end
section
variable {X : Cx} {e e2 : Expr} {ta : TA} {p pz posz pos : Pos}
theorem pe_listZip (hc : X.calm = true) (ha : PA X [e, e2] ta) (hg : Gl X "list") (hm : X.mg "list" = none) (hgz : Gl X "zip") (hmz : X.mg "zip" = none)
    (hsz : starEach [e, e2] X.env = (false, eval e X.env) :: starEach [e2] X.env := by rfl) (hplz : (backTo posz (starEach [e2] X.env)).any (·.1) = false := by rfl)
    (hs : starEach [.Call (.Name "zip" pz) [e, e2] [] posz] X.env = (false, eval (.Call (.Name "zip" pz) [e, e2] [] posz) X.env) :: starEach [] X.env := by rfl) :
    PE X (.Call (.Name "list" p) [.Call (.Name "zip" pz) [e, e2] [] posz] [] pos) (tListZip X.K ta) := by
  refine ⟨fun pins s σ H Q I hq => ?_⟩
  refine wpAny_Call_Name_kw (ld_blt I hg hm (by decide +kernel : bootBuiltins "list" = some (.type "list")) ?_)
  refine PyProof.Rows.callWith_type1 ?_ hs rfl
  rw [hs]
  show wpAny _ _ (spliced ((false, eval (.Call (.Name "zip" pz) [e, e2] [] posz) X.env) :: backTo pos (starEach [] X.env))) _ _ s
  refine Calls.spliced_cons ?_
  refine Call_ (ld_blt I hgz hmz PyProof.Rows.boot_zip (PyProof.Rows.callWith_type1 (thn (ha.run posz pins s σ H _ I hq) fun us s1 ⟨vs, H1, I1, r1, q1⟩ => ?_) hsz hplz))
  obtain ⟨a, b, xs, ys, ex, hab, hl, q⟩ := q1
  subst ex
  cases r1 with
  | cons r rr =>
    cases rr with
    | cons r' rr =>
      cases rr
      cases r
      cases r'
      rcases hab with ⟨hqx, hqy⟩ | ⟨hqx, hqy⟩
      · obtain ⟨its, rv, p1, hz1⟩ := I1.list hqx
        obtain ⟨its2, rv2, p2, _⟩ := I1.list hqy
        have la := p1.lt
        have lb := p2.lt
        refine zip_begins2 (begins_list a its.toArray) (begins_list b its2.toArray) p1.isList p2.isList fun h' hz hTI hTO h1 h2 hsz hk => Calls.spliced_nil ?_
        have en : its2.toArray.size = its.toArray.size := by simp [← rv.length, ← rv2.length, hl]
        have D1 := Draws.list (prog := X.prog) (w := X.w) (A := X.A.in1.in1.in1) (I1.ok.hd hc) s1.heap.objs.size a (Nat.ne_of_lt la) its.toArray
        have D2 := Draws.list (prog := X.prog) (w := X.w) (A := X.A.in1.in1.in1) (I1.ok.hd hc) (s1.heap.objs.size + 1) b (Nat.ne_of_lt (Nat.lt_succ_of_lt lb)) its2.toArray
        rw [en] at D2
        refine zl_call (s := { s1 with heap := h' }) (zip_sep2 (fp1 := [a]) (fp2 := [b]) (by simpa using la) (by simpa using lb)) D1 D2 hz hTI ⟨_, _, hTO⟩ ⟨⟨_, h1, rfl, rfl⟩, p1.isList.at fun o e => hk _ o e⟩ ⟨⟨_, h2, rfl, rfl⟩, p2.isList.at fun o e => hk _ o e⟩ ?_ ?_ (by simp [← rv.length]; exact hz1) fun h'' tk acc c as hk2 hS hal hG hacc => ?_
        · intro c hc'
          show c < h'.objs.size
          rw [hsz]
          simp at hc'
          exact lt5 4 (hc'.elim .inl fun z => .inr (by rw [z]; exact la))
        · intro c hc'
          show c < h'.objs.size
          rw [hsz]
          simp at hc'
          exact lt6 3 (hc'.elim .inl fun z => .inr (by rw [z]; exact lb))
        · exact zl_fin (s := s1) (lo := h'.objs.size) I1 rv rv2 hl hz1 (fun b o e => hk2 b o (off5 (Heap.lt_size e)) (off5 (Heap.lt_size e)) (Nat.ne_of_lt (Heap.lt_size e)) (off5 (Heap.lt_size e)) (hk b o e)) (by rw [hsz]; exact Nat.le_add_right _ _) hS (by rw [hal]; simp [← rv.length]) hG hacc q
      · obtain ⟨its, rv, p1, hz1⟩ := I1.tuple hqx
        obtain ⟨its2, rv2, p2, _⟩ := I1.tuple hqy
        have la : a < s1.heap.objs.size := by obtain ⟨_, q, _⟩ := p1; exact Heap.lt_size q
        have lb : b < s1.heap.objs.size := by obtain ⟨_, q, _⟩ := p2; exact Heap.lt_size q
        refine zip_begins2 (begins_tuple a its.toArray) (begins_tuple b its2.toArray) p1 p2 fun h' hz hTI hTO h1 h2 hsz hk => Calls.spliced_nil ?_
        have en : its2.toArray.size = its.toArray.size := by simp [← rv.length, ← rv2.length, hl]
        have D1 := Draws.tuple (prog := X.prog) (w := X.w) (A := X.A.in1.in1.in1) (I1.ok.hd hc) s1.heap.objs.size a (Nat.ne_of_lt la) its.toArray
        have D2 := Draws.tuple (prog := X.prog) (w := X.w) (A := X.A.in1.in1.in1) (I1.ok.hd hc) (s1.heap.objs.size + 1) b (Nat.ne_of_lt (Nat.lt_succ_of_lt lb)) its2.toArray
        rw [en] at D2
        refine zl_call (s := { s1 with heap := h' }) (zip_sep2 (fp1 := [a]) (fp2 := [b]) (by simpa using la) (by simpa using lb)) D1 D2 hz hTI ⟨_, _, hTO⟩ ⟨⟨_, h1, rfl, rfl⟩, Heap.IsTuple.at p1 fun o e => hk _ o e⟩ ⟨⟨_, h2, rfl, rfl⟩, Heap.IsTuple.at p2 fun o e => hk _ o e⟩ ?_ ?_ (by simp [← rv.length]; exact hz1) fun h'' tk acc c as hk2 hS hal hG hacc => ?_
        · intro c hc'
          show c < h'.objs.size
          rw [hsz]
          simp at hc'
          exact lt5 4 (hc'.elim .inl fun z => .inr (by rw [z]; exact la))
        · intro c hc'
          show c < h'.objs.size
          rw [hsz]
          simp at hc'
          exact lt6 3 (hc'.elim .inl fun z => .inr (by rw [z]; exact lb))
        · exact zl_fin (s := s1) (lo := h'.objs.size) I1 rv rv2 hl hz1 (fun b o e => hk2 b o (off5 (Heap.lt_size e)) (off5 (Heap.lt_size e)) (Nat.ne_of_lt (Heap.lt_size e)) (off5 (Heap.lt_size e)) (hk b o e)) (by rw [hsz]; exact Nat.le_add_right _ _) hS (by rw [hal]; simp [← rv.length]) hG hacc q
end
end KR

set_option Elab.async false
set_option linter.all false
set_option maxRecDepth 100000
namespace KR
open PySem PySem.Spec PyProof.Rows L2
/-! ### bodies of key functions, by hand over the heap -/
theorem seq0 {n : Nat} (h : 0 < n) : seqIndex? 0 n = some 0 := by
  unfold seqIndex?
  simp
  omega
structure KEnv (env : Env) (h : Heap) (x : Str) (v : Value) (mg mb : Str → Option Value) : Prop where
  kind : env.scope.kind = .function
  loc : env.kindOf x = some .local
  ns : ∃ m, h.Ns env.locals m ∧ m x = some v
  gl : env.globals = mainGlobals
  bl : env.builtins = builtinsNs
  g : h.Ns mainGlobals mg
  b : h.Ns builtinsNs mb
section
variable {prog : Program} {w : World} {A : Around} {E : Value → Shared → Prop} {s : Shared} {env : Env} {x : Str} {v : Value} {mg mb : Str → Option Value}
theorem key_name {p : Pos} {Q : Value → Shared → Prop} (k : KEnv env s.heap x v mg mb) (h : Q v s) (hd : (x == ("__debug__" : Str)) = false) : wpAny (model prog w) A (eval (.Name x p) env) Q E s := by
  obtain ⟨m, hn, hm⟩ := k.ns
  exact wpAny_Name (wpAny_loadName_local k.kind k.loc hn hm h) hd
theorem key_sub {e : Expr} {j : Nat} {p3 p4 : Pos} {a : Addr} {its : Array Value} {u : Value} {Q : Value → Shared → Prop} (he : ∀ Q' : Value → Shared → Prop, Q' (.ref a) s → wpAny (model prog w) A (eval e env) Q' E s) (ht : IsTup s.heap a its) (h1 : its[0]? = some u)
    (h : ∀ tk, Q u { s with toks := tk }) : wpAny (model prog w) A (eval (.Subscript e (.Constant (.int 0) j p3) p4) env) Q E s := by
  refine Subscript_ (he _ (wpAny_Constant_int ?_))
  have h0 : 0 < its.size := (Array.getElem?_eq_some_iff.mp h1).1
  refine subscriptTail_builtinR (x := u) (T := "tuple") (s := { s with toks := s.toks + 1 }) (show Shared.TypeIs _ _ _ from ht.typeIs) slot_tuple_getitem.lookup (PyProof.Rows.getItem_tuple (j := 0) (Q := fun r s' => r = u ∧ Q r s') ht (by decide) (by decide) ?_ h1 ⟨rfl, h _⟩) (by with_unfolding_all rfl)
  exact seq0 h0
theorem key_len {e : Expr} {p p5 : Pos} {q : Addr} {its : Array Value} {Q : Value → Shared → Prop} (k : KEnv env s.heap x v mg mb) (hg : env.kindOf "len" = some .globalImplicit) (hm : mg "len" = none) (hb : mb "len" = some (.builtin "len"))
    (he : ∀ Q' : Value → Shared → Prop, (∀ tk, Q' (.ref q) { s with toks := tk }) → wpAny (model prog w) A (eval e env) Q' E s) (ht : IsTup s.heap q its) (hz : (its.size : Int) < 2 ^ 63)
    (h : ∀ t tk, Q (.int its.size t) { s with toks := tk }) (hs : starEach [e] env = (false, eval e env) :: starEach [] env) : wpAny (model prog w) A (eval (.Call (.Name "len" p) [e] [] p5) env) Q E s := by
  refine wpAny_Call_Name_kw (Calls.Name_function_global k.kind hg (Calls.loadGlobal_builtin (by rw [k.gl]; exact k.g) hm (by rw [k.bl]; exact k.b) hb ?_) (by decide))
  refine PyProof.Rows.callWith_builtin1 ?_ hs rfl
  rw [hs]
  show wpAny _ _ (spliced ((false, eval e env) :: backTo p5 (starEach [] env))) _ _ s
  refine Calls.spliced_cons (he _ fun tk => Calls.spliced_nil ?_)
  exact PyProof.Rows.len_tuple (s := { s with toks := tk }) ht hz (h _ _)
theorem key_tup {e1 e2 : Expr} {x1 : Nat} {pos : Pos} {n : Int} {u2 : Value} {Q : Value → Shared → Prop} (h1 : ∀ Q' : Value → Shared → Prop, (∀ t tk, Q' (.int n t) { s with toks := tk }) → wpAny (model prog w) A (eval e1 env) Q' E s)
    (h2 : ∀ (tk : Nat) (Q' : Value → Shared → Prop), (∀ tk', Q' u2 { s with toks := tk' }) → wpAny (model prog w) A (eval e2 env) Q' E { s with toks := tk })
    (h : ∀ t tk, Q (.ref s.heap.objs.size) { s with heap := s.heap.push { cls := .type "tuple", data := .seq #[.int n t, u2] }, toks := tk })
    (hs : starEach [e1, e2] env = (false, eval e1 env) :: starEach [e2] env) (hs2 : starEach [e2] env = (false, eval e2 env) :: starEach [] env) : wpAny (model prog w) A (eval (.Tuple [e1, e2] x1 pos) env) Q E s := by
  refine wpAny_Tuple_spliced ?_
  rw [hs]
  show wpAny _ _ (spliced ((false, eval e1 env) :: backTo pos (starEach [e2] env))) _ _ s
  refine Calls.spliced_cons (h1 _ fun t tk => ?_)
  rw [hs2]
  show wpAny _ _ (spliced ((false, eval e2 env) :: backTo pos (starEach [] env))) _ _ _
  refine Calls.spliced_cons (h2 tk _ fun tk' => Calls.spliced_nil ⟨by show 2 ≤ sizeLine; decide, h t tk'⟩)
end
end KR

set_option Elab.async false
set_option linter.all false
set_option maxRecDepth 100000
namespace KR
open PySem PySem.Spec PyProof.Rows L2 LamX
theorem lam_key {prog : Program} {w : World} {A : Around} {s : Shared} {mg mb : Str → Option Value} {f c' : Addr} {qual x : Str} {params : Arguments} {body : Expr} {scope : Scope} {cl : List (Str × Addr)} {pm ctv v : Value} {k : PyData}
    (hroom : A.depth < recursionLimit) (ho : s.heap.get? f = some (PySem.W.kla_obj "<lambda>" qual params body scope cl pm c' ctv)) (hcd : s.heap.CodeRec (.ref c') qual)
    (hbind : bindArgs (PySem.W.kla_fn "<lambda>" qual params body scope cl pm (.ref c') ctv) ⟨[v], []⟩ = pure [(x, v)]) (hk : scope.kind = .function) (hco : scope.isCoroutine = false) (hgen : scope.isGenerator = false) (hx : scope.names.lookup x = some .local) (hcell : ∀ y ∈ scope.names, y.2 ≠ .cell)
    (lim : s.heap.NoLimit) (G : s.heap.Ns mainGlobals mg) (B : s.heap.Ns builtinsNs mb)
    (hbody : ∀ (A' : Around) (h₁ : Heap) (tk : Nat), KEnv (PySem.W.envX qual scope s.heap.objs.size f (.ref c') cl) h₁ x v mg mb → (∀ b o, s.heap.get? b = some o → h₁.get? b = some o) →
      wpAny (model prog w) A' (eval body (PySem.W.envX qual scope s.heap.objs.size f (.ref c') cl)) (fun u s' => ∃ h2 tk2, s' = { s with heap := h2, toks := tk2 } ∧ (∀ b o, h₁.get? b = some o → h2.get? b = some o) ∧ Reads h2 u k []) (fun _ _ => False) { s with heap := h₁, toks := tk }) :
    wpAny (model prog w) A (call (.ref f) [v]) (PySem.W.KeyPure k s) (fun _ _ => False) s := by
  refine wpAny_call (codeAny_mono (R := fun r s' => ∃ u, r = .ok (.ret u) ∧ PySem.W.KeyPure k s u s') ?_ fun r s' hq => ?_)
  · refine PySem.W.kla_callFunE hroom ho rfl hco hgen rfl hcd ?_
    rw [hbind]
    refine wpAny_pure (wpAny_newFunctionEnv hcell (fun y hy => ?_) (fun h₁ hns hsb => ⟨lim.fresh _ hsb, ?_⟩) hk)
    · have e : y = (x, v) := by simpa using hy
      rw [e]; exact hx
    show codeAny _ _ (.expr body (PySem.W.envX qual scope s.heap.objs.size f (.ref c') cl)) _ _
    have kp : ∀ b o, s.heap.get? b = some o → h₁.get? b = some o := fun b o e => hsb.extBut b o (Nat.ne_of_lt (Heap.lt_size e)) (Heap.get?_push_of_some _ e)
    refine PySem.W.kla_codeExpr (wpAny_mono (hbody _ h₁ _ ⟨hk, hx, ⟨_, hns, ?_⟩, rfl, rfl, G.keeps kp, B.keeps kp⟩ kp) (fun u s' hq => ?_) fun _ _ z => z.elim)
    · simp
    · obtain ⟨h2, tk2, e, h3, h4⟩ := hq
      exact ⟨u, rfl, h2, tk2, e, fun b o q => h3 b o (kp b o q), h4⟩
  · obtain ⟨u, e, q⟩ := hq
    subst e
    exact q
end KR

set_option Elab.async false
set_option linter.all false
set_option maxRecDepth 100000
namespace KR
open PySem PySem.Spec PyProof.Rows L2 LamX
abbrev wD (w : List Str) : PyData := .tuple (w.map .str)
theorem reads_strs {h : Heap} : ∀ {w : List Str} {its : List Value}, Vals (w.map V.str) its → ReadsAll h its (w.map .str) []
  | [], _, r => by cases r; exact .nil
  | x :: w, _, r => by
    cases r with
    | cons h1 t =>
      obtain ⟨tk, e⟩ := h1
      subst e
      exact .cons (.str x tk) (reads_strs t)
theorem reads_word {h : Heap} {q : Addr} {w : List Str} {its : List Value} (r : Vals (w.map V.str) its) (ht : IsTup h q its.toArray) : Reads h (.ref q) (wD w) [] := by
  obtain ⟨o, ho, hc, n, hd⟩ := ht
  exact .tuple ho hc hd (by simpa using reads_strs r)
section
variable {prog : Program} {w : World} {A : Around} {s : Shared} {env : Env} {x : Str} {mg mb : Str → Option Value} {T q : Addr} {wd : List Str} {n : Int} {t : Tok} {its : List Value}
  {p p1 p2 p3 p4 p5 p6 p7 p8 : Pos} {j j2 x1 : Nat}
/-- (len(x[0]), x[0]) -/
theorem key_law (k : KEnv env s.heap x (.ref T) mg mb) (hd : (x == ("__debug__" : Str)) = false) (hg : env.kindOf "len" = some .globalImplicit) (hm : mg "len" = none) (hb : mb "len" = some (.builtin "len"))
    (hT : IsTup s.heap T #[.ref q, .int n t]) (hq : IsTup s.heap q its.toArray) (rv : Vals (wd.map V.str) its) (hz : wd.length ≤ sizeLine)
    (hs1 : starEach [.Call (.Name "len" p1) [.Subscript (.Name x p2) (.Constant (.int 0) j p3) p4] [] p5, .Subscript (.Name x p6) (.Constant (.int 0) j2 p7) p8] env = (false, eval (.Call (.Name "len" p1) [.Subscript (.Name x p2) (.Constant (.int 0) j p3) p4] [] p5) env) :: starEach [.Subscript (.Name x p6) (.Constant (.int 0) j2 p7) p8] env)
    (hs2 : starEach [.Subscript (.Name x p6) (.Constant (.int 0) j2 p7) p8] env = (false, eval (.Subscript (.Name x p6) (.Constant (.int 0) j2 p7) p8) env) :: starEach [] env)
    (hs3 : starEach [.Subscript (.Name x p2) (.Constant (.int 0) j p3) p4] env = (false, eval (.Subscript (.Name x p2) (.Constant (.int 0) j p3) p4) env) :: starEach [] env) :
    wpAny (model prog w) A (eval (.Tuple [.Call (.Name "len" p1) [.Subscript (.Name x p2) (.Constant (.int 0) j p3) p4] [] p5, .Subscript (.Name x p6) (.Constant (.int 0) j2 p7) p8] x1 p) env)
      (fun u s' => ∃ h2 tk2, s' = { s with heap := h2, toks := tk2 } ∧ (∀ b o, s.heap.get? b = some o → h2.get? b = some o) ∧ Reads h2 u (.tuple [.int (wd.length : Int), wD wd]) []) (fun _ _ => False) s := by
  have hl : its.toArray.size = wd.length := by
    have := rv.length
    simp at this ⊢; omega
  refine key_tup (n := (its.toArray.size : Int)) (u2 := .ref q) (fun Q' hQ => ?_) (fun tk Q' hQ => ?_) (fun t' tk => ?_) hs1 hs2
  · refine key_len k hg hm hb (fun Q2 h2 => key_sub (fun Q3 h3 => key_name k h3 hd) hT (u := .ref q) rfl h2) hq (by rw [hl]; have := line63; omega) (fun t' tk => hQ t' tk) hs3
  · have k' : KEnv env ({ s with toks := tk } : Shared).heap x (.ref T) mg mb := k
    exact key_sub (s := { s with toks := tk }) (fun Q3 h3 => key_name k' h3 hd) hT (u := .ref q) rfl hQ
  · refine ⟨_, tk, rfl, fun b o e => Heap.get?_push_of_some _ e, ?_⟩
    rw [hl]
    refine .tuple (Heap.get?_push_size _ rfl) rfl rfl (.cons (.int _ _) (.cons (reads_word rv (hq.keeps fun b o e => Heap.get?_push_of_some _ e)) .nil))
/-- (len(x[0]), x) -/
theorem key_prog (k : KEnv env s.heap x (.ref T) mg mb) (hd : (x == ("__debug__" : Str)) = false) (hg : env.kindOf "len" = some .globalImplicit) (hm : mg "len" = none) (hb : mb "len" = some (.builtin "len"))
    (hT : IsTup s.heap T #[.ref q, .int n t]) (hq : IsTup s.heap q its.toArray) (rv : Vals (wd.map V.str) its) (hz : wd.length ≤ sizeLine)
    (hs1 : starEach [.Call (.Name "len" p1) [.Subscript (.Name x p2) (.Constant (.int 0) j p3) p4] [] p5, .Name x p6] env = (false, eval (.Call (.Name "len" p1) [.Subscript (.Name x p2) (.Constant (.int 0) j p3) p4] [] p5) env) :: starEach [.Name x p6] env)
    (hs2 : starEach [.Name x p6] env = (false, eval (.Name x p6) env) :: starEach [] env)
    (hs3 : starEach [.Subscript (.Name x p2) (.Constant (.int 0) j p3) p4] env = (false, eval (.Subscript (.Name x p2) (.Constant (.int 0) j p3) p4) env) :: starEach [] env) :
    wpAny (model prog w) A (eval (.Tuple [.Call (.Name "len" p1) [.Subscript (.Name x p2) (.Constant (.int 0) j p3) p4] [] p5, .Name x p6] x1 p) env)
      (fun u s' => ∃ h2 tk2, s' = { s with heap := h2, toks := tk2 } ∧ (∀ b o, s.heap.get? b = some o → h2.get? b = some o) ∧ Reads h2 u (.tuple [.int (wd.length : Int), .tuple [wD wd, .int n]]) []) (fun _ _ => False) s := by
  have hl : its.toArray.size = wd.length := by
    have := rv.length
    simp at this ⊢; omega
  refine key_tup (n := (its.toArray.size : Int)) (u2 := .ref T) (fun Q' hQ => ?_) (fun tk Q' hQ => ?_) (fun t' tk => ?_) hs1 hs2
  · refine key_len k hg hm hb (fun Q2 h2 => key_sub (fun Q3 h3 => key_name k h3 hd) hT (u := .ref q) rfl h2) hq (by rw [hl]; have := line63; omega) (fun t' tk => hQ t' tk) hs3
  · have k' : KEnv env ({ s with toks := tk } : Shared).heap x (.ref T) mg mb := k
    exact key_name (s := { s with toks := tk }) k' (hQ tk) hd
  · refine ⟨_, tk, rfl, fun b o e => Heap.get?_push_of_some _ e, ?_⟩
    rw [hl]
    have hq' := hq.keeps (h' := s.heap.push { cls := .type "tuple", data := .seq #[.int (wd.length : Int) t', .ref T] }) fun b o e => Heap.get?_push_of_some _ e
    obtain ⟨oT, hoT, hcT, nT, hdT⟩ := hT.keeps (h' := s.heap.push { cls := .type "tuple", data := .seq #[.int (wd.length : Int) t', .ref T] }) fun b o e => Heap.get?_push_of_some _ e
    refine .tuple (Heap.get?_push_size _ rfl) rfl rfl (.cons (.int _ _) (.cons (.tuple hoT hcT hdT (.cons (reads_word rv hq') (.cons (.int _ _) .nil))) .nil))
end
end KR

set_option Elab.async false
set_option linter.all false
set_option maxRecDepth 100000
namespace KR
open PySem PySem.Spec PyProof.Rows L2 LamX
/-- a pair (word, number): its address, the word, the word's address, the number -/
abbrev SI := Addr × List Str × Addr × Int
def SItems (H : Hp) (bs : List SI) : Prop := ∀ b ∈ bs, H b.1 = some (.tup [.ref b.2.2.1, .int b.2.2.2]) ∧ H b.2.2.1 = some (.tup (b.2.1.map V.str))
/-- the key function's body gives k -/
def KeyDoes (X : Cx) (x : Str) (body : Expr) (scope : Scope) (k : SI → PyData) : Prop :=
  ∀ (A : Around) (L f c' : Addr) (s : Shared) (mb : Str → Option Value) (b : SI) (t : Tok) (its : List Value), KEnv (PySem.W.envX (X.env.qual ++ "<lambda>") scope L f (.ref c') (cloFrom X.env.cells scope.names [])) s.heap x (.ref b.1) X.mg mb → mb "len" = some (.builtin "len") →
    IsTup s.heap b.1 #[.ref b.2.2.1, .int b.2.2.2 t] → IsTup s.heap b.2.2.1 its.toArray → Vals (b.2.1.map V.str) its → b.2.1.length ≤ sizeLine →
    wpAny (model X.prog X.w) A (eval body (PySem.W.envX (X.env.qual ++ "<lambda>") scope L f (.ref c') (cloFrom X.env.cells scope.names [])))
      (fun u s' => ∃ h2 tk2, s' = { s with heap := h2, toks := tk2 } ∧ (∀ b o, s.heap.get? b = some o → h2.get? b = some o) ∧ Reads h2 u (k b) []) (fun _ _ => False) s
def tSortKey (T : List (Addr × Str)) (K : PySem.W.Frag) (k : SI → PyData) (te : TA) : TE := fun σ H Q => te σ H fun vs H1 => Tabs T H1 ∧ ∃ (l : Addr) (bs : List SI), vs = [.ref l] ∧ SqL K H1 l (bs.map fun b => V.ref b.1) ∧ SItems H1 bs ∧ bs.length ≤ 1000000 ∧
  ∀ (H2 : Hp) (p : Addr), ExtN H1 H2 → Tabs T H2 → H2 p = some (.lst ((bs.mergeSort (PySem.W.dataLe false k)).map fun b => V.ref b.1)) → Q (.ref p) H2
theorem SqL.extN {K : PySem.W.Frag} {H H' : Hp} {a : Addr} {xs : List V} (h : SqL K H a xs) (e : ExtN H H') : SqL K H' a xs := by
  rcases h with (h | ⟨o, h⟩) | h
  · exact .inl (.inl (e _ _ h fun ps z => by cases z))
  · exact .inl (.inr ⟨o, e _ _ h fun ps z => by cases z⟩)
  · exact .inr h
theorem each_refs : ∀ bs : List SI, PySem.W.EachIs (fun (v : Value) (b : SI) => v = .ref b.1) (bs.map fun b => Value.ref b.1) bs
  | [] => .nil
  | b :: bs => .cons rfl (each_refs bs)
theorem vals_si : ∀ bs : List SI, Vals (bs.map fun b => V.ref b.1) (bs.map fun b => Value.ref b.1)
  | [] => .nil
  | b :: bs => .cons rfl (vals_si bs)
theorem refs_each : ∀ {vs : List Value} {bs : List SI}, PySem.W.EachIs (fun (v : Value) (b : SI) => v = .ref b.1) vs bs → vs = bs.map fun b => Value.ref b.1
  | _, _, .nil => rfl
  | _, _, .cons h t => by rw [List.map_cons, ← refs_each t, h]
theorem pe_sortedKey {X : Cx} {T : List (Addr × Str)} {c P : Addr} {x : Str} {params : Arguments} {body : Expr} {scope : Scope} {e : Expr} {te : TA} {k : SI → PyData} {kn : Nat} {p lpos kpos pos : Pos}
    (hc : X.calm = true) (hr : Room (kn + 1) X.A) (hg : Gl X "sorted") (hm : X.mg "sorted" = none) (ha : PA X [e] te)
    (TB : TabB X.base X.mg c P) (hcode : X.env.code = .ref c) (hmT : (P, X.env.qual ++ "<lambda>") ∈ T) (hu : ∀ p ∈ T, p.1 = P → p.2 = X.env.qual ++ "<lambda>") (hdef : defaultsOf params X.env = ([], []))
    (hfree : ∀ y ∈ scope.names, y.2 ≠ .free) (hcell : ∀ y ∈ scope.names, y.2 ≠ .cell) (hk : scope.kind = .function) (hco : scope.isCoroutine = false) (hgen : scope.isGenerator = false) (hx : scope.names.lookup x = some .local)
    (hbind : ∀ (q : Str) (cl : List (Str × Addr)) (pm cv ctv v : Value), bindArgs (PySem.W.kla_fn "<lambda>" q params body scope cl pm cv ctv) ⟨[v], []⟩ = pure [(x, v)])
    (hkey : KeyDoes X x body scope k) (hal : ∀ a b : SI, PySem.W.alike (k a) (k b) = true) (htup : ∀ b : SI, ∃ y r, k b = .tuple (y :: r)) (hdep : ∀ b : SI, (k b).depth ≤ 8)
    (he : backTo pos (starEach [e] X.env) = (false, eval e X.env) :: backTo pos (starEach [] X.env) := by rfl) :
    PE X (.Call (.Name "sorted" p) [e] [⟨some "key", .Lambda params body scope lpos, kpos⟩] pos) (tSortKey T X.K k te) := by
  refine ⟨fun pins s σ H Q I h => ?_⟩
  refine wpAny_Call_Name_kw (ld_blt I hg hm (by decide +kernel : bootBuiltins "sorted" = some (.builtin "sorted")) ?_)
  refine PyProof.Rows.callWith_kw (thn (ha.run pos pins s σ H _ I h) fun us s1 ⟨vs, H1, I1, r1, hT1, l, bs, ev, hl, hbs, hlen, q⟩ => ?_) he (by rw [he]; rfl)
  subst ev
  obtain rfl := Vals.ref1 r1
  show wpAny _ _ (evalAll ((do let v ← eval (.Lambda params body scope lpos) X.env; standAt pos; pure v) :: [])) _ _ s1
  refine wpAny_evalAll_cons (wpAny_bind (lam_make2 I1 TB hcode hmT hu hT1 hdef (fun y hy e => absurd e (hfree y hy)) fun f c' pm ctv H2 s2 I2 eN T2 hf hfn hfr hco2 => wpAny_bind (wpAny_standAt (wpAny_pure (wpAny_evalAll_nil ?_)))))
  show wpAny _ _ (call (.builtin "sorted") [.ref l] [(Str.ofString "key", .ref f)]) _ _ s2
  have hl2 : SqL X.K H2 l (bs.map fun b => V.ref b.1) := SqL.extN hl eN
  obtain ⟨its, rv, pl, hz⟩ := I2.list hl2
  have eits : its = bs.map fun b => Value.ref b.1 := by
    have := refs_at (ps := bs.map (·.1)) (us := its) (by rw [List.map_map]; exact rv)
    rw [this, List.map_map]; rfl
  subst eits
  obtain ⟨mb, b1, b2⟩ := I2.mod.blt
  have hbl : bs.length ≤ sizeLine := by rw [sizeLine_eq]; omega
  have hd8 : ∀ b ∈ bs, X.A.units + 2 + (k b).depth < cLine := fun b _ => by
    have h1 := hdep b
    have h2 := hr.un
    omega
  have hal' : PySem.W.AllAlike (bs.map k) := by
    intro d hd d' hd'
    obtain ⟨b, _, rfl⟩ := List.mem_map.mp hd
    obtain ⟨b', _, rfl⟩ := List.mem_map.mp hd'
    exact hal b b'
  have hso : PySem.W.Sortable (bs.map k) := PySem.W.Sortable.tuples htup
  refine PySem.W.sorted_key_data (R := fun (v : Value) (b : SI) => v = .ref b.1) (b := false) k pl.isList (each_refs bs) hal' hso hbl hd8 (PyProof.Rows.ksk_s1 _ _) (fun _ => PyProof.Rows.ksk_l1 _ _) (fun a => PyProof.Rows.ksk_t1 _ _) (fun v b hvb hb h tk kp => ?_) fun out c h' tk kp hnew hobj hol hout => ?_
  · have hvb : v = .ref b.1 := hvb
    subst hvb
    obtain ⟨h1, h2⟩ := hbs b hb
    have h1' := eN _ _ h1 fun ps z => by cases z
    have h2' := eN _ _ h2 fun ps z => by cases z
    obtain ⟨_, i1, rv1, t1⟩ := I2.hok _ _ h1'
    obtain ⟨u1, u2, e1, ra, rb⟩ := vals2 rv1
    subst e1
    cases (show u1 = Value.ref b.2.2.1 from ra)
    obtain ⟨t, rfl⟩ := rb
    obtain ⟨z2, i2, rv2, t2⟩ := I2.hok _ _ h2'
    rw [List.length_map] at z2
    have G := I2.mod.glob.keeps I2.bk
    have B := b1.keeps I2.bk
    refine lam_key (s := { s2 with heap := h, toks := tk }) (mg := X.mg) (mb := mb) (by have := hr.dp; show X.A.depth < recursionLimit; omega) (kp _ _ hf) ?_ (hbind _ _ _ _ _ _) hk hco hgen hx hcell (I2.nolimit.keeps kp) (G.keeps kp) (B.keeps kp) fun A' h₁ tk' kenv kp2 => ?_
    · obtain ⟨⟨oc, vs, t', h3, h4, h5⟩, _, _⟩ := I2.hok _ _ hco2
      exact ⟨c', oc, vs, t', rfl, kp _ _ h3, h4, h5⟩
    · have r := hkey A' h.objs.size f c' { s2 with heap := h₁, toks := tk' } mb b t i2 kenv ((b2 "len" (by decide)).trans boot_len) (t1.keeps fun b o e => kp2 _ _ (kp _ _ e)) (t2.keeps fun b o e => kp2 _ _ (kp _ _ e)) rv2 z2
      exact r
  · have eout := refs_each hout
    have ekp : Inv X pins σ (upd H2 (s2.heap.objs.size + 1) (.lst ((bs.mergeSort (PySem.W.dataLe false k)).map fun b => V.ref b.1))) { s2 with heap := h', toks := tk } := by
      refine I2.laid (t' := tk) kp (Nat.le_succ _) ⟨by rw [List.length_map, List.length_mergeSort]; exact hbl, out, c, ?_, hobj⟩
      rw [eout]
      exact vals_si _
    have hn : H2 (s2.heap.objs.size + 1) = none := I2.hok.fresh (Nat.le_succ _)
    refine ⟨.ref (s2.heap.objs.size + 1), _, ekp, rfl, q _ _ (fun b o e n => ?_) (T2.ext fun b o e => ?_) upd_same⟩
    · have e' := eN b o e n
      rw [upd_ne (ne_of_none e' hn)]; exact e'
    · rw [upd_ne (ne_of_none e hn)]; exact e
end KR

set_option Elab.async false
set_option linter.all false
set_option maxRecDepth 100000
namespace KR
open PySem PySem.Spec PyProof.Rows L2 LamX
abbrev anyO : HO := .ext fun _ => True
/-- the lambda «lambda x: g[x]», g a captured cell that holds the dict at d -/
structure LamGet (H : Hp) (f d : Addr) (g x : Str) (qual : Str) (params : Arguments) (body : Expr) (scope : Scope) (cc c' : Addr) (pm ctv : Value) (oc : Obj) : Prop where
  fn : H f = some (.frz (PySem.W.kla_obj "<lambda>" qual params body scope [(g, cc)] pm c' ctv) anyO)
  cell : H cc = some (.frz oc anyO)
  val : oc.data = .cell (some (.ref d))
  code : H c' = some (CodeO c' qual)
/-- what is seen of its text -/
structure LamTx (g x : Str) (params : Arguments) (body : Expr) (scope : Scope) : Prop where
  kind : scope.kind = .function
  co : scope.isCoroutine = false
  gen : scope.isGenerator = false
  nocell : ∀ y ∈ scope.names, y.2 ≠ .cell
  lx : scope.names.lookup x = some .local
  lg : scope.names.lookup g = some .free
  bind : ∀ (q : Str) (cl : List (Str × Addr)) (pm cv ctv v : Value), bindArgs (PySem.W.kla_fn "<lambda>" q params body scope cl pm cv ctv) ⟨[v], []⟩ = pure [(x, v)]
  body : ∃ p1 p2 p3, body = .Subscript (.Name g p1) (.Name x p2) p3
  dx : (x == ("__debug__" : Str)) = false
  dg : (g == ("__debug__" : Str)) = false
  cg : (g == ("__classdict__" : Str)) = false
section
variable {X : Cx} {pins : List (Addr × Obj)} {σ : L2.St} {H : Hp} {s : Shared} {f d cc c' : Addr} {g x qual : Str} {params : Arguments} {body : Expr} {scope : Scope} {pm ctv : Value} {oc : Obj}
theorem lamGet_run {y v : V} {u : Value} {Q : VK} {kn : Nat} (I : Inv X pins σ H s) (L : LamGet H f d g x qual params body scope cc c' pm ctv oc) (T : LamTx g x params body scope) (hr : Room (kn + 1) X.A) (ry : RelV y u) (dg : DGet H d y (some v)) (hq : Q v H) :
    wpAny (model X.prog X.w) X.A (call (.ref f) [u]) (EP X pins σ Q) X.xe s := by
  obtain ⟨ho, _⟩ := I.hok f _ L.fn
  obtain ⟨hcell, _⟩ := I.hok cc _ L.cell
  obtain ⟨⟨occ, vs, t, hoc, hdc, hvc⟩, _, _⟩ := I.hok c' _ L.code
  obtain ⟨p1, p2, p3, eb⟩ := T.body
  refine wpAny_call (codeAny_mono (R := fun r s' => ∃ u, r = .ok (.ret u) ∧ EP X pins σ Q u s') ?_ fun r s' hq => ?_)
  · refine PySem.W.kla_callFunE hr.depth ho rfl T.co T.gen rfl ⟨c', occ, vs, t, rfl, hoc, hdc, hvc⟩ ?_
    rw [T.bind]
    refine wpAny_pure (wpAny_newFunctionEnv T.nocell (fun z hz => ?_) (fun h₁ hns hsb => ⟨I.nolimit.fresh _ hsb, ?_⟩) T.kind)
    · have e : z = (x, u) := by simpa using hz
      rw [e]; exact T.lx
    show codeAny _ _ (.expr body (PySem.W.envX qual scope s.heap.objs.size f (.ref c') [(g, cc)])) _ _
    have kp : ∀ b o, s.heap.get? b = some o → h₁.get? b = some o := fun b o e => hsb.extBut b o (Nat.ne_of_lt (Heap.lt_size e)) (Heap.get?_push_of_some _ e)
    have I1 : Inv X pins σ H { s with heap := h₁, toks := s.toks + [(x, u)].length } := I.kept kp
    rw [eb]
    refine PySem.W.kla_codeExpr (wpAny_mono (Q := EP X pins σ Q) (E := fun _ _ => False) ?_ (fun u s' hq => ⟨u, rfl, hq⟩) fun _ _ z => z.elim)
    refine subD_of PySem.F.slot_dict_getitem.lookup (fun _ _ => rfl) (wpAny_Name (wpAny_loadName_free (v := .ref d) T.kind T.lg (by simp) ⟨oc, kp _ _ hcell, L.val⟩ ?_ T.cg) T.dg)
    refine wpAny_Name (wpAny_loadName_local (v := u) T.kind T.lx hns (by simp) ?_) T.dx
    exact ⟨dict_typeIs I1 dg, d_getItem (by have := hr.un; show X.A.units + 3 + 1 < cLine; omega) I1 dg ry fun w' s3 I3 rw' => ⟨v, H, I3, rw', hq⟩⟩
  · obtain ⟨u, e, q⟩ := hq
    subst e
    exact q
/-- a(e), a a name that holds such a lambda -/
def tLamGet (i : Nat) (g x qual : Str) (params : Arguments) (body : Expr) (scope : Scope) (te : TE) : TE := fun σ H Q => ∃ f, σ[i]? = some (some (.ref f)) ∧ (∃ o, H f = some (.frz o anyO) ∧ ∃ oc od fd sl, o = ⟨oc, od, .func fd, sl⟩) ∧
  te σ H fun y H1 => ∃ (d cc c' : Addr) (pm ctv : Value) (oc : Obj) (v : V), LamGet H1 f d g x qual params body scope cc c' pm ctv oc ∧ DGet H1 d y (some v) ∧ Q v H1
theorem pe_lamGet {i kn : Nat} {a : Str} {e : Expr} {te : TE} {p pos : Pos} (hr : Room (kn + 1) X.A) (T : LamTx g x params body scope) (hN : X.N[i]? = some a) (hv : Vis X.env.scope a) (ha : PE X e te)
    (hd : (a == ("__debug__" : Str)) = false := by decide) (hcd : (a == ("__classdict__" : Str)) = false := by decide)
    (he : starEach [e] X.env = (false, eval e X.env) :: starEach [] X.env := by rfl) :
    PE X (.Call (.Name a p) [e] [] pos) (tLamGet i g x qual params body scope te) := by
  refine ⟨fun pins s σ H Q I h => ?_⟩
  obtain ⟨f, hs, ⟨o, hf, oc, od, fd, sl, eo⟩, ht⟩ := h
  refine wpAny_Call_Name_kw (thn ((pe_var (pos := p) hN hv hd hcd).run pins s σ H (fun v H1 => v = .ref f ∧ H1 = H) I ⟨.ref f, hs, rfl, rfl⟩) fun u s1 ⟨v, H1, I1, r1, q1⟩ => ?_)
  obtain ⟨ev, eH⟩ := q1
  subst ev
  rw [eH] at I1
  obtain rfl : u = Value.ref f := r1
  have fn1 : PySem.W.FnAt f s1.heap := by
    obtain ⟨h1, _⟩ := I1.hok f _ hf
    rw [eo] at h1
    exact ⟨oc, od, fd, sl, h1⟩
  refine PySem.W.callWith_F (first := []) fn1 ?_ he rfl
  rw [he]
  show wpAny _ _ (spliced ((false, eval e X.env) :: backTo pos (starEach [] X.env))) _ _ s1
  refine Calls.spliced_cons (thn (ha.run pins s1 σ H _ I1 ht) fun u s2 ⟨y, H2, I2, ry, d, cc, c', pm, ctv, oc2, v, L, dg, q⟩ => Calls.spliced_nil ⟨?_, ?_⟩)
  · obtain ⟨h1, _⟩ := I2.hok f _ L.fn
    exact ⟨_, _, _, _, h1⟩
  · exact lamGet_run I2 L T hr ry dg q
end
end KR

set_option Elab.async false
set_option linter.all false
set_option maxRecDepth 100000
namespace KR
open PySem PySem.Spec PyProof.Rows L2 LamX
section
variable {X : Cx} {pins : List (Addr × Obj)} {σ : L2.St} {H : Hp} {s : Shared}
/-- a lambda's making, told with the youth of its object -/
theorem lam_young {T : List (Addr × Str)} {c P : Addr} {params : Arguments} {body : Expr} {scope : Scope} {pos : Pos} {E : Value → Shared → Prop} {Q : Value → Shared → Prop} (I : Inv X pins σ H s) (TB : TabB X.base X.mg c P) (hcode : X.env.code = .ref c)
    (hm : (P, X.env.qual ++ "<lambda>") ∈ T) (hu : ∀ p ∈ T, p.1 = P → p.2 = X.env.qual ++ "<lambda>") (hT : Tabs T H) (hdef : defaultsOf params X.env = ([], [])) (hfree : ∀ y ∈ scope.names, y.2 = .free → ∃ c, X.env.cells.lookup y.1 = some c)
    (h : ∀ (f c' : Addr) (pm ctv : Value) (H1 : Hp) (s' : Shared), Inv X pins σ H1 s' → ExtN H H1 → Tabs T H1 → s.heap.objs.size ≤ f →
      s'.heap.get? f = some (PySem.W.kla_obj "<lambda>" (X.env.qual ++ "<lambda>") params body scope (cloFrom X.env.cells scope.names []) pm c' ctv) → H1 f = none → f ∉ frs X.stack → H1 c' = some (CodeO c' (X.env.qual ++ "<lambda>")) → Q (.ref f) s') :
    wpAny (model X.prog X.w) X.A (eval (.Lambda params body scope pos) X.env) Q E s := by
  have hk := hT _ hm
  obtain ⟨ps, hP, ht, ha⟩ := hk
  have tbl := I.hok P _ hP
  have tbl' : s.heap.get? P = some { cls := .none, data := .fields ps } := tbl
  have far : ∀ g, s.heap.objs.size ≤ g → g ∉ frs X.stack := fun g hg z => by
    have z' := I.stkSub _ z
    rcases List.mem_cons.mp z' with e | e
    · exact absurd (Nat.lt_of_lt_of_le I.lt (by rw [← e]; exact hg)) (Nat.lt_irrefl _)
    · exact I.nofs hg e
  refine PySem.W.kla_eval hdef ?_
  cases hc : codeAmong pos ps.toList with
  | some cv =>
    obtain ⟨c', e, hco⟩ := ha pos cv hc
    cases e
    refine PySem.W.kla_makeFunctionHit (mg := X.mg) (c := c) (P := P) (ps := ps) (closure_ok hfree) I.ok.glob (I.mod.glob.keeps I.bk) hcode (TB.code.keeps I.bk) tbl' ht hc (TB.bm.keeps I.bk) fun ctv h' tk hx hsz => ?_
    exact h h'.objs.size c' _ ctv H _ (I.kept fun b o e => Heap.get?_push_of_some _ (hx b o e)) (ExtN.refl H) hT hsz (Heap.get?_push_size _ rfl) (I.hok.fresh hsz) (far _ hsz) hco
  | none =>
    refine PySem.W.kla_makeFunction (mg := X.mg) (c := c) (P := P) (ps := ps) (closure_ok hfree) I.ok.glob (I.mod.glob.keeps I.bk) hcode (TB.code.keeps I.bk) tbl' ht hc TB.gP (TB.bm.keeps I.bk) fun c' ctv h' tk hx hge hlt hrec htb => ?_
    obtain ⟨c2, oc, vs, t, e2, hoc, hd, hv⟩ := hrec
    cases e2
    have hsz : s.heap.objs.size ≤ h'.objs.size := Nat.le_trans hge (Nat.le_of_lt hlt)
    have nC : H c' = none := I.hok.fresh hge
    have J := inv_table (t' := tk) (q := X.env.qual ++ "<lambda>") (more := #[rawInt pos.line, rawInt pos.col, .ref c']) (h' := h'.push (PySem.W.kla_obj "<lambda>" (X.env.qual ++ "<lambda>") params body scope (cloFrom X.env.cells scope.names []) ((X.mg "__name__").getD .none) c' ctv)) I hP
      (fun b o hb e => Heap.get?_push_of_some _ (hx b o hb e)) (Heap.get?_push_of_some _ htb) hge ⟨oc, vs, t, Heap.get?_push_of_some _ hoc, hd, hv⟩
    have old : ∀ b o, H b = some o → b ≠ P → upd (upd H P (.tbl (ps ++ #[rawInt pos.line, rawInt pos.col, .ref c']))) c' (CodeO c' (X.env.qual ++ "<lambda>")) b = some o := fun b o e n => by
      rw [upd_ne (ne_of_none e nC), upd_ne n]; exact e
    have hE : ExtN H (upd (upd H P (.tbl (ps ++ #[rawInt pos.line, rawInt pos.col, .ref c']))) c' (CodeO c' (X.env.qual ++ "<lambda>"))) := fun b o e n =>
      old b o e fun z => n ps (Option.some.inj (e.symm.trans (by rw [z]; exact hP)))
    have eL : (ps ++ #[rawInt pos.line, rawInt pos.col, .ref c']).toList = ps.toList ++ [rawInt pos.line, rawInt pos.col, .ref c'] := by simp
    refine h h'.objs.size c' _ ctv _ _ J hE (fun p hp => ?_) hsz (Heap.get?_push_size _ rfl) ?_ (far _ hsz) upd_same
    · by_cases hb : p.1 = P
      · rw [hu p hp hb, hb]
        refine ⟨_, (upd_ne (ne_of_none hP nC)).trans upd_same, by rw [eL]; exact PySem.TriplesOk_snoc _ _ _ _ ht, fun p' cv hcv => ?_⟩
        rw [eL] at hcv
        rcases among_app _ ht hcv with z | z
        · obtain ⟨c0, e1, e2⟩ := ha p' cv z
          exact ⟨c0, e1, hE _ _ e2 codeO_ne⟩
        · exact ⟨c', z, upd_same⟩
      · obtain ⟨qs, a1, a2, a3⟩ := hT p hp
        refine ⟨qs, old _ _ a1 hb, a2, fun p' cv hcv => ?_⟩
        obtain ⟨c0, e1, e2⟩ := a3 p' cv hcv
        exact ⟨c0, e1, hE _ _ e2 codeO_ne⟩
    · have n2 : h'.objs.size ≠ P := Nat.ne_of_gt (Nat.lt_of_lt_of_le (Heap.lt_size tbl') hsz)
      rw [upd_ne (Nat.ne_of_gt hlt), upd_ne n2]
      exact I.hok.fresh hsz
end
/-! ### a call during which two untracked objects stand frozen -/
def frz2 (H : Hp) (f cc : Addr) (of oc : Obj) : Hp := upd (upd H f (.frz of anyO)) cc (.frz oc anyO)
def del2 (H : Hp) (f cc : Addr) : Hp := fun b => if b = f ∨ b = cc then none else H b
section
variable {X : Cx} {pins : List (Addr × Obj)} {σ : L2.St} {H : Hp} {s : Shared} {f cc : Addr} {of oc : Obj}
theorem frz2_old {b : Addr} {o : HO} (nf : H f = none) (nc : H cc = none) (e : H b = some o) : frz2 H f cc of oc b = some o := by
  unfold frz2
  rw [upd_ne (ne_of_none e nc), upd_ne (ne_of_none e nf)]; exact e
theorem frz2_at {b : Addr} (hb : ¬ (b = f ∨ b = cc)) : frz2 H f cc of oc b = H b := by
  unfold frz2
  rw [upd_ne fun z => hb (.inr z), upd_ne fun z => hb (.inl z)]
theorem any_ok {P : Program} {w : World} {H' : Hp} {h : Heap} {a : Addr} {o : Obj} (e : h.get? a = some o) : ObjOk P w H' h a (.frz o anyO) := ⟨e, True.intro, ⟨o, e⟩, fun _ _ _ _ => True.intro⟩
theorem env0_frz (e0 : Env0 X.prog X.w X.K X.mg X.base X.A X.stack s H) (nf : H f = none) (nc : H cc = none) (hf : s.heap.get? f = some of) (hc : s.heap.get? cc = some oc) (bf : X.base.get? f = none) (bc : X.base.get? cc = none) (ff : f ∉ frs X.stack) (fc : cc ∉ frs X.stack) (hne : f ≠ cc) :
    Env0 X.prog X.w X.K X.mg X.base X.A X.stack s (frz2 H f cc of oc) := by
  refine ⟨e0.frames, e0.mod, fun b o e => ⟨(e0.bs b o e).1, ?_⟩, e0.bsz, e0.funs, fun b hb => ?_, fun b o e => ?_, e0.bare⟩
  · rw [frz2_at]
    · exact (e0.bs b o e).2
    · rintro (z | z)
      · rw [z, bf] at e; cases e
      · rw [z, bc] at e; cases e
  · rw [frz2_at]
    · exact e0.frf b hb
    · rintro (z | z)
      · exact ff (by rw [← z]; exact hb)
      · exact fc (by rw [← z]; exact hb)
  · by_cases h1 : b = cc
    · rw [h1] at e ⊢
      rw [show frz2 H f cc of oc cc = some (.frz oc anyO) from upd_same] at e
      cases e
      exact any_ok hc
    · by_cases h2 : b = f
      · rw [h2] at e ⊢
        rw [show frz2 H f cc of oc f = some (.frz of anyO) from (upd_ne hne).trans upd_same] at e
        cases e
        exact any_ok hf
      · rw [frz2_at (fun z => z.elim h2 h1)] at e
        exact (e0.hok b o e).stay (fun d u _ q => q) (fun d q => frz2_old nf nc q) fun d xs q => frz2_old nf nc q
theorem ce_back {P : Program} {w : World} {outer : List Env} {Q : VK} {u : Value} {s' : Shared} (nf : H f = none) (nc : H cc = none) (hf : s.heap.get? f = some of) (hc : s.heap.get? cc = some oc) (hne : f ≠ cc) (h : CE outer P w (frz2 H f cc of oc) s Q u s') :
    CE outer P w H s (fun v H3 => ∃ H4, H3 = del2 H4 f cc ∧ Q v H4) u s' := by
  obtain ⟨v, H4, os, bare, un, hok, rv, q⟩ := h
  have df : H4 f = some (.frz of anyO) := un.frzs f of _ ((upd_ne hne).trans upd_same)
  have dc : H4 cc = some (.frz oc anyO) := un.frzs cc oc _ upd_same
  have at_ : ∀ b, ¬ (b = f ∨ b = cc) → del2 H4 f cc b = H4 b := fun b hb => if_neg hb
  have off : ∀ b o, H b = some o → ¬ (b = f ∨ b = cc) := fun b o e => by
    rintro (z | z)
    · rw [z, nf] at e; cases e
    · rw [z, nc] at e; cases e
  have gf := (hok f _ df).1
  have gc := (hok cc _ dc).1
  refine ⟨v, del2 H4 f cc, os, bare, ⟨fun b o e n h1 h2 => ?_, fun b o e n h1 h2 => ?_, fun b o e n h2 => ?_, un.there, fun b xs e => ?_, fun b o u e => ?_, fun b ps e => ?_⟩, fun b o e => ?_, rv, H4, rfl, q⟩
  · by_cases hb : b = f ∨ b = cc
    · rcases hb with z | z
      · rw [z, hf] at e; cases e; rw [z]; exact gf
      · rw [z, hc] at e; cases e; rw [z]; exact gc
    · exact un.keep b o e ((frz2_at hb).trans n) h1 h2
  · by_cases hb : b = f ∨ b = cc
    · rcases hb with z | z
      · rw [z, hf] at e; cases e; rw [z]; exact ⟨_, gf⟩
      · rw [z, hc] at e; cases e; rw [z]; exact ⟨_, gc⟩
    · exact un.slot b o e ((frz2_at hb).trans n) h1 h2
  · by_cases hb : b = f ∨ b = cc
    · exact if_pos hb
    · rw [at_ b hb]
      exact un.free b o e ((frz2_at hb).trans n) h2
  · have hb := off b _ e
    rw [at_ b hb]
    exact un.tups b xs ((frz2_at hb).trans e)
  · have hb := off b _ e
    rw [at_ b hb]
    exact un.frzs b o u ((frz2_at hb).trans e)
  · have hb := off b _ e
    obtain ⟨more, z⟩ := un.tbls b ps ((frz2_at hb).trans e)
    exact ⟨more, (at_ b hb).trans z⟩
  · by_cases hb : b = f ∨ b = cc
    · have z : del2 H4 f cc b = none := if_pos hb
      rw [z] at e; cases e
    · rw [at_ b hb] at e
      refine (hok b o e).stay (fun d u _ q => q) (fun d q => ?_) fun d xs q => ?_
      · have hd : ¬ (d = f ∨ d = cc) := by
          rintro (z | z)
          · rw [z, df] at q; cases q
          · rw [z, dc] at q; cases q
        exact (at_ d hd).trans q
      · have hd : ¬ (d = f ∨ d = cc) := by
          rintro (z | z)
          · rw [z, df] at q; cases q
          · rw [z, dc] at q; cases q
        exact (at_ d hd).trans q
end
end KR

set_option Elab.async false
set_option linter.all false
set_option maxRecDepth 100000
namespace KR
open PySem PySem.Spec PyProof.Rows L2 LamX
/-- x(e, lambda y: g[y]), g a cell of the running def that holds a dict -/
def tCallFz (T : List (Addr × Str)) (i : Nat) (g x qual : Str) (params : Arguments) (body : Expr) (scope : Scope) (sp : Sp) (te : TE) : TE := fun σ H Q => te σ H fun v H1 => Tabs T H1 ∧ ∃ d, σ[i]? = some (some (.ref d)) ∧
  ∀ (H2 : Hp), ExtN H1 H2 → Tabs T H2 → ∀ (f cc c' : Addr) (pm ctv : Value) (oc : Obj), H2 f = none → H2 cc = none → LamGet (frz2 H2 f cc (PySem.W.kla_obj "<lambda>" qual params body scope [(g, cc)] pm c' ctv) oc) f d g x qual params body scope cc c' pm ctv oc →
    sp [v, .ref f] (frz2 H2 f cc (PySem.W.kla_obj "<lambda>" qual params body scope [(g, cc)] pm c' ctv) oc) (fun z H4 => Q z (del2 H4 f cc)) (fun _ _ _ => False)
theorem pe_callFz {X : Cx} {T : List (Addr × Str)} {c P fT : Addr} {g x nT : Str} {params : Arguments} {body : Expr} {scope : Scope} {e : Expr} {te : TE} {i k : Nat} {fdT : FuncData} {psT : List Str} {sp : Sp} {p lpos pos : Pos}
    (F : FnOk X.prog X.w X.K X.mg X.base CX0 k fT fdT psT sp) (hr : Room k X.A) (hg : Gl X nT) (hm : X.mg nT = some (.ref fT)) (hkp : PySem.W.keepIn X.K (.ref fT) = true) (hb : Binds X.K fdT psT []) (hl2 : psT.length = 2) (ha : PE X e te)
    (TB : TabB X.base X.mg c P) (hcode : X.env.code = .ref c) (hmT : (P, X.env.qual ++ "<lambda>") ∈ T) (hu : ∀ p ∈ T, p.1 = P → p.2 = X.env.qual ++ "<lambda>") (hdef : defaultsOf params X.env = ([], []))
    (hcl : ∀ cc, X.env.cells.lookup g = some cc → cloFrom X.env.cells scope.names [] = [(g, cc)]) (hfree : ∀ y ∈ scope.names, y.2 = .free → X.env.scope.names.lookup y.1 = some .cell)
    (hN : X.N[i]? = some g) (hgc : X.env.scope.names.lookup g = some .cell) (hfn : X.fn g = true) (hdb : (nT == ("__debug__" : Str)) = false := by decide)
    (he : starEach [e, .Lambda params body scope lpos] X.env = (false, eval e X.env) :: starEach [.Lambda params body scope lpos] X.env := by rfl)
    (he2 : starEach [.Lambda params body scope lpos] X.env = (false, eval (.Lambda params body scope lpos) X.env) :: starEach [] X.env := by rfl) :
    PE X (.Call (.Name nT p) [e, .Lambda params body scope lpos] [] pos) (tCallFz T i g x (X.env.qual ++ "<lambda>") params body scope sp te) := by
  refine ⟨fun pins s σ H Q I h => ?_⟩
  refine wpAny_Call_Name_kw (ld_glob I hg hm ?_ hdb)
  refine PySem.W.callWith_K (h₀ := X.base) I.ok.mod.kin hkp ?_ he (by rw [he2]; rfl)
  rw [he]
  show wpAny _ _ (spliced ((false, eval e X.env) :: backTo pos (starEach [.Lambda params body scope lpos] X.env))) _ _ s
  refine Calls.spliced_cons (thn (ha.run pins s σ H _ I h) fun u s1 ⟨v, H1, I1, r1, hT1, d, hs, q⟩ => ?_)
  rw [he2]
  show wpAny _ _ (spliced ((false, eval (.Lambda params body scope lpos) X.env) :: backTo pos (starEach [] X.env))) _ _ s1
  refine Calls.spliced_cons (lam_young I1 TB hcode hmT hu hT1 hdef (fun y hy e => I1.ok.has _ (.inl (hfree y hy e))) fun f c' pm ctv H2 s2 I2 eN T2 hy hf nf hfr hco => Calls.spliced_nil ⟨I2.kIn, ?_⟩)
  obtain ⟨m, hn, hl⟩ := I2.loc
  obtain ⟨u2, ru2, lk⟩ := hl i g (.ref d) hN hs (.inr (.inl hgc))
  cases (show u2 = Value.ref d from ru2)
  have lk2 : ∃ cc, X.env.cells.lookup g = some cc ∧ s2.heap.IsCell cc (some (.ref d)) := by
    rcases lk with ⟨z, _⟩ | ⟨_, z⟩
    · have z' : X.env.scope.names.lookup g = some .local := z
      rw [hgc] at z'; cases z'
    · exact z
  obtain ⟨cc, hcc, oc, hoc, hdat⟩ := lk2
  have ncc := I2.freeC g cc hcc
  rw [hcl cc hcc] at hf
  have hge := I2.ok.cab g cc hfn hcc
  have hne : f ≠ cc := fun z => by
    rw [z, hoc] at hf
    have z2 : oc = PySem.W.kla_obj "<lambda>" (X.env.qual ++ "<lambda>") params body scope [(g, cc)] pm c' ctv := Option.some.inj hf
    rw [z2] at hdat
    cases hdat
  have bcc : X.base.get? cc = none := Heap.get?_none_of_le (Nat.le_trans I2.ok.bsz hge)
  have bf : X.base.get? f = none := Heap.get?_none_of_le (Nat.le_trans I1.ok.bsz (Nat.le_trans I1.sz hy))
  have fcc : cc ∉ frs X.stack := fun z => by
    rcases List.mem_cons.mp (I2.stkSub _ z) with e | e
    · exact I2.cne g cc hcc e
    · obtain ⟨_, o, ho, _⟩ := I2.ok.funs.mem e
      exact absurd (Nat.lt_of_lt_of_le (Heap.lt_size ho) hge) (Nat.lt_irrefl _)
  have e0 := env0_frz I2.env0 nf ncc hf hoc bf bcc hfr fcc hne
  have L : LamGet (frz2 H2 f cc (PySem.W.kla_obj "<lambda>" (X.env.qual ++ "<lambda>") params body scope [(g, cc)] pm c' ctv) oc) f d g x (X.env.qual ++ "<lambda>") params body scope cc c' pm ctv oc :=
    ⟨(upd_ne hne).trans upd_same, upd_same, hdat, frz2_old nf ncc hco⟩
  have hsp := q H2 eN T2 f cc c' pm ctv oc nf ncc L
  have rc := F.run X.A X.stack s2 _ ⟨[u, .ref f], []⟩ [u, .ref f] [v, .ref f] _ _ hr e0 (hb s2 [u, .ref f] I2.kIn (by rw [hl2]; rfl)) (.cons r1 (.cons rfl .nil)) hsp
  refine wpAny_call (codeAny_mono rc fun r s' hq => ?_)
  cases r with
  | error e => exact (show False from hq).elim
  | ok fl =>
    cases fl with
    | ret w' =>
      have z := ce_back nf ncc hf hoc hne hq
      obtain ⟨v', H3, os, bare, un, hok, rv, H4, e3, q3⟩ := z
      refine I2.after ⟨v', H3, os, bare, un, hok, rv, ?_⟩
      rw [e3]; exact q3
    | next => exact False.elim hq
    | brk => exact False.elim hq
    | cont => exact False.elim hq
end KR

set_option Elab.async false
set_option linter.all false
set_option maxRecDepth 100000
namespace KR
open PySem PySem.Spec PyProof.Rows L2
abbrev Wd := List Str
/-- the key of a word: how long, then the word -/
def wk (w : Wd) : PyData := .tuple [.int (w.length : Int), wD w]
def wk2 (w : Wd) (n : Int) : PyData := .tuple [.int (w.length : Int), .tuple [wD w, .int n]]
def wle (u v : Wd) : Bool := !PySem.W.dataLt (wk v) (wk u)
theorem eqvAll_strs : ∀ u v : Wd, PyData.eqvAll (u.map .str) (v.map .str) = decide (u = v)
  | [], [] => by simp [PyData.eqvAll]
  | [], b :: v => by simp [PyData.eqvAll]
  | a :: u, [] => by simp [PyData.eqvAll]
  | a :: u, b :: v => by
    rw [List.map_cons, List.map_cons, PySem.W.eqv_all_cons, eqvAll_strs u v]
    by_cases h : a = b
    · subst h; simp [PyData.eqv]
    · simp [PyData.eqv, h]
theorem eqv_wD (u v : Wd) : PyData.eqv (wD u) (wD v) = decide (u = v) := by
  show PyData.eqv (.tuple _) (.tuple _) = _
  rw [PyData.eqv, eqvAll_strs]
theorem alikeAll_strs : ∀ u v : Wd, PySem.W.alikeAll (u.map .str) (v.map .str) = true
  | [], _ => by simp [PySem.W.alikeAll]
  | a :: u, [] => by simp [PySem.W.alikeAll]
  | a :: u, b :: v => by
    rw [List.map_cons, List.map_cons, PySem.W.alikeAll, alikeAll_strs u v]
    simp [PySem.W.alike]
theorem alike_wD (u v : Wd) : PySem.W.alike (wD u) (wD v) = true := by
  show PySem.W.alike (.tuple _) (.tuple _) = _
  rw [PySem.W.alike, alikeAll_strs]
theorem alike_wk (u v : Wd) : PySem.W.alike (wk u) (wk v) = true := by
  unfold wk
  rw [PySem.W.alike, PySem.W.alikeAll, PySem.W.alikeAll, alike_wD]
  simp [PySem.W.alike, PySem.W.alikeAll]
theorem alike_in (u v : Wd) (n m : Int) : PySem.W.alike (.tuple [wD u, .int n]) (.tuple [wD v, .int m]) = true := by
  rw [PySem.W.alike, PySem.W.alikeAll, PySem.W.alikeAll, alike_wD]
  simp [PySem.W.alike, PySem.W.alikeAll]
theorem alike_wk2 (u v : Wd) (n m : Int) : PySem.W.alike (wk2 u n) (wk2 v m) = true := by
  unfold wk2
  rw [PySem.W.alike, PySem.W.alikeAll, PySem.W.alikeAll, alike_in]
  simp [PySem.W.alike, PySem.W.alikeAll]
theorem lt_wk {u v : Wd} (h : u ≠ v) : PySem.W.dataLt (wk u) (wk v) = if u.length = v.length then PySem.W.dataLt (wD u) (wD v) else decide ((u.length : Int) < v.length) := by
  unfold wk
  rw [PySem.W.dataLt_pair (by simp [PySem.W.alike]) (alike_wD u v), eqv_wD, PySem.W.dataLt_int]
  by_cases hl : u.length = v.length
  · simp [PyData.eqv, hl, h]
  · have hl' : ¬ (u.length : Int) = v.length := by omega
    simp [PyData.eqv, hl, hl']
theorem lt_wk2 {u v : Wd} (n m : Int) (h : u ≠ v) : PySem.W.dataLt (wk2 u n) (wk2 v m) = PySem.W.dataLt (wk u) (wk v) := by
  rw [lt_wk h]
  unfold wk2
  rw [PySem.W.dataLt_pair (by simp [PySem.W.alike]) (alike_in u v n m), PySem.W.dataLt_int, PySem.W.dataLt_pair (alike_wD u v) (by simp [PySem.W.alike]), eqv_wD]
  have he : PyData.eqv (.tuple [wD u, .int n]) (.tuple [wD v, .int m]) = false := by
    rw [PyData.eqv, PySem.W.eqv_all_cons, eqv_wD, decide_eq_false h]; rfl
  rw [he]
  by_cases hl : u.length = v.length
  · simp [PyData.eqv, hl, h]
  · have hl' : ¬ (u.length : Int) = v.length := by omega
    simp [PyData.eqv, hl, hl']
theorem toks_inj : ∀ {u v : Wd}, PySem.W.keyToksAll (u.map .str) = PySem.W.keyToksAll (v.map .str) → u = v
  | [], [], _ => rfl
  | [], b :: v, h => by simp [PySem.W.keyToksAll] at h
  | a :: u, [], h => by simp [PySem.W.keyToksAll] at h
  | a :: u, b :: v, h => by
    simp only [List.map_cons, PySem.W.keyToksAll, PySem.W.keyToks, List.cons_append, List.nil_append, List.cons.injEq, Sum.inr.injEq, true_and] at h
    rw [PySem.W.str_of_cps h.1, toks_inj h.2]
theorem wk_inj {u v : Wd} (h : PySem.W.keyToks (wk u) = PySem.W.keyToks (wk v)) : u = v := by
  unfold wk at h
  simp only [PySem.W.keyToks, PySem.W.keyToksAll, List.cons_append, List.nil_append, List.cons.injEq, true_and] at h
  have h2 := h.2
  exact toks_inj (List.append_cancel_right h2)
theorem ord_wle : KM.Ord wle where
  tr a b c h1 h2 := by
    unfold wle at *
    simp only [Bool.not_eq_true'] at *
    cases q : PySem.W.dataLt (wk c) (wk a) with
    | false => rfl
    | true =>
      rcases PyProof.Rows.lex_negTrans (O := PyProof.Rows.itemOrd) _ (PySem.W.keyToks (wk b)) _ q with z | z
      · exact absurd (h2.symm.trans z) (by simp)
      · exact absurd (h1.symm.trans z) (by simp)
  tot a b := by
    unfold wle
    cases q : PySem.W.dataLt (wk b) (wk a) with
    | false => rfl
    | true =>
      cases r : PySem.W.dataLt (wk a) (wk b) with
      | false => rfl
      | true => exact absurd ((PyProof.Rows.lex_irrefl (O := PyProof.Rows.itemOrd) _).symm.trans (PyProof.Rows.lex_trans (O := PyProof.Rows.itemOrd) _ _ _ q r)) (by simp)
  asym a b h1 h2 := by
    unfold wle at *
    simp only [Bool.not_eq_true'] at *
    exact wk_inj (PyProof.Rows.lex_total (O := PyProof.Rows.itemOrd) _ _ h2 h1)
theorem wle_refl (u : Wd) : wle u u = true := by
  have := ord_wle.tot u u
  simpa using this
/-- what stands behind a sort by a key that orders words so -/
theorem sorted_canon {k : SI → PyData} {m : KM.FS Str} {bs : List SI} (hk : ∀ a b : SI, a.2.1 ≠ b.2.1 → PySem.W.dataLt (k b) (k a) = PySem.W.dataLt (wk b.2.1) (wk a.2.1)) (hm : (m.map (·.1)).Nodup) (hb : bs.map (fun b => (b.2.1, b.2.2.2)) = KM.nz m) :
    (bs.mergeSort (PySem.W.dataLe false k)).map (fun b => (b.2.1, b.2.2.2)) = KM.canon wle m := by
  refine KM.canon_one ord_wle hm ?_ ?_
  · rw [← hb]
    exact (List.mergeSort_perm _ _).map _
  · rw [List.pairwise_map]
    refine List.Pairwise.imp (fun {a b} h => ?_) (PySem.W.sort_pairwise (PySem.W.sortLe_total (PyProof.Rows.listOrd PyProof.Rows.itemOrd) false fun b => PySem.W.keyToks (k b)) bs)
    by_cases e : a.2.1 = b.2.1
    · show wle a.2.1 b.2.1 = true
      rw [e]; exact wle_refl _
    · show (!PySem.W.dataLt (wk b.2.1) (wk a.2.1)) = true
      rw [← hk a b e]
      exact h
end KR

set_option Elab.async false
set_option linter.all false
set_option maxRecDepth 100000
namespace KW
open PySem PySem.Spec PyProof.Rows L2
/-! ### the text by places -/
def topS (i : Nat) : Stmt := PySem.Challenge.pw_stillsums_k49_products_of_counts_as_sums.main.body.getD i (.Pass ⟨0, 0, 0, 0⟩)
abbrev sAdded : Stmt := topS 1
abbrev sAsTerms : Stmt := topS 2
abbrev sProductOf : Stmt := topS 3
abbrev sTermsProduct : Stmt := topS 4
abbrev sTermsSum : Stmt := topS 5
abbrev sPowerOf : Stmt := topS 6
abbrev sChoicesOf : Stmt := topS 7
abbrev sTermsAt : Stmt := topS 8
abbrev sWordsIn : Stmt := topS 9
abbrev sBag : Stmt := topS 11
abbrev sTake : Stmt := topS 12
abbrev sSome : Stmt := topS 13
abbrev sAlike : Stmt := topS 14
abbrev sCount : Stmt := topS 15
abbrev sShuffled : Stmt := topS 16
abbrev sTerms : Stmt := topS 17
abbrev sTermsTimes : Stmt := topS 18
abbrev sWorth : Stmt := topS 19
abbrev sAddedTerms : Stmt := topS 20
abbrev sTermsLess : Stmt := topS 21
abbrev sManyTimes : Stmt := topS 22
abbrev sLaw : Stmt := topS 23
end KW

set_option Elab.async false
set_option linter.all false
set_option maxRecDepth 100000
namespace KW
open PySem PySem.Spec PyProof.Rows L2 LamX KR
abbrev FS := KM.FS Str
abbrev encW (w : Wd) : List Key := w.map Sum.inr
theorem encW_kV (w : Wd) : (encW w).map kV = w.map V.str := by
  rw [List.map_map]; rfl
theorem encW_inj : ∀ {u v : Wd}, encW u = encW v → u = v
  | [], [], _ => rfl
  | [], b :: v, h => by simp at h
  | a :: u, [], h => by simp at h
  | a :: u, b :: v, h => by
    rw [encW, encW, List.map_cons, List.map_cons, List.cons.injEq] at h
    rw [Sum.inr.inj h.1, encW_inj h.2]
abbrev encD (m : FS) : List (List Key × V) := m.map fun p => (encW p.1, V.int p.2)
theorem encD_length (m : FS) : (encD m).length = m.length := List.length_map _
theorem valV_enc : ∀ {m : FS} (w : Wd), (m.map (·.1)).Nodup → (valV (encD m) (encW w)).getD (.int 0) = .int (KM.coef m w) ∧ (w ∈ m.map (·.1) → valV (encD m) (encW w) = some (.int (KM.coef m w)))
  | [], w, _ => ⟨rfl, fun h => by simp at h⟩
  | (u, n) :: r, w, h => by
    simp only [List.map_cons, List.nodup_cons] at h
    by_cases e : u = w
    · subst e
      have e1 : valV (encD ((u, n) :: r)) (encW u) = some (.int n) := valV_pos rfl
      have e2 : KM.coef ((u, n) :: r) u = n := by
        simp only [KM.coef, if_pos, KM.coef_none h.1]; omega
      rw [e1, e2]
      exact ⟨rfl, fun _ => rfl⟩
    · have e1 : valV (encD ((u, n) :: r)) (encW w) = valV (encD r) (encW w) := valV_neg fun z => e (encW_inj z)
      have e2 : KM.coef ((u, n) :: r) w = KM.coef r w := by
        simp only [KM.coef, if_neg e]; omega
      rw [e1, e2]
      obtain ⟨h1, h2⟩ := valV_enc (m := r) w h.2
      refine ⟨h1, fun q => ?_⟩
      simp only [List.map_cons, List.mem_cons] at q
      rcases q with q | q
      · exact absurd q.symm e
      · exact h2 q
theorem any_enc (m : FS) (w : Wd) : ((encD m).any fun kv => decide (kv.1 = encW w)) = decide (w ∈ m.map (·.1)) := by
  rw [Bool.eq_iff_iff, List.any_eq_true, decide_eq_true_iff]
  constructor
  · rintro ⟨x, hx, e⟩
    obtain ⟨p, hp, rfl⟩ := List.mem_map.mp hx
    exact List.mem_map.mpr ⟨p, hp, encW_inj (of_decide_eq_true e)⟩
  · intro h
    obtain ⟨p, hp, e⟩ := List.mem_map.mp h
    exact ⟨_, List.mem_map.mpr ⟨p, hp, rfl⟩, by rw [← e]; exact decide_eq_true rfl⟩
theorem add_new : ∀ {m : FS} {w : Wd} {n : Int}, w ∉ m.map (·.1) → KM.add m w n = m ++ [(w, n)]
  | [], w, n, _ => rfl
  | (u, k) :: r, w, n, h => by
    simp only [List.map_cons, List.mem_cons, not_or] at h
    unfold KM.add
    rw [if_neg (fun z => h.1 z.symm), add_new h.2]; rfl
theorem add_old : ∀ {m : FS} {w : Wd} {n : Int}, (m.map (·.1)).Nodup → w ∈ m.map (·.1) → KM.add m w n = m.map fun p => if p.1 = w then (p.1, KM.coef m w + n) else p
  | [], w, n, _, h => by simp at h
  | (u, k) :: r, w, n, hn, h => by
    simp only [List.map_cons, List.nodup_cons] at hn
    unfold KM.add
    by_cases e : u = w
    · subst e
      have e2 : KM.coef ((u, k) :: r) u = k := by
        simp only [KM.coef, if_pos, KM.coef_none hn.1]; omega
      rw [if_pos rfl, List.map_cons, if_pos rfl, e2]
      congr 1
      conv => lhs; rw [← List.map_id r]
      refine List.map_congr_left fun p hp => ?_
      rw [if_neg]
      · rfl
      · intro z
        exact hn.1 (by rw [← z]; exact List.mem_map.mpr ⟨p, hp, rfl⟩)
    · have e2 : KM.coef ((u, k) :: r) w = KM.coef r w := by
        simp only [KM.coef, if_neg e]; omega
      simp only [List.map_cons, List.mem_cons] at h
      rcases h with h | h
      · exact absurd h.symm e
      rw [if_neg e, List.map_cons, if_neg e, e2, add_old hn.2 h]
theorem putK_enc {m : FS} {w : Wd} {n : Int} (hn : (m.map (·.1)).Nodup) : putK (encD m) (encW w) (.int (KM.coef m w + n)) = encD (KM.add m w n) := by
  unfold putK
  rw [any_enc]
  by_cases h : w ∈ m.map (·.1)
  · rw [decide_eq_true h, if_pos rfl, add_old hn h]
    rw [encD, encD, List.map_map, List.map_map]
    refine List.map_congr_left fun p hp => ?_
    simp only [Function.comp]
    by_cases e : p.1 = w
    · rw [if_pos (by rw [e]), if_pos e]
    · rw [if_neg (fun z => e (encW_inj z)), if_neg e]
  · rw [decide_eq_false h, if_neg Bool.false_ne_true, add_new h, KM.coef_none h, encD, encD, List.map_append]
    simp
/-! ### what stays -/
def Ex (T : List (Addr × Str)) (H H' : Hp) : Prop := ExtN H H' ∧ (Tabs T H → Tabs T H')
/-- a thing that is no table and no code object -/
def Loose (o : HO) : Prop := (∀ ps, o ≠ .tbl ps) ∧ ∀ φ, o ≠ .ext φ
theorem loose_dT {kvs} : Loose (.dT kvs) := ⟨fun _ z => (by cases z), fun _ z => (by cases z)⟩
theorem loose_lst {xs} : Loose (.lst xs) := ⟨fun _ z => (by cases z), fun _ z => (by cases z)⟩
theorem loose_tup {xs} : Loose (.tup xs) := ⟨fun _ z => (by cases z), fun _ z => (by cases z)⟩
theorem loose_frz {o u} : Loose (.frz o u) := ⟨fun _ z => (by cases z), fun _ z => (by cases z)⟩
section
variable {T : List (Addr × Str)} {H H1 H2 : Hp}
theorem Ex.refl (H : Hp) : Ex T H H := ⟨ExtN.refl H, id⟩
theorem Ex.trans (a : Ex T H H1) (b : Ex T H1 H2) : Ex T H H2 := ⟨a.1.trans b.1, fun t => b.2 (a.2 t)⟩
theorem Ex.same (s : Same H H1) : Ex T H H1 := ⟨ExtN.of s, fun t => t.ext s⟩
theorem Ex.tabs (a : Ex T H H1) (t : Tabs T H) : Tabs T H1 := a.2 t
theorem tabs_upd {d : Addr} {o o' : HO} (t : Tabs T H) (hd : H d = some o) (lo : Loose o) : Tabs T (upd H d o') := fun p hp => by
  obtain ⟨ps, h1, h2, h3⟩ := t p hp
  refine ⟨ps, ?_, h2, fun pos cv hc => ?_⟩
  · rw [upd_ne]
    · exact h1
    · intro z
      rw [z, hd] at h1
      exact lo.1 ps (Option.some.inj h1)
  · obtain ⟨c, e1, e2⟩ := h3 pos cv hc
    refine ⟨c, e1, ?_⟩
    rw [upd_ne]
    · exact e2
    · intro z
      rw [z, hd] at e2
      exact lo.2 _ (Option.some.inj e2)
theorem Ex.new {p : Addr} {o : HO} (a : Ex T H H1) (h : H1 p = none) : Ex T H (upd H1 p o) :=
  a.trans (Ex.same fun b x e => by rw [upd_ne (ne_of_none e h)]; exact e)
theorem Ex.free (a : Ex T H H1) {p : Addr} (h : H1 p = none) : H p = none ∨ ∃ ps, H p = some (.tbl ps) := by
  cases q : H p with
  | none => exact .inl rfl
  | some o =>
    by_cases z : ∃ ps, o = .tbl ps
    · obtain ⟨ps, z⟩ := z
      exact .inr ⟨ps, by rw [z]⟩
    · rw [a.1 p o q fun ps e => z ⟨ps, e⟩] at h
      cases h
/-- a place of one's own is written -/
theorem Ex.put {d : Addr} {o o' : HO} (a : Ex T H H1) (hd : H d = none) (h1 : H1 d = some o) (lo : Loose o) : Ex T H (upd H1 d o') :=
  ⟨fun b x e n => by rw [upd_ne (ne_of_none e hd)]; exact a.1 b x e n, fun t => tabs_upd (a.2 t) h1 lo⟩
theorem Ex.at (a : Ex T H H1) {b : Addr} {o : HO} (e : H b = some o) (lo : Loose o) : H1 b = some o := a.1 b o e lo.1
theorem Ex.seq {K : PySem.W.Frag} {a : Addr} {xs : List V} (e : Ex T H H1) (h : SqL K H a xs) : SqL K H1 a xs := SqL.extN h e.1
end
/-! ### words, terms -/
abbrev IsW (H : Hp) (a : Addr) (w : Wd) : Prop := H a = some (.tup (w.map V.str))
def IsPr (H : Hp) (t : Addr) (p : Wd × Int) : Prop := ∃ q, H t = some (.tup [.ref q, .int p.2]) ∧ IsW H q p.1
def IsTm (H : Hp) (a : Addr) (ts : FS) : Prop := ∃ as : List Addr, H a = some (.tup (as.map V.ref)) ∧ Paired (IsPr H) as ts
theorem paired_mono {α β : Type} {F G : α → β → Prop} (h : ∀ a b, F a b → G a b) : ∀ {l : List α} {m : List β}, Paired F l m → Paired G l m
  | _, _, .nil => .nil
  | _, _, .cons a b => .cons (h _ _ a) (paired_mono h b)
section
variable {T : List (Addr × Str)} {H H1 : Hp}
theorem IsW.ex {a : Addr} {w : Wd} (e : Ex T H H1) (h : IsW H a w) : IsW H1 a w := e.at h loose_tup
theorem IsPr.ex {t : Addr} {p : Wd × Int} (e : Ex T H H1) (h : IsPr H t p) : IsPr H1 t p := by
  obtain ⟨q, h1, h2⟩ := h
  exact ⟨q, e.at h1 loose_tup, e.at h2 loose_tup⟩
theorem IsTm.ex {a : Addr} {ts : FS} (e : Ex T H H1) (h : IsTm H a ts) : IsTm H1 a ts := by
  obtain ⟨as, h1, h2⟩ := h
  exact ⟨as, e.at h1 loose_tup, paired_mono (fun _ _ => IsPr.ex e) h2⟩
theorem IsW.key {a : Addr} {w : Wd} (h : IsW H a w) : H a = some (.tup ((encW w).map kV)) := by rw [encW_kV]; exact h
theorem IsTm.nth {as : List Addr} {ts : FS} (h : Paired (IsPr H) as ts) {i : Nat} {x : V} (e : (as.map V.ref)[i]? = some x) : ∃ t p, x = .ref t ∧ ts[i]? = some p ∧ as[i]? = some t ∧ IsPr H t p := by
  rw [List.getElem?_map] at e
  cases q : as[i]? with
  | none => rw [q] at e; cases e
  | some t =>
    rw [q] at e
    obtain ⟨p, h1, h2⟩ := paired_get h q
    exact ⟨t, p, (Option.some.inj e).symm, h1, rfl, h2⟩
theorem IsTm.len {as : List Addr} {ts : FS} (h : Paired (IsPr H) as ts) : as.length = ts.length := Paired.length h
end
/-! ### a def whose code object is known -/
structure FunC (K : PySem.W.Frag) (x qual : Str) (st : Stmt) (f : Addr) (fd : FuncData) (c : Addr) : Prop where
  ex : ∃ (oc : Value) (od : Option Addr) (kV doc pm : Value) (an : Option Addr) (ct : Value) (osl : Array (Option Value)),
    fd = PySem.W.fnOf x qual (defArgs st) (defBody st) (defScope st) .none kV doc pm an (.ref c) ct ∧ K.lookup f = some ⟨oc, od, .func fd, osl⟩ ∧ PySem.W.codeIn K (.ref c) qual = true
  kp : PySem.W.keepIn K (.ref f) = true
section
variable {P : Program} {w : World} {K : PySem.W.Frag} {mg : Str → Option Value} {base : Heap}
theorem FunC.fn {x qual : Str} {st : Stmt} {f : Addr} {fd : FuncData} {c : Addr} (F : FunC K x qual st f fd c) : Fun K x qual st f fd := by
  obtain ⟨oc, od, kV, doc, pm, an, ct, osl, e1, e2, e3⟩ := F.ex
  exact ⟨⟨oc, od, kV, doc, pm, an, .ref c, ct, osl, e1, e2, e3⟩, F.kp⟩
theorem FunC.ok {x qual : Str} {st : Stmt} {f : Addr} {fd : FuncData} {c : Addr} {N ps : List Str} {k : Nat} {sp : Sp} (F : FunC K x qual st f fd c) (S : FnScope N ps (defScope st)) (len : ∀ vs H Q E, sp vs H Q E → vs.length = ps.length)
    (hbody : ∀ (A : Around) (outer : List Env) (s : Shared) (H : Hp) (vs : List V) (Q : VK) (E : XK), Room k (A.deeper (envOfC qual (defScope st) s.heap.objs.size f (.ref c))) → sp vs H Q E →
      ∃ t, PSs (cxOf CX0 P w K mg base N qual (defScope st) f (.ref c) A outer s H E).nox (defBody st) t ∧ t { nx := fun _ H' => Q .non H', rt := Q } (start N vs) H) : FnOk P w K mg base CX0 (k + 1) f fd ps sp := by
  obtain ⟨oc, od, kV, doc, pm, an, ct, osl, rfl, lk, hcd⟩ := F.ex
  refine fn_of lk hcd S len fun A outer s H vs Q E hr hsp => ?_
  obtain ⟨t, h, q⟩ := hbody A outer s H vs Q E hr hsp
  exact ⟨t, h.nox, q⟩
/-! ### added -/
theorem scAdded : FnScope ["found", "word", "many"] ["found", "word", "many"] (defScope sAdded) := ⟨rfl, rfl, rfl, by decide +kernel, rfl, by decide +kernel, by decide +kernel⟩
def spAdded : Sp := fun vs H Q _ => ∃ (d q : Addr) (m : FS) (u : Wd) (n : Int), vs = [.ref d, .ref q, .int n] ∧ H d = some (.dT (encD m)) ∧ IsW H q u ∧ (m.map (·.1)).Nodup ∧ m.length < sizeLine ∧ Q .non (upd H d (.dT (encD (KM.add m u n))))
theorem ok_added {f : Addr} {fd : FuncData} {k : Nat} (F : Fun K "added" "added" sAdded f fd) : FnOk P w K mg base CX0 (k + 1) f fd ["found", "word", "many"] spAdded := by
  refine F.ok scAdded (fun vs H Q E h => ?_) (fun cdv A outer s H vs Q E hr h => ?_)
  · obtain ⟨d, q, m, u, n, rfl, _⟩ := h
    rfl
  · obtain ⟨d, q, m, u, n, rfl, hd, hq, hn, hl, q1⟩ := h
    have hu := hu_of hr
    refine ⟨_, pss_one (ps_dput hu (pv 0) (pv 1) (pe_op op_add (pe_dget2 hu (pv 0) (pv 1) pe_int ⟨rfl, rfl, rfl, rfl⟩) (pv 2)) rfl), ?_⟩
    refine ⟨_, rfl, d, rfl, .inr ⟨_, .inl hd⟩, _, rfl, _, .t hd (IsW.key hq), _, rfl, ?_⟩
    rw [(valV_enc u hn).1]
    refine ⟨_, _, rfl, rfl, _, rfl, _, rfl, d, _, rfl, .t hd (IsW.key hq) (by rw [encD_length]; exact hl), ?_⟩
    rw [putK_enc hn]
    exact q1
end
end KW

set_option Elab.async false
set_option linter.all false
set_option maxRecDepth 100000
namespace KW
open PySem PySem.Spec PyProof.Rows L2 LamX KR
/-! ### loops over dicts with tuple keys, enumerate -/
theorem lc_of {J : It} {n : Nat} {g : TG} {tt : TT} {te : TE} {vs : List Nat} {σ : L2.St} {H1 : Hp} {D : Addr} {Qd : Hp → Prop} (Pv : Nat → Hp → Prop) (h0 : Pv 0 (upd H1 D (.lst [])))
    (hgo : ∀ i H, i < n → Pv i H → J.go i H) (hst : ∀ H, Pv n H → J.stop n H)
    (hs : ∀ i H x H', i < n → Pv i H → J.yld i H x H' → g x (wipe σ vs) H' fun σ2 H2 => wipe σ2 vs = wipe σ vs ∧ tt σ2 H2 fun b H3 =>
      if b = true then te σ2 H3 fun y H4 => ∃ acc, H4 D = some (.lst acc) ∧ acc.length < sizeLine ∧ Pv (i + 1) (upd H4 D (.lst (acc ++ [y]))) else Pv (i + 1) H3) (hd : ∀ H, Pv n H → Qd H) :
    ∃ W : Nat → Nat → Hp → Prop, (∃ m, W 0 m (upd H1 D (.lst []))) ∧ ∀ i m H, W i m H →
      (J.stop i H ∧ Qd H) ∨ (J.go i H ∧ ∃ Nx : Hp → Prop, (∀ H', Nx H' → ∃ m', m' < m ∧ W (i + 1) m' H') ∧ ∀ x H', J.yld i H x H' → g x (wipe σ vs) H' fun σ2 H2 => wipe σ2 vs = wipe σ vs ∧ tt σ2 H2 fun b H3 =>
        if b = true then te σ2 H3 fun y H4 => ∃ acc, H4 D = some (.lst acc) ∧ acc.length < sizeLine ∧ Nx (upd H4 D (.lst (acc ++ [y]))) else Nx H3) := by
  refine ⟨fun i m H => m = n - i ∧ i ≤ n ∧ Pv i H, ⟨n, by simp, Nat.zero_le _, h0⟩, ?_⟩
  rintro i m H ⟨rfl, hi, p⟩
  by_cases hlt : i < n
  · exact .inr ⟨hgo i H hlt p, Pv (i + 1), fun H' p' => ⟨n - (i + 1), by omega, rfl, hlt, p'⟩, fun x H' y => hs i H x H' hlt p y⟩
  · have e : i = n := by omega
    subst e
    exact .inl ⟨hst H p, hd H p⟩
theorem for_of {J : It} {n : Nat} {g : TG} {tb : TS} {D : Ends} {σ : L2.St} {H : Hp} (Pv : Nat → L2.St → Hp → Prop) (h0 : Pv 0 σ H)
    (hgo : ∀ i σ H, i < n → Pv i σ H → J.go i H) (hst : ∀ σ H, Pv n σ H → J.stop n H)
    (hs : ∀ i σ H x H', i < n → Pv i σ H → J.yld i H x H' → g x σ H' fun σ2 H2 => tb { D with nx := Pv (i + 1), ct := Pv (i + 1), bk := D.nx } σ2 H2) (hd : ∀ σ H, Pv n σ H → D.nx σ H) :
    ∃ W : Nat → Nat → L2.St → Hp → Prop, (∃ m, W 0 m σ H) ∧ ∀ i m σ H, W i m σ H →
      (J.stop i H ∧ D.nx σ H) ∨ (J.go i H ∧ ∃ N : L2.St → Hp → Prop, (∀ σ' H', N σ' H' → ∃ m', m' < m ∧ W (i + 1) m' σ' H') ∧ ∀ x H', J.yld i H x H' → g x σ H' fun σ2 H2 => tb { D with nx := N, ct := N, bk := D.nx } σ2 H2) := by
  refine ⟨fun i m σ H => m = n - i ∧ i ≤ n ∧ Pv i σ H, ⟨n, by simp, Nat.zero_le _, h0⟩, ?_⟩
  rintro i m σ H ⟨rfl, hi, p⟩
  by_cases hlt : i < n
  · exact .inr ⟨hgo i σ H hlt p, Pv (i + 1), fun σ' H' p' => ⟨n - (i + 1), by omega, rfl, hlt, p'⟩, fun x H' y => hs i σ H x H' hlt p y⟩
  · have e : i = n := by omega
    subst e
    exact .inl ⟨hst σ H p, hd σ H p⟩
/-! ### the pairs of a dict -/
theorem encD_get {m : FS} {i : Nat} {k : List Key} {v : V} (h : (encD m)[i]? = some (k, v)) : ∃ p, m[i]? = some p ∧ k = encW p.1 ∧ v = .int p.2 := by
  rw [List.getElem?_map] at h
  cases q : m[i]? with
  | none => rw [q] at h; cases h
  | some p =>
    rw [q] at h
    have h := Option.some.inj h
    exact ⟨p, rfl, (congrArg Prod.fst h).symm, (congrArg Prod.snd h).symm⟩
/-- a list of pairs made so far, of the first entries of m -/
def MadeP (H : Hp) (bs : List SI) (m : FS) : Prop := SItems H bs ∧ bs.map (fun b => (b.2.1, b.2.2.2)) = KM.nz m
theorem SItems.ex {T : List (Addr × Str)} {H H1 : Hp} {bs : List SI} (e : Ex T H H1) (h : SItems H bs) : SItems H1 bs := fun b hb => ⟨e.at (h b hb).1 loose_tup, e.at (h b hb).2 loose_tup⟩
theorem nz_snoc {m : FS} {p : Wd × Int} : KM.nz (m ++ [p]) = KM.nz m ++ if p.2 ≠ 0 then [p] else [] := by
  unfold KM.nz
  rw [List.filter_append]
  congr 1
  by_cases h : p.2 = 0 <;> simp [h]
theorem nz_le (m : FS) : (KM.nz m).length ≤ m.length := List.length_filter_le _ _
theorem isTm_of {H : Hp} {a : Addr} {bs : List SI} {ts : FS} (hS : SItems H bs) (he : bs.map (fun b => (b.2.1, b.2.2.2)) = ts) (ha : H a = some (.tup (bs.map fun b => V.ref b.1))) : IsTm H a ts := by
  refine ⟨bs.map (·.1), by rw [ha, List.map_map]; rfl, ?_⟩
  subst he
  clear ha
  induction bs with
  | nil => exact .nil
  | cons b r ih =>
    refine .cons ⟨b.2.2.1, (hS b (List.mem_cons_self ..)).1, (hS b (List.mem_cons_self ..)).2⟩ (ih fun x hx => hS x (List.mem_cons_of_mem _ hx))
theorem take_snoc {α : Type} {l : List α} {i : Nat} {x : α} (h : l[i]? = some x) : l.take (i + 1) = l.take i ++ [x] := by
  rw [List.take_add_one, h]; rfl
/-- D holds a list of new pairs: the terms ts -/
def SomeAt (T : List (Addr × Str)) (H0 : Hp) (D : Addr) (ts : FS) (H : Hp) : Prop := Ex T H0 H ∧ ∃ bs : List SI, H D = some (.lst (bs.map fun b => V.ref b.1)) ∧ SItems H bs ∧ bs.map (fun b => (b.2.1, b.2.2.2)) = ts
section
variable {T : List (Addr × Str)} {H0 H H3 : Hp} {D : Addr} {ts : FS}
theorem SomeAt.nil (h : H0 D = none) : SomeAt T H0 D [] (upd H0 D (.lst [])) := ⟨(Ex.refl H0).new h, [], upd_same, (fun b hb => by cases hb), rfl⟩
theorem SomeAt.keep (p : SomeAt T H0 D ts H) (e : Ex T H H3) : SomeAt T H0 D ts H3 := by
  obtain ⟨p1, bs, p2, p3, p4⟩ := p
  exact ⟨p1.trans e, bs, e.at p2 loose_lst, SItems.ex e p3, p4⟩
theorem SomeAt.add {q t : Addr} {u : Wd} {n : Int} (p : SomeAt T H0 D ts H) (hD : H0 D = none) (e : Ex T H H3) (hq : IsW H3 q u) (ht : H3 t = none) :
    ∃ acc, upd H3 t (.tup [.ref q, .int n]) D = some (.lst acc) ∧ acc.length = ts.length ∧ SomeAt T H0 D (ts ++ [(u, n)]) (upd (upd H3 t (.tup [.ref q, .int n])) D (.lst (acc ++ [.ref t]))) := by
  obtain ⟨p1, bs, p2, p3, p4⟩ := p.keep e
  have e4 : Ex T H3 (upd H3 t (.tup [.ref q, .int n])) := (Ex.refl H3).new ht
  have hD4 : upd H3 t (.tup [.ref q, .int n]) D = some (.lst (bs.map fun b => V.ref b.1)) := e4.at p2 loose_lst
  refine ⟨_, hD4, by rw [List.length_map, ← p4, List.length_map], (p1.trans e4).put hD hD4 loose_lst, bs ++ [(t, u, q, n)], by rw [upd_same, List.map_append]; rfl, fun b hb => ?_, by rw [List.map_append, p4]; rfl⟩
  have tupD : ∀ {a : Addr} {xs : List V}, upd H3 t (.tup [.ref q, .int n]) a = some (.tup xs) → upd (upd H3 t (.tup [.ref q, .int n])) D (.lst (bs.map (fun b => V.ref b.1) ++ [V.ref t])) a = some (.tup xs) := fun {a xs} h => by
    rw [upd_ne (ne_of h hD4 (fun z => by cases z))]; exact h
  rcases List.mem_append.mp hb with hb | hb
  · obtain ⟨h1, h2⟩ := p3 b hb
    exact ⟨tupD (e4.at h1 loose_tup), tupD (e4.at h2 loose_tup)⟩
  · obtain rfl := List.mem_singleton.mp hb
    exact ⟨tupD upd_same, tupD (e4.at hq loose_tup)⟩
/-- the lock's end -/
theorem lock_back {d : Addr} {u : HO} {od : Obj} (hd : H0 d = some u) (lo : Loose u) (e : Ex T (upd H0 d (.frz od u)) H) : H d = some (.frz od u) ∧ Ex T H0 (upd H d u) := by
  have h : H d = some (.frz od u) := e.at upd_same loose_frz
  refine ⟨h, fun b o q n => ?_, fun t => ?_⟩
  · by_cases hb : b = d
    · rw [hb] at q ⊢
      rw [hd] at q; cases q
      exact upd_same
    · rw [upd_ne hb]
      exact e.1 b o (by rw [upd_ne hb]; exact q) n
  · exact tabs_upd (e.2 (tabs_upd t hd lo)) h loose_frz
/-- behind the lock what is elsewhere is as within it -/
theorem unlock_at {d a : Addr} {u o : HO} {od : Obj} (h : H d = some (.frz od u)) (e : H a = some o) (n : ∀ od u, o ≠ .frz od u) : upd H d u a = some o := by
  rw [upd_ne]
  · exact e
  · intro z
    rw [z, h] at e
    exact n _ _ (Option.some.inj e).symm
theorem SItems.unlock {d : Addr} {u : HO} {od : Obj} {bs : List SI} (h : H d = some (.frz od u)) (p : SItems H bs) : SItems (upd H d u) bs := fun b hb =>
  ⟨unlock_at h (p b hb).1 (fun _ _ z => by cases z), unlock_at h (p b hb).2 (fun _ _ z => by cases z)⟩
end
theorem depth_strs : ∀ w : Wd, PyData.depthAll (w.map PyData.str) ≤ 1
  | [] => by simp [PyData.depthAll]
  | a :: w => by
    have := depth_strs w
    simp only [List.map_cons, PyData.depthAll, PyData.depth]
    omega
end KW

set_option Elab.async false
set_option linter.all false
set_option maxRecDepth 100000
namespace KW
open PySem PySem.Spec PyProof.Rows L2 LamX KR
abbrev qA : Str := "as_terms.<locals>.<lambda>"
abbrev qL : Str := "_law_terms.<locals>.<lambda>"
abbrev qG : Str := "law.<locals>.<lambda>"
theorem scAsTerms : FnScope ["found", "some", "word", "many"] ["found"] (defScope sAsTerms) := ⟨rfl, rfl, rfl, by decide +kernel, rfl, by decide +kernel, by decide +kernel⟩
section
variable {P : Program} {w : World} {K : PySem.W.Frag} {mg : Str → Option Value} {base : Heap} {T : List (Addr × Str)}
def spAsTerms (T : List (Addr × Str)) : Sp := fun vs H Q _ => ∃ (d : Addr) (m : FS), vs = [.ref d] ∧ H d = some (.dT (encD m)) ∧ (m.map (·.1)).Nodup ∧ m.length ≤ 1000000 ∧ Tabs T H ∧
  ∀ H' a, Ex T H H' → IsTm H' a (KM.canon wle m) → Q (.ref a) H'
theorem ok_asTerms {f : Addr} {fd : FuncData} {c Pt : Addr} (F : FunC K "as_terms" "as_terms" sAsTerms f fd c) (TB : TabB base mg c Pt) (hT : (Pt, qA) ∈ T) (hU : ∀ p ∈ T, p.1 = Pt → p.2 = qA)
    (ml : mg "len" = none) (mt : mg "tuple" = none) (ms : mg "sorted" = none) : FnOk P w K mg base CX0 2 f fd ["found"] (spAsTerms T) := by
  refine F.ok (k := 1) scAsTerms (fun vs H Q E h => ?_) (fun A outer s H vs Q E hr h => ?_)
  · obtain ⟨d, m, rfl, _⟩ := h
    rfl
  · obtain ⟨d, m, rfl, hd, hn, hl, hTb, q⟩ := h
    have nd := scAsTerms.nd
    refine ⟨_, pss_cons (ps_lock (ps_setLc (i := 1) (own := [("word", 2), ("many", 3)]) (g := gTup K 2 (gCons (gName 2) (gCons (gName 3) gNil))) (by rfl) nd rfl rfl (sw_true rfl rfl rfl (by decide +kernel)) (pi_itemsT (pv 0))
        (blkOk_by (N := ["found", "some", "word", "many"]) (sc := defScope sAsTerms) (by decide +kernel)) (fun _ _ _ _ _ => pg_tup rfl (pgs_cons (pg_name (i := 2) nd rfl (.inl rfl)) (pgs_cons (pg_name (i := 3) nd rfl (.inl rfl)) pgs_nil)))
        (fun _ _ _ _ _ => pts_one (pt_cmpR op_ne (pv 3) pe_int (nomark _))) (fun _ _ _ _ _ => pe_tup (pa_cons (pv 2) (pa_cons (pv 3) pa_nil)))))
      (pss_one (ps_ret (pe_callTy call_tuple_of (by rfl) mt (by decide +kernel) (pa_cons
        (pe_sortedKey (T := T) (c := c) (P := Pt) (x := "term") (k := fun b => wk2 b.2.1 b.2.2.2) (kn := 0) rfl hr (by rfl) ms (pa_cons (pv 1) pa_nil) TB rfl hT hU rfl (by decide +kernel) (by decide +kernel) rfl rfl rfl rfl
          (fun _ _ _ _ _ _ => rfl) (fun A L f c' s mb b t its kenv hb h1 h2 rv hz => key_prog kenv (by decide) (by rfl) ml hb h1 h2 rv hz (by rfl) (by rfl) (by rfl)) (fun a b => alike_wk2 _ _ _ _) (fun b => ⟨_, _, rfl⟩) (fun b => ?dep)) pa_nil)))), ?_⟩
    case dep =>
      have := depth_strs b.2.1
      show PyData.depth (.tuple [.int _, .tuple [.tuple _, .int _]]) ≤ 8
      simp only [PyData.depth, PyData.depthAll]
      omega
    refine ⟨d, .dT (encD m), hd, True.intro, fun od => ?_⟩
    refine ⟨_, rfl, d, od, encD m, rfl, upd_same, fun D hD => ?_⟩
    have hz : ∀ i, (KM.nz (m.take i)).length ≤ 1000000 := fun i => Nat.le_trans (nz_le _) (by rw [List.length_take]; omega)
    refine lc_of (n := m.length) (fun i => SomeAt T (upd H d (.frz od (.dT (encD m)))) D (KM.nz (m.take i))) (SomeAt.nil hD) (fun i H1 hi p => ⟨p.1.at upd_same loose_frz, by rw [encD_length]; exact hi⟩)
      (fun H1 p => ⟨p.1.at upd_same loose_frz, Nat.le_of_eq (encD_length m)⟩) (fun i H1 x H2 hi p y => ?_) (fun H1 p => ?_)
    · obtain ⟨t, k, v, q', hk, rfl, ht, hq', rfl⟩ := y
      obtain ⟨pr, hp, rfl, rfl⟩ := encD_get hk
      have e1 : Ex T H1 (upd H1 t (.tup [.ref q', .int pr.2])) := (Ex.refl H1).new ht
      have hq2 : IsW (upd H1 t (.tup [.ref q', .int pr.2])) q' pr.1 := e1.at (by rw [← encW_kV]; exact hq') loose_tup
      refine ⟨t, _, rfl, .inl (.inl upd_same), rfl, _, _, rfl, _, _, rfl, rfl, rfl, _, rfl, rfl, _, rfl, ?_⟩
      have hts : KM.nz (m.take (i + 1)) = KM.nz (m.take i) ++ if pr.2 ≠ 0 then [pr] else [] := by rw [take_snoc hp, nz_snoc]
      by_cases h0 : pr.2 = 0
      · rw [h0, decide_eq_true rfl]
        show SomeAt T _ D _ _
        rw [hts, if_neg (by simp [h0]), List.append_nil]
        exact p.keep (by rw [h0] at e1; exact e1)
      · rw [decide_eq_false (fun z => h0 (V.int.inj z))]
        refine iteT ⟨_, rfl, _, rfl, by show 2 ≤ sizeLine; decide, fun t2 ht2 => ?_⟩
        obtain ⟨acc, a1, a2, a3⟩ := p.add (n := pr.2) hD e1 hq2 ht2
        refine ⟨acc, a1, ?_, ?_⟩
        · rw [a2]
          have := hz i
          rw [sizeLine_eq]; omega
        · rw [hts, if_pos h0]
          exact a3
    · rw [List.take_length] at p
      obtain ⟨p1, bs, p2, p3, p4⟩ := p
      obtain ⟨hf, e2⟩ := lock_back hd loose_dT p1
      refine ⟨hf, .ref D, rfl, e2.tabs hTb, D, bs, rfl, .inl (.inl (unlock_at hf p2 fun _ _ z => by cases z)), SItems.unlock hf p3, ?_, fun H2 l eN t2 hl2 => ?_⟩
      · have h1 := hz m.length
        rw [List.take_length, ← p4, List.length_map] at h1
        exact h1
      · refine ⟨l, _, rfl, .inl ⟨.inl (.inl hl2), fun r hr2 => ?_⟩⟩
        have e3 : Ex T H (upd H2 r (.tup ((bs.mergeSort (PySem.W.dataLe false fun b => wk2 b.2.1 b.2.2.2)).map fun b => V.ref b.1))) := (e2.trans ⟨eN, fun _ => t2⟩).new hr2
        refine q _ r e3 (isTm_of (bs := bs.mergeSort (PySem.W.dataLe false fun b => wk2 b.2.1 b.2.2.2)) ?_ (sorted_canon (fun a b hab => lt_wk2 _ _ (Ne.symm hab)) hn p4) upd_same)
        intro b hb
        have hb2 := (List.mergeSort_perm _ _).mem_iff.mp hb
        obtain ⟨h1, h2⟩ := SItems.unlock hf p3 b hb2
        have e4 : Ex T H2 (upd H2 r (.tup ((bs.mergeSort (PySem.W.dataLe false fun b => wk2 b.2.1 b.2.2.2)).map fun b => V.ref b.1))) := (Ex.refl H2).new hr2
        exact ⟨e4.at (eN _ _ h1 loose_tup.1) loose_tup, e4.at (eN _ _ h2 loose_tup.1) loose_tup⟩
end
end KW

set_option Elab.async false
set_option linter.all false
set_option maxRecDepth 100000
namespace KW
open PySem PySem.Spec PyProof.Rows L2 LamX KR
theorem scTerms : FnScope ["told", "found", "word"] ["told"] (defScope sTerms) := ⟨rfl, rfl, rfl, by decide +kernel, rfl, by decide +kernel, by decide +kernel⟩
theorem valV_mem {m : FS} {i : Nat} {p : Wd × Int} (hn : (m.map (·.1)).Nodup) (h : m[i]? = some p) : valV (encD m) (encW p.1) = some (.int p.2) := by
  have hm := List.mem_of_getElem? h
  rw [(valV_enc p.1 hn).2 (List.mem_map.mpr ⟨p, hm, rfl⟩), KM.coef_mem hn hm]
section
variable {P : Program} {w : World} {K : PySem.W.Frag} {mg : Str → Option Value} {base : Heap} {T : List (Addr × Str)}
theorem ok_terms {f : Addr} {fd : FuncData} {c Pt : Addr} (F : FunC K "_law_terms" "_law_terms" sTerms f fd c) (TB : TabB base mg c Pt) (hT : (Pt, qL) ∈ T) (hU : ∀ p ∈ T, p.1 = Pt → p.2 = qL)
    (ml : mg "len" = none) (mt : mg "tuple" = none) (ms : mg "sorted" = none) : FnOk P w K mg base CX0 2 f fd ["told"] (spAsTerms T) := by
  refine F.ok (k := 1) scTerms (fun vs H Q E h => ?_) (fun A outer s H vs Q E hr h => ?_)
  · obtain ⟨d, m, rfl, _⟩ := h
    rfl
  · obtain ⟨d, m, rfl, hd, hn, hl, hTb, q⟩ := h
    have nd := scTerms.nd
    have hu := hu_of hr
    refine ⟨_, pss_cons (ps_lock (ps_setLc (i := 1) (own := [("word", 2)]) (g := gName 2) (by rfl) nd rfl rfl (sw_true rfl rfl rfl (by decide +kernel)) (pi_keys (pv 0))
        (blkOk_by (N := ["told", "found", "word"]) (sc := defScope sTerms) (by decide +kernel)) (fun _ _ _ _ _ => pg_name (i := 2) nd rfl (.inl rfl))
        (fun _ _ _ _ _ => pts_one (pt_cmpR op_ne (pe_dget hu (pv 0) (pv 2) (fun _ _ => rfl)) pe_int (nomark _))) (fun _ _ _ _ _ => pe_tup (pa_cons (pv 2) (pa_cons (pe_dget hu (pv 0) (pv 2) (fun _ _ => rfl)) pa_nil)))))
      (pss_one (ps_ret (pe_callTy call_tuple_of (by rfl) mt (by decide +kernel) (pa_cons
        (pe_sortedKey (T := T) (c := c) (P := Pt) (x := "one") (k := fun b => wk b.2.1) (kn := 0) rfl hr (by rfl) ms (pa_cons (pv 1) pa_nil) TB rfl hT hU rfl (by decide +kernel) (by decide +kernel) rfl rfl rfl rfl
          (fun _ _ _ _ _ _ => rfl) (fun A L f c' s mb b t its kenv hb h1 h2 rv hz => key_law kenv (by decide) (by rfl) ml hb h1 h2 rv hz (by rfl) (by rfl) (by rfl)) (fun a b => alike_wk _ _) (fun b => ⟨_, _, rfl⟩) (fun b => ?dep)) pa_nil)))), ?_⟩
    case dep =>
      have := depth_strs b.2.1
      show PyData.depth (.tuple [.int _, .tuple _]) ≤ 8
      simp only [PyData.depth, PyData.depthAll]
      omega
    refine ⟨d, .dT (encD m), hd, True.intro, fun od => ?_⟩
    refine ⟨_, rfl, d, od, rfl, .inr ⟨encD m, upd_same, fun D hD => ?_⟩⟩
    have hz : ∀ i, (KM.nz (m.take i)).length ≤ 1000000 := fun i => Nat.le_trans (nz_le _) (by rw [List.length_take]; omega)
    refine lc_of (n := m.length) (fun i => SomeAt T (upd H d (.frz od (.dT (encD m)))) D (KM.nz (m.take i))) (SomeAt.nil hD) (fun i H1 hi p => ⟨p.1.at upd_same loose_frz, by rw [encD_length]; exact hi⟩)
      (fun H1 p => ⟨p.1.at upd_same loose_frz, Nat.le_of_eq (encD_length m)⟩) (fun i H1 x H2 hi p y => ?_) (fun H1 p => ?_)
    · obtain ⟨rfl, k, v, q', hk, rfl, hq'⟩ := y
      obtain ⟨pr, hp, rfl, rfl⟩ := encD_get hk
      have hf := p.1.at upd_same loose_frz
      have hq2 : IsW H2 q' pr.1 := (by rw [← encW_kV]; exact hq' : H2 q' = some (.tup (pr.1.map V.str)))
      have dg : DGet H2 d (.ref q') (some (.int pr.2)) := .inr ⟨_, _, _, .inr ⟨od, hf⟩, rfl, hq', (valV_mem hn hp).symm⟩
      refine ⟨rfl, _, rfl, _, rfl, d, _, rfl, dg, rfl, _, rfl, ?_⟩
      have hts : KM.nz (m.take (i + 1)) = KM.nz (m.take i) ++ if pr.2 ≠ 0 then [pr] else [] := by rw [take_snoc hp, nz_snoc]
      by_cases h0 : pr.2 = 0
      · rw [h0, decide_eq_true rfl]
        show SomeAt T _ D _ _
        rw [hts, if_neg (by simp [h0]), List.append_nil]
        exact p
      · rw [decide_eq_false (fun z => h0 (V.int.inj z))]
        refine iteT ⟨_, rfl, _, rfl, _, rfl, d, _, rfl, dg, by show 2 ≤ sizeLine; decide, fun t2 ht2 => ?_⟩
        obtain ⟨acc, a1, a2, a3⟩ := p.add (n := pr.2) hD (Ex.refl H2) hq2 ht2
        refine ⟨acc, a1, ?_, ?_⟩
        · rw [a2]
          have := hz i
          rw [sizeLine_eq]; omega
        · rw [hts, if_pos h0]
          exact a3
    · rw [List.take_length] at p
      obtain ⟨p1, bs, p2, p3, p4⟩ := p
      obtain ⟨hf, e2⟩ := lock_back hd loose_dT p1
      refine ⟨hf, .ref D, rfl, e2.tabs hTb, D, bs, rfl, .inl (.inl (unlock_at hf p2 fun _ _ z => by cases z)), SItems.unlock hf p3, ?_, fun H2 l eN t2 hl2 => ?_⟩
      · have h1 := hz m.length
        rw [List.take_length, ← p4, List.length_map] at h1
        exact h1
      · refine ⟨l, _, rfl, .inl ⟨.inl (.inl hl2), fun r hr2 => ?_⟩⟩
        have e3 : Ex T H (upd H2 r (.tup ((bs.mergeSort (PySem.W.dataLe false fun b => wk b.2.1)).map fun b => V.ref b.1))) := (e2.trans ⟨eN, fun _ => t2⟩).new hr2
        refine q _ r e3 (isTm_of (bs := bs.mergeSort (PySem.W.dataLe false fun b => wk b.2.1)) ?_ (sorted_canon (fun a b hab => rfl) hn p4) upd_same)
        intro b hb
        have hb2 := (List.mergeSort_perm _ _).mem_iff.mp hb
        obtain ⟨h1, h2⟩ := SItems.unlock hf p3 b hb2
        have e4 : Ex T H2 (upd H2 r (.tup ((bs.mergeSort (PySem.W.dataLe false fun b => wk b.2.1)).map fun b => V.ref b.1))) := (Ex.refl H2).new hr2
        exact ⟨e4.at (eN _ _ h1 loose_tup.1) loose_tup, e4.at (eN _ _ h2 loose_tup.1) loose_tup⟩
end
end KW

set_option Elab.async false
set_option linter.all false
set_option maxRecDepth 100000
namespace KW
open KR
abbrev FSs := KM.FS PySem.Str
/-! ### sizes -/
def dl : Nat → Nat → Nat
  | 0, _ => 1
  | _ + 1, 0 => 1
  | m + 1, n + 1 => dl m (n + 1) + dl (m + 1) n + dl m n
theorem dl_pos : ∀ m n, 1 ≤ dl m n
  | 0, _ => by rw [dl]; omega
  | m + 1, 0 => by rw [dl]; omega
  | m + 1, n + 1 => by
    rw [dl]
    have := dl_pos m n
    omega
theorem dl_l : ∀ m n, dl m n ≤ dl (m + 1) n
  | 0, 0 => by simp [dl]
  | 0, n + 1 => by
    have := dl_pos 1 (n + 1)
    rw [dl]; exact this
  | m + 1, 0 => by simp [dl]
  | m + 1, n + 1 => by
    rw [show dl (m + 1 + 1) (n + 1) = dl (m + 1) (n + 1) + dl (m + 1 + 1) n + dl (m + 1) n from by rw [dl]]
    omega
theorem dl_r : ∀ m n, dl m n ≤ dl m (n + 1)
  | 0, n => by simp [dl]
  | m + 1, n => by
    rw [show dl (m + 1) (n + 1) = dl m (n + 1) + dl (m + 1) n + dl m n from by rw [dl]]
    omega
theorem dl_mono {a b c d : Nat} (h1 : a ≤ c) (h2 : b ≤ d) : dl a b ≤ dl c d := by
  have s1 : ∀ k, dl a b ≤ dl (a + k) b := fun k => by
    induction k with
    | zero => exact Nat.le_refl _
    | succ k ih => exact Nat.le_trans ih (dl_l _ _)
  have s2 : ∀ k, dl c b ≤ dl c (b + k) := fun k => by
    induction k with
    | zero => exact Nat.le_refl _
    | succ k ih => exact Nat.le_trans ih (dl_r _ _)
  have e1 := s1 (c - a)
  have e2 := s2 (d - b)
  rw [show a + (c - a) = c by omega] at e1
  rw [show b + (d - b) = d by omega] at e2
  omega
theorem snocs_len (a : PySem.Str) (l : FSs) : (KM.snocs a l).length = l.length := List.length_map _
theorem F_len : ∀ u v : Wd, (KM.F u v).length ≤ dl u.length v.length
  | [], v => by rw [KM.F_nil]; simp [dl]
  | a :: u, [] => by rw [KM.F_nil2]; simp [dl]
  | a :: u, b :: v => by
    have h1 := F_len u (b :: v)
    have h2 := F_len (a :: u) v
    have h3 := F_len u v
    rw [KM.F_cons, List.length_append, List.length_append, snocs_len, snocs_len]
    simp only [List.length_cons] at h1 h2 ⊢
    rw [show dl (u.length + 1) (v.length + 1) = dl u.length (v.length + 1) + dl (u.length + 1) v.length + dl u.length v.length from by rw [dl]]
    split
    · rw [snocs_len]; omega
    · simp only [List.length_nil]; omega
termination_by u v => u.length + v.length
theorem F_all : ∀ u v : Wd, ∀ p ∈ KM.F u v, p.1.length ≤ u.length + v.length ∧ p.2 = 1
  | [], v => by rw [KM.F_nil]; simp
  | a :: u, [] => by rw [KM.F_nil2]; simp
  | a :: u, b :: v => by
    intro p hp
    have sn : ∀ (x : PySem.Str) (l : FSs) (n : Nat), (∀ p ∈ l, p.1.length ≤ n ∧ p.2 = 1) → ∀ p ∈ KM.snocs x l, p.1.length ≤ n + 1 ∧ p.2 = 1 := fun x l n h p hp => by
      obtain ⟨q, hq, rfl⟩ := List.mem_map.mp hp
      obtain ⟨h1, h2⟩ := h q hq
      simp only [List.length_append, List.length_singleton]
      exact ⟨by omega, h2⟩
    rw [KM.F_cons] at hp
    simp only [List.length_cons]
    rcases List.mem_append.mp hp with hp | hp
    · have := sn a _ _ (F_all u (b :: v)) p hp
      simp only [List.length_cons] at this
      exact ⟨by omega, this.2⟩
    rcases List.mem_append.mp hp with hp | hp
    · have := sn b _ _ (F_all (a :: u) v) p hp
      simp only [List.length_cons] at this
      exact ⟨by omega, this.2⟩
    · split at hp
      · have := sn a _ _ (F_all u v) p hp
        exact ⟨by omega, this.2⟩
      · cases hp
termination_by u v => u.length + v.length
/-- words of at most A letters, at most M terms, numbers of at most B -/
def Sz (A M B : Nat) (ts : FSs) : Prop := ts.length ≤ M ∧ ∀ p ∈ ts, p.1.length ≤ A ∧ p.2.natAbs ≤ B
theorem Sz.mono {A M B A' M' B' : Nat} {ts : FSs} (h : Sz A M B ts) (h1 : A ≤ A') (h2 : M ≤ M') (h3 : B ≤ B') : Sz A' M' B' ts := ⟨Nat.le_trans h.1 h2, fun p hp => ⟨Nat.le_trans (h.2 p hp).1 h1, Nat.le_trans (h.2 p hp).2 h3⟩⟩
theorem Sz.one (u : Wd) : Sz u.length 1 1 [(u, 1)] := ⟨by simp, by simp⟩
theorem Sz.FF (u v : Wd) : Sz (u.length + v.length) (dl u.length v.length) 1 (KM.FF u v) := by
  have h1 := F_len u.reverse v.reverse
  have h2 := F_all u.reverse v.reverse
  simp only [List.length_reverse] at h1 h2
  exact ⟨h1, fun p hp => ⟨(h2 p hp).1, by rw [(h2 p hp).2]; decide⟩⟩
theorem Sz.app {A M B A' M' B' : Nat} {ts os : FSs} (h : Sz A M B ts) (g : Sz A' M' B' os) : Sz (max A A') (M + M') (max B B') (ts ++ os) := by
  refine ⟨by rw [List.length_append]; have := h.1; have := g.1; omega, fun p hp => ?_⟩
  rcases List.mem_append.mp hp with hp | hp
  · have := h.2 p hp
    omega
  · have := g.2 p hp
    omega
theorem Sz.flat {β : Type} {A M B n : Nat} {f : β → FSs} : ∀ {l : List β}, (∀ x ∈ l, Sz A M B (f x)) → l.length ≤ n → Sz A (n * M) B (l.flatMap f)
  | [], _, _ => ⟨by simp, by simp⟩
  | x :: l, h, hn => by
    simp only [List.length_cons] at hn
    have h1 := h x (List.mem_cons_self ..)
    have h2 := Sz.flat (n := n - 1) (l := l) (fun y hy => h y (List.mem_cons_of_mem _ hy)) (by omega)
    have h3 := h1.app h2
    rw [List.flatMap_cons]
    refine h3.mono (by omega) ?_ (by omega)
    obtain ⟨k, rfl⟩ : ∃ k, n = k + 1 := ⟨n - 1, by omega⟩
    rw [show k + 1 - 1 = k by omega, Nat.succ_mul]; omega
theorem Sz.scale {A M B C : Nat} {ts : FSs} (h : Sz A M B ts) {k : Int} (hk : k.natAbs ≤ C) : Sz A M (B * C) (ts.map fun x => (x.1, x.2 * k)) := by
  refine ⟨by rw [List.length_map]; exact h.1, fun p hp => ?_⟩
  obtain ⟨q, hq, rfl⟩ := List.mem_map.mp hp
  obtain ⟨h1, h2⟩ := h.2 q hq
  exact ⟨h1, by simp only [Int.natAbs_mul]; exact Nat.mul_le_mul h2 hk⟩
theorem coef_le {A M B : Nat} : ∀ {ts : FSs}, Sz A M B ts → ∀ w, (KM.coef ts w).natAbs ≤ ts.length * B
  | [], _, w => by simp [KM.coef]
  | (u, n) :: r, h, w => by
    have h2 := h.2 (u, n) (List.mem_cons_self ..)
    have ih := coef_le (A := A) (M := M) (B := B) (ts := r) ⟨by have := h.1; simp only [List.length_cons] at this; omega, fun p hp => h.2 p (List.mem_cons_of_mem _ hp)⟩ w
    simp only [KM.coef, List.length_cons, Nat.succ_mul]
    have h3 : n.natAbs ≤ B := h2.2
    split <;> omega
theorem Sz.terms {A M B : Nat} {ts : FSs} (h : Sz A M B ts) : Sz A M (M * B) (KM.terms wle ts) := by
  refine ⟨Nat.le_trans (KM.terms_len ts) h.1, fun p hp => ?_⟩
  have h1 := KM.terms_word (le := wle) (a := ts) (P := fun u => u.length ≤ A) (fun p hp => (h.2 p hp).1) p hp
  refine ⟨h1, ?_⟩
  obtain ⟨u, n⟩ := p
  have e := KM.coef_mem (KM.terms_nodup (le := wle) ts) hp
  rw [KM.terms_coef] at e
  have := coef_le h u
  rw [e] at this
  exact Nat.le_trans this (Nat.mul_le_mul_right _ h.1)
/-! ### sums that are made term by term -/
structure Acc (m S : FSs) : Prop where
  nd : (m.map (·.1)).Nodup
  co : ∀ w, KM.coef m w = KM.coef S w
  le : m.length ≤ S.length
theorem Acc.nil : Acc [] [] := ⟨List.Pairwise.nil, fun _ => rfl, Nat.le_refl _⟩
theorem Acc.add {m S : FSs} (h : Acc m S) (u : Wd) (n : Int) : Acc (KM.add m u n) (S ++ [(u, n)]) := by
  refine ⟨KM.add_nodup h.nd, fun w => ?_, ?_⟩
  · rw [KM.coef_add, KM.coef_append, h.co]
    simp [KM.coef]
  · have := KM.add_length m u n
    have := h.le
    rw [List.length_append, List.length_singleton]; omega
theorem Acc.terms {m S : FSs} (h : Acc m S) : KM.canon wle m = KM.terms wle S := KM.terms_of ord_wle h.nd h.co
/-- the sum that the product of terms makes -/
def prodS (ts os : FSs) : FSs := ts.flatMap fun p => os.flatMap fun q => (KM.terms wle (KM.FF p.1 q.1)).map fun x => (x.1, x.2 * (p.2 * q.2))
theorem coef_map_scl (k : Int) (w : Wd) (l : FSs) : KM.coef (l.map fun x => (x.1, x.2 * k)) w = KM.coef l w * k := KM.coef_scl k w l
theorem prodS_coef (ts os : FSs) (w : Wd) : KM.coef (prodS ts os) w = KM.coef (KM.mulF ts os) w := by
  unfold prodS KM.mulF
  rw [KM.coef_flat, KM.coef_flat]
  congr 1
  refine List.map_congr_left fun p _ => ?_
  rw [KM.coef_flat, KM.coef_flat]
  congr 1
  refine List.map_congr_left fun q _ => ?_
  rw [coef_map_scl, KM.coef_scl, KM.terms_coef]
theorem prodS_terms (ts os : FSs) : KM.terms wle (prodS ts os) = KM.terms wle (KM.mulF ts os) := KM.terms_eq ord_wle (prodS_coef ts os)
theorem Sz.prodS {A M B A' M' B' : Nat} {ts os : FSs} (h : Sz A M B ts) (g : Sz A' M' B' os) : Sz (A + A') (M * (M' * dl A A')) (dl A A' * (B * B')) (prodS ts os) := by
  refine Sz.flat (fun p hp => Sz.flat (fun q hq => ?_) g.1) h.1
  obtain ⟨h1, h2⟩ := h.2 p hp
  obtain ⟨g1, g2⟩ := g.2 q hq
  have hd := dl_mono h1 g1
  refine ((Sz.FF p.1 q.1).terms.scale (k := p.2 * q.2) (C := B * B') (by rw [Int.natAbs_mul]; exact Nat.mul_le_mul h2 g2)).mono (by omega) hd ?_
  rw [Nat.mul_one]
  exact Nat.mul_le_mul_right _ hd
theorem Sz.mulF {A M B A' M' B' : Nat} {ts os : FSs} (h : Sz A M B ts) (g : Sz A' M' B' os) : Sz (A + A') (M * (M' * dl A A')) (B * B') (KM.mulF ts os) := by
  refine Sz.flat (fun p hp => Sz.flat (fun q hq => ?_) g.1) h.1
  obtain ⟨h1, h2⟩ := h.2 p hp
  obtain ⟨g1, g2⟩ := g.2 q hq
  have hd := dl_mono h1 g1
  refine ((Sz.FF p.1 q.1).scale (k := p.2 * q.2) (C := B * B') (by rw [Int.natAbs_mul]; exact Nat.mul_le_mul h2 g2)).mono (by omega) hd (by omega)
end KW

set_option Elab.async false
set_option linter.all false
set_option maxRecDepth 100000
namespace KW
open PySem PySem.Spec PyProof.Rows L2 LamX KR
theorem paired_app {α β : Type} {F : α → β → Prop} : ∀ {l l' : List α} {m m' : List β}, Paired F l m → Paired F l' m' → Paired F (l ++ l') (m ++ m')
  | _, _, _, _, .nil, h => h
  | _, _, _, _, .cons a t, h => .cons a (paired_app t h)
section
variable {P : Program} {w : World} {K : PySem.W.Frag} {mg : Str → Option Value} {base : Heap} {T : List (Addr × Str)}
/-- a def that may be called by its name -/
def Cal (P : Program) (w : World) (K : PySem.W.Frag) (mg : Str → Option Value) (base : Heap) (k : Nat) (x : Str) (ps : List Str) (sp : Sp) : Prop :=
  ∃ f fd, FnOk P w K mg base CX0 k f fd ps sp ∧ mg x = some (.ref f) ∧ PySem.W.keepIn K (.ref f) = true ∧ Binds K fd ps []
abbrev CalAdded (P : Program) (w : World) (K : PySem.W.Frag) (mg : Str → Option Value) (base : Heap) := Cal P w K mg base 1 "added" ["found", "word", "many"] spAdded
abbrev CalAsTerms (P : Program) (w : World) (K : PySem.W.Frag) (mg : Str → Option Value) (base : Heap) (T : List (Addr × Str)) := Cal P w K mg base 2 "as_terms" ["found"] (spAsTerms T)
abbrev CalTerms (P : Program) (w : World) (K : PySem.W.Frag) (mg : Str → Option Value) (base : Heap) (T : List (Addr × Str)) := Cal P w K mg base 2 "_law_terms" ["told"] (spAsTerms T)
theorem Ex.upd1 {H0 H : Hp} {d : Addr} {o o' : HO} (e : Ex T H0 H) (hd : H0 d = none) (h : H d = some o) (lo : Loose o) : Ex T H0 (upd H d o') := e.put hd h lo
theorem IsPr.put {H : Hp} {d t : Addr} {p : Wd × Int} {o o' : HO} (h : IsPr H t p) (hd : H d = some o) (no : ∀ xs, o ≠ .tup xs) : IsPr (upd H d o') t p := by
  obtain ⟨q, h1, h2⟩ := h
  refine ⟨q, ?_, ?_⟩
  · rw [upd_ne (ne_of h1 hd (fun z => no _ z.symm))]; exact h1
  · show upd H d o' q = _
    rw [upd_ne (ne_of h2 hd (fun z => no _ z.symm))]; exact h2
/-! ### terms_sum -/
theorem scTermsSum : FnScope ["terms", "others", "found", "word", "many"] ["terms", "others"] (defScope sTermsSum) := ⟨rfl, rfl, rfl, by decide +kernel, rfl, by decide +kernel, by decide +kernel⟩
def spTermsSum (T : List (Addr × Str)) : Sp := fun vs H Q _ => ∃ (a b : Addr) (ts os : FS), vs = [.ref a, .ref b] ∧ IsTm H a ts ∧ IsTm H b os ∧ ts.length + os.length ≤ 1000000 ∧ Tabs T H ∧
  ∀ H' r, Ex T H H' → IsTm H' r (KM.terms wle (ts ++ os)) → Q (.ref r) H'
theorem ok_termsSum {f : Addr} {fd : FuncData} (F : Fun K "terms_sum" "terms_sum" sTermsSum f fd) (GA : CalAdded P w K mg base) (GT : CalAsTerms P w K mg base T) : FnOk P w K mg base CX0 3 f fd ["terms", "others"] (spTermsSum T) := by
  obtain ⟨fA, fdA, FA, mA, kA, bA⟩ := GA
  obtain ⟨fT, fdT, FT, mT, kT, bT⟩ := GT
  refine F.ok (k := 2) scTermsSum (fun vs H Q E h => ?_) (fun cdv A outer s H vs Q E hr h => ?_)
  · obtain ⟨a, b, ts, os, rfl, _⟩ := h
    rfl
  · obtain ⟨a, b, ts, os, rfl, ha, hb, hl, hTb, q⟩ := h
    have nd := scTermsSum.nd
    refine ⟨_, pss_cons (ps_set (i := 2) nd rfl (.inl rfl) pe_dnewT)
      (pss_cons (ps_for PassesOwn.never rfl (pi_tup (pe_tup (StX.pa_star (pv 0) (StX.pa_star (pv 1) pa_nil)))) (pg_tup rfl (pgs_cons (pg_name (i := 3) nd rfl (.inl rfl)) (pgs_cons (pg_name (i := 4) nd rfl (.inl rfl)) pgs_nil)))
        (pss_one (ps_expr (pe_call FA (hr.mono (by decide)) (by rfl) mA kA bA .nil pass0 (pa_cons (pv 2) (pa_cons (pv 3) (pa_cons (pv 4) pa_nil)))))))
      (pss_one (ps_ret (pe_call FT hr (by rfl) mT kT bT .nil pass0 (pa_cons (pv 2) pa_nil))))), ?_⟩
    intro d hd
    obtain ⟨as, ha1, ha2⟩ := ha
    obtain ⟨bs, hb1, hb2⟩ := hb
    have e1 : Ex T H (upd H d (.dT [])) := (Ex.refl H).new hd
    have la := IsTm.len ha2
    have lb := IsTm.len hb2
    refine ⟨.ref a, rfl, a, _, rfl, .inl (.inl (.inl (e1.at ha1 loose_tup))), .ref b, rfl, b, _, rfl, .inl (.inl (.inl (e1.at hb1 loose_tup))), ?_, fun t ht => ?_⟩
    · simp only [List.length_append, List.length_map, List.length_nil]
      rw [sizeLine_eq]; omega
    have hP : Paired (IsPr H) (as ++ bs) (ts ++ os) := paired_app ha2 hb2
    have eL : as.map V.ref ++ (bs.map V.ref ++ []) = (as ++ bs).map V.ref := by simp
    rw [eL]
    have e2 : Ex T H (upd (upd H d (.dT [])) t (.tup ((as ++ bs).map V.ref))) := e1.new ht
    refine ⟨t, rfl, ⟨_, .inl (.inl upd_same)⟩, ?_⟩
    have hlen : ((as ++ bs).map V.ref).length = (ts ++ os).length := by rw [List.length_map]; exact Paired.length hP
    have hdt : d ≠ t := fun z => by rw [z, upd_same] at ht; cases ht
    refine for_tup (xs := (as ++ bs).map V.ref) (fun i σ H3 => ∃ y3 y4 m, σ = [some (.ref a), some (.ref b), some (.ref d), y3, y4] ∧ Ex T H H3 ∧ H3 d = some (.dT (encD m)) ∧ H3 t = some (.tup ((as ++ bs).map V.ref)) ∧ Acc m ((ts ++ os).take i))
      ⟨none, none, [], rfl, e2, by rw [upd_ne hdt, upd_same]; rfl, upd_same, Acc.nil⟩ (fun i σ H3 _ p => ?_) (fun i x σ H3 hx p => ?_) (fun σ H3 p => ?_)
    · obtain ⟨y3, y4, m, _, _, _, h4, _⟩ := p
      exact .inl (.inl h4)
    · obtain ⟨y3, y4, m, rfl, h2, h3, h4, h5⟩ := p
      obtain ⟨t1, pr, rfl, hp, _, q1, hq1, hq2⟩ := IsTm.nth hP hx
      refine ⟨t1, _, rfl, .inl (.inl (h2.at hq1 loose_tup)), rfl, _, _, rfl, _, _, rfl, rfl, ?_⟩
      have hq3 : IsW H3 q1 pr.1 := h2.at hq2 loose_tup
      refine ⟨.ref d, rfl, .ref q1, rfl, .int pr.2, rfl, d, q1, m, pr.1, pr.2, rfl, h3, hq3, h5.nd, ?_, ?_⟩
      · have := h5.le
        rw [List.length_take, List.length_append] at this
        rw [sizeLine_eq]; omega
      · refine ⟨_, _, _, rfl, h2.put hd h3 loose_dT, upd_same, ?_, ?_⟩
        · rw [upd_ne (ne_of h4 h3 (fun z => by cases z))]; exact h4
        · rw [take_snoc hp]; exact h5.add _ _
    · obtain ⟨y3, y4, m, rfl, h2, h3, h4, h5⟩ := p
      rw [hlen, List.take_length] at h5
      refine ⟨.ref d, rfl, d, m, rfl, h3, h5.nd, ?_, h2.tabs hTb, fun H4 r e4 hr4 => ?_⟩
      · have := h5.le
        rw [List.length_append] at this; omega
      · refine q H4 r (h2.trans e4) ?_
        rw [← h5.terms]; exact hr4
end
end KW

set_option Elab.async false
set_option linter.all false
set_option maxRecDepth 100000
namespace KW
open PySem PySem.Spec PyProof.Rows L2 LamX KR
theorem catA_all {K : PySem.W.Frag} {a b : Addr} {xs ys : List V} {H : Hp} {Q : VK} (ha : H a = some (.tup xs)) (hb : H b = some (.tup ys)) (hz : xs.length + ys.length ≤ sizeLine)
    (q : ∀ t H', Same H H' → H' t = some (.tup (xs ++ ys)) → Q (.ref t) H') : rCatA K (.ref a) (.ref b) H Q := by
  refine ⟨a, b, xs, ys, rfl, rfl, .inl (.inl ha), .inl (.inl hb), hz, fun h => ?_, fun h1 h2 => ?_, fun h1 h2 p hp => ?_⟩
  · subst h
    exact q b H (Same.refl H) hb
  · subst h2
    exact q a H (Same.refl H) (by rw [List.append_nil]; exact ha)
  · exact q p _ (fun c o e => by rw [upd_ne (ne_of_none e hp)]; exact e) upd_same
section
variable {P : Program} {w : World} {K : PySem.W.Frag} {mg : Str → Option Value} {base : Heap} {T : List (Addr × Str)}
/-! ### _law_added_terms -/
theorem scAddedTerms : FnScope ["terms", "others", "found", "word", "often"] ["terms", "others"] (defScope sAddedTerms) := ⟨rfl, rfl, rfl, by decide +kernel, rfl, by decide +kernel, by decide +kernel⟩
def spAddedTerms (T : List (Addr × Str)) : Sp := fun vs H Q _ => ∃ (a b : Addr) (ts os : FS), vs = [.ref a, .ref b] ∧ IsTm H a ts ∧ IsTm H b os ∧ ts.length + os.length ≤ 1000000 ∧
  ∀ H' r m, Ex T H H' → H' r = some (.dT (encD m)) → Acc m (ts ++ os) → Q (.ref r) H'
theorem ok_addedTerms {f : Addr} {fd : FuncData} {k : Nat} (F : Fun K "_law_added_terms" "_law_added_terms" sAddedTerms f fd) : FnOk P w K mg base CX0 (k + 1) f fd ["terms", "others"] (spAddedTerms T) := by
  refine F.ok (k := k) scAddedTerms (fun vs H Q E h => ?_) (fun cdv A outer s H vs Q E hr h => ?_)
  · obtain ⟨a, b, ts, os, rfl, _⟩ := h
    rfl
  · obtain ⟨a, b, ts, os, rfl, ha, hb, hl, q⟩ := h
    have nd := scAddedTerms.nd
    have hu := hu_of hr
    refine ⟨_, pss_cons (ps_set (i := 2) nd rfl (.inl rfl) pe_dnewT)
      (pss_cons (ps_for PassesOwn.never rfl (pi_tup (pe_op op_catA (pv 0) (pv 1))) (pg_tup rfl (pgs_cons (pg_name (i := 3) nd rfl (.inl rfl)) (pgs_cons (pg_name (i := 4) nd rfl (.inl rfl)) pgs_nil)))
        (pss_one (ps_dput hu (pv 2) (pv 3) (pe_op op_add (pe_dget2 hu (pv 2) (pv 3) pe_int ⟨rfl, rfl, rfl, rfl⟩) (pv 4)) rfl)))
      (pss_one (ps_ret (pv 2)))), ?_⟩
    intro d hd
    obtain ⟨as, ha1, ha2⟩ := ha
    obtain ⟨bs, hb1, hb2⟩ := hb
    have e1 : Ex T H (upd H d (.dT [])) := (Ex.refl H).new hd
    have la := IsTm.len ha2
    have lb := IsTm.len hb2
    have hP : Paired (IsPr H) (as ++ bs) (ts ++ os) := paired_app ha2 hb2
    have hlen : ((as ++ bs).map V.ref).length = (ts ++ os).length := by rw [List.length_map]; exact Paired.length hP
    refine ⟨.ref a, rfl, .ref b, rfl, catA_all (e1.at ha1 loose_tup) (e1.at hb1 loose_tup) ?_ fun t H2 sm ht => ?_⟩
    · simp only [List.length_map]
      rw [sizeLine_eq]; omega
    rw [← List.map_append] at ht
    have e2 : Ex T H H2 := e1.trans (Ex.same sm)
    refine ⟨t, rfl, ⟨_, .inl (.inl ht)⟩, ?_⟩
    refine for_tup (xs := (as ++ bs).map V.ref) (fun i σ H3 => ∃ y3 y4 m, σ = [some (.ref a), some (.ref b), some (.ref d), y3, y4] ∧ Ex T H H3 ∧ H3 d = some (.dT (encD m)) ∧ H3 t = some (.tup ((as ++ bs).map V.ref)) ∧ Acc m ((ts ++ os).take i))
      ⟨none, none, [], rfl, e2, by rw [sm d (.dT []) upd_same]; rfl, ht, Acc.nil⟩ (fun i σ H3 _ p => ?_) (fun i x σ H3 hx p => ?_) (fun σ H3 p => ?_)
    · obtain ⟨y3, y4, m, _, _, _, h4, _⟩ := p
      exact .inl (.inl h4)
    · obtain ⟨y3, y4, m, rfl, h2, h3, h4, h5⟩ := p
      obtain ⟨t1, pr, rfl, hp, _, q1, hq1, hq2⟩ := IsTm.nth hP hx
      refine ⟨t1, _, rfl, .inl (.inl (h2.at hq1 loose_tup)), rfl, _, _, rfl, _, _, rfl, rfl, ?_⟩
      have hq3 : IsW H3 q1 pr.1 := h2.at hq2 loose_tup
      refine ⟨_, rfl, d, rfl, .inr ⟨_, .inl h3⟩, _, rfl, _, .t h3 (IsW.key hq3), _, rfl, ?_⟩
      rw [(valV_enc pr.1 h5.nd).1]
      refine ⟨_, _, rfl, rfl, _, rfl, _, rfl, d, _, rfl, .t h3 (IsW.key hq3) ?_, ?_⟩
      · have := h5.le
        rw [List.length_take, List.length_append] at this
        rw [encD_length, sizeLine_eq]; omega
      · rw [putK_enc h5.nd]
        refine ⟨_, _, _, rfl, h2.put hd h3 loose_dT, upd_same, ?_, ?_⟩
        · rw [upd_ne (ne_of h4 h3 (fun z => by cases z))]; exact h4
        · rw [take_snoc hp]; exact h5.add _ _
    · obtain ⟨y3, y4, m, rfl, h2, h3, h4, h5⟩ := p
      rw [hlen, List.take_length] at h5
      exact ⟨.ref d, rfl, q H3 d m h2 h3 h5⟩
/-! ### words_in -/
theorem scWordsIn : FnScope ["terms", "word", "many"] ["terms"] (defScope sWordsIn) := ⟨rfl, rfl, rfl, by decide +kernel, rfl, by decide +kernel, by decide +kernel⟩
def IsWs (H : Hp) (a : Addr) (ws : List Wd) : Prop := ∃ as : List Addr, H a = some (.tup (as.map V.ref)) ∧ Paired (IsW H) as ws
theorem IsWs.ex {H H1 : Hp} {a : Addr} {ws : List Wd} (e : Ex T H H1) (h : IsWs H a ws) : IsWs H1 a ws := by
  obtain ⟨as, h1, h2⟩ := h
  exact ⟨as, e.at h1 loose_tup, paired_mono (fun _ _ => IsW.ex e) h2⟩
def spWordsIn (T : List (Addr × Str)) : Sp := fun vs H Q _ => ∃ (a : Addr) (ts : FS), vs = [.ref a] ∧ IsTm H a ts ∧ ts.length ≤ 1000000 ∧ ∀ H' r, Ex T H H' → IsWs H' r (ts.map (·.1)) → Q (.ref r) H'
/-- words that were made so far -/
def WsAt (T : List (Addr × Str)) (H0 : Hp) (D : Addr) (ws : List Wd) (H : Hp) : Prop := Ex T H0 H ∧ ∃ qs : List Addr, H D = some (.lst (qs.map V.ref)) ∧ Paired (IsW H) qs ws
theorem WsAt.nil {H0 : Hp} {D : Addr} (h : H0 D = none) : WsAt T H0 D [] (upd H0 D (.lst [])) := ⟨(Ex.refl H0).new h, [], upd_same, .nil⟩
theorem WsAt.add {H0 H H3 : Hp} {D q : Addr} {u : Wd} {ws : List Wd} (p : WsAt T H0 D ws H) (hD : H0 D = none) (e : Ex T H H3) (hq : IsW H3 q u) :
    ∃ acc, H3 D = some (.lst acc) ∧ acc.length = ws.length ∧ WsAt T H0 D (ws ++ [u]) (upd H3 D (.lst (acc ++ [.ref q]))) := by
  obtain ⟨p1, qs, p2, p3⟩ := p
  have hD3 := e.at p2 loose_lst
  refine ⟨_, hD3, by rw [List.length_map]; exact Paired.length p3, (p1.trans e).put hD hD3 loose_lst, qs ++ [q], by rw [upd_same, List.map_append]; rfl, ?_⟩
  have keep : ∀ {a : Addr} {v : Wd}, IsW H3 a v → IsW (upd H3 D (.lst (qs.map V.ref ++ [V.ref q]))) a v := fun {a v} h => by
    show upd H3 D _ a = _
    rw [upd_ne (ne_of h hD3 (fun z => by cases z))]; exact h
  exact paired_app (paired_mono (fun a v h => keep (IsW.ex e h)) p3) (.cons (keep hq) .nil)
theorem ok_wordsIn {f : Addr} {fd : FuncData} {k : Nat} (F : Fun K "words_in" "words_in" sWordsIn f fd) (mt : mg "tuple" = none) : FnOk P w K mg base CX0 (k + 1) f fd ["terms"] (spWordsIn T) := by
  refine F.ok (k := k) scWordsIn (fun vs H Q E h => ?_) (fun cdv A outer s H vs Q E hr h => ?_)
  · obtain ⟨a, ts, rfl, _⟩ := h
    rfl
  · obtain ⟨a, ts, rfl, ha, hl, q⟩ := h
    have nd := scWordsIn.nd
    refine ⟨_, pss_one (ps_ret (pe_callTy call_tuple_of (by rfl) mt (by decide +kernel) (pa_cons
      (pe_lc (own := [("word", 1), ("many", 2)]) (g := gTup K 2 (gCons (gName 1) (gCons (gName 2) gNil))) (tt := tYes) (by rfl) nd (pi_tup (pv 0)) (blkOk_by (N := ["terms", "word", "many"]) (sc := defScope sWordsIn) (by decide +kernel))
        (fun _ _ _ _ _ => pg_tup rfl (pgs_cons (pg_name (i := 1) nd rfl (.inl rfl)) (pgs_cons (pg_name (i := 2) nd rfl (.inl rfl)) pgs_nil))) (fun _ _ _ _ _ => pts_nil) (fun _ _ _ _ _ => pv 1)) pa_nil))), ?_⟩
    obtain ⟨as, ha1, ha2⟩ := ha
    have la := IsTm.len ha2
    refine ⟨_, rfl, a, rfl, ⟨_, .inl (.inl ha1)⟩, fun D hD => ?_⟩
    refine lc_tup (xs := as.map V.ref) (fun i H3 => WsAt T H D ((ts.take i).map (·.1)) H3) (WsAt.nil hD) (fun i H3 _ p => .inl (.inl (p.1.at ha1 loose_tup))) (fun i x H3 hx p => ?_) (fun H3 p => ?_)
    · obtain ⟨t1, pr, rfl, hp, _, q1, hq1, hq2⟩ := IsTm.nth ha2 hx
      refine ⟨t1, _, rfl, .inl (.inl (p.1.at hq1 loose_tup)), rfl, _, _, rfl, _, _, rfl, rfl, rfl, ?_⟩
      unfold tYes
      refine iteT ⟨_, rfl, ?_⟩
      obtain ⟨acc, a1, a2, a3⟩ := p.add hD (Ex.refl H3) (IsW.ex p.1 hq2)
      refine ⟨acc, a1, ?_, ?_⟩
      · rw [a2, List.length_map, List.length_take, sizeLine_eq]; omega
      · rw [take_snoc hp, List.map_append]; exact a3
    · rw [List.length_map, la, List.take_length] at p
      obtain ⟨p1, qs, p2, p3⟩ := p
      refine ⟨D, _, rfl, .inl ⟨.inl (.inl p2), fun r hr2 => ?_⟩⟩
      have e3 : Ex T H3 (upd H3 r (.tup (qs.map V.ref))) := (Ex.refl H3).new hr2
      exact q _ r (p1.trans e3) ⟨qs, upd_same, paired_mono (fun _ _ => IsW.ex e3) p3⟩
end
end KW

set_option Elab.async false
set_option linter.all false
set_option maxRecDepth 100000
namespace KW
open PySem PySem.Spec PyProof.Rows L2 LamX KR
/-! ### counts -/
theorem cnt_nil (r : Wd) : KM.cnt [] r = 1 := by
  unfold KM.cnt
  cases r.reverse <;> rfl
theorem cnt_empty (u : Wd) (a : Str) : KM.cnt (u ++ [a]) [] = 0 := by
  unfold KM.cnt
  rw [List.reverse_append]; rfl
theorem cnt_snoc (u r : Wd) (a x : Str) : KM.cnt (u ++ [a]) (r ++ [x]) = KM.cnt (u ++ [a]) r + (if a = x then KM.cnt u r else 0) := by
  unfold KM.cnt
  rw [List.reverse_append, List.reverse_append]; rfl
/-- how often the pattern stands in the first j letters, for all j below n -/
def wv (u r : Wd) (n : Nat) : List V := (List.range n).map fun j => V.int (KM.cnt u (r.take j))
theorem wv_len (u r : Wd) (n : Nat) : (wv u r n).length = n := by unfold wv; rw [List.length_map, List.length_range]
theorem wv_get {u r : Wd} {n j : Nat} (h : j < n) : (wv u r n)[j]? = some (.int (KM.cnt u (r.take j))) := by
  unfold wv
  rw [List.getElem?_map, List.getElem?_range h]; rfl
theorem wv_snoc (u r : Wd) (n : Nat) : wv u r (n + 1) = wv u r n ++ [.int (KM.cnt u (r.take n))] := by
  unfold wv
  rw [List.range_succ, List.map_append]; rfl
theorem wv_nil (r : Wd) : ∀ n, wv [] r n = (List.replicate n [V.int 1]).flatten
  | 0 => rfl
  | n + 1 => by
    rw [wv_snoc, wv_nil r n, cnt_nil, List.replicate_succ', List.flatten_append]; rfl
section
variable {P : Program} {w : World} {K : PySem.W.Frag} {mg : Str → Option Value} {base : Heap} {T : List (Addr × Str)}
theorem scCount : FnScope ["pattern", "word", "ways", "letter", "later", "at", "its"] ["pattern", "word"] (defScope sCount) := ⟨rfl, rfl, rfl, by decide +kernel, rfl, by decide +kernel, by decide +kernel⟩
def spCount (T : List (Addr × Str)) : Sp := fun vs H Q _ => ∃ (a b : Addr) (u r : Wd), vs = [.ref a, .ref b] ∧ IsW H a u ∧ IsW H b r ∧ r.length ≤ 1000 ∧ ∀ H', Ex T H H' → Q (.int (KM.cnt u r)) H'
theorem ok_count {f : Addr} {fd : FuncData} {k : Nat} (F : Fun K "_law_count" "_law_count" sCount f fd) (ml : mg "len" = none) (me : mg "enumerate" = none) : FnOk P w K mg base CX0 (k + 1) f fd ["pattern", "word"] (spCount T) := by
  refine F.ok (k := k) scCount (fun vs H Q E h => ?_) (fun cdv A outer s H vs Q E hr h => ?_)
  · obtain ⟨a, b, u, r, rfl, _⟩ := h
    rfl
  · obtain ⟨a, b, u, r, rfl, ha, hb, hl, q⟩ := h
    have nd := scCount.nd
    refine ⟨_, pss_cons (ps_set (i := 2) nd rfl (.inl rfl) (pe_op op_rep (pe_lst (pa_cons pe_int pa_nil)) (pe_op op_add (pe_callB call_len_seq (by rfl) ml PySem.boot_len (pa_cons (pv 1) pa_nil)) pe_int)))
      (pss_cons (ps_for PassesOwn.never rfl (pi_tup (pv 0)) (pg_name (i := 3) nd rfl (.inl rfl))
        (pss_cons (ps_set (i := 4) nd rfl (.inl rfl) (pe_lst (pa_cons pe_int pa_nil)))
        (pss_cons (ps_for PassesOwn.never rfl (pi_enumT (by rfl) me (pa_cons (pv 1) pa_nil)) (pg_tup rfl (pgs_cons (pg_name (i := 5) nd rfl (.inl rfl)) (pgs_cons (pg_name (i := 6) nd rfl (.inl rfl)) pgs_nil)))
          (pss_one (ps_expr (pe_bm PySem.F.plainAttrs_list PySem.F.slot_list_append PySem.F.type_list_append mt_append (pv 4) (pa_cons
            (pe_op op_add (pe_ix ix_list (pv 4) (pe_un un_neg pe_int) (fun _ _ => rfl)) (pe_ifExp (pt_cmpR op_eq (pv 6) (pv 3) (nomark _)) (pe_ix ix_list (pv 2) (pv 5) (fun _ _ => rfl)) pe_int)) pa_nil)))))
        (pss_one (ps_set (i := 2) nd rfl (.inl rfl) (pv 4))))))
      (pss_one (ps_ret (pe_ix ix_list (pv 2) (pe_un un_neg pe_int) (fun _ _ => rfl))))), ?_⟩
    refine ⟨by show 1 ≤ sizeLine; decide, fun o ho => ?_⟩
    have e1 : Ex T H (upd H o (.lst [.int 1])) := (Ex.refl H).new ho
    refine ⟨.ref b, rfl, b, _, rfl, .inr (.inl (.inl (e1.at hb loose_tup))), _, _, rfl, rfl, _, _, _, rfl, rfl, upd_same, ?_, ?_, ?_, fun W hW => ?_⟩
    · rw [List.length_map]; omega
    · rw [List.length_map]; omega
    · rw [List.length_map, sizeLine_eq, List.length_singleton]; omega
    have eW : (List.replicate (((r.map V.str).length : Int) + 1).toNat [V.int 1]).flatten = wv [] r (r.length + 1) := by
      rw [wv_nil, List.length_map]; rfl
    rw [eW]
    refine ⟨.ref a, rfl, a, rfl, ⟨_, .inl (.inl ((e1.new hW).at ha loose_tup))⟩, ?_⟩
    refine for_tup (xs := u.map V.str) (fun i σ H3 => ∃ y3 y4 y5 y6 W, σ = [some (.ref a), some (.ref b), some (.ref W), y3, y4, y5, y6] ∧ Ex T H H3 ∧ H3 W = some (.lst (wv (u.take i) r (r.length + 1))))
      ⟨none, none, none, none, W, rfl, e1.new hW, upd_same⟩ (fun i σ H3 _ p => ?_) (fun i x σ H3 hx p => ?_) (fun σ H3 p => ?_)
    · obtain ⟨y3, y4, y5, y6, W, _, h2, _⟩ := p
      exact .inl (.inl (h2.at ha loose_tup))
    · obtain ⟨y3, y4, y5, y6, W, rfl, h2, h3⟩ := p
      rw [List.getElem?_map] at hx
      obtain ⟨x', hx', rfl⟩ : ∃ x', u[i]? = some x' ∧ x = .str x' := by
        cases z : u[i]? with
        | none => rw [z] at hx; cases hx
        | some y => rw [z] at hx; exact ⟨y, rfl, (Option.some.inj hx).symm⟩
      refine ⟨by show 1 ≤ sizeLine; decide, fun L hL => ?_⟩
      have hb3 : IsW H3 b r := IsW.ex h2 hb
      have e3 : Ex T H3 (upd H3 L (.lst [.int 0])) := (Ex.refl H3).new hL
      have tk : u.take (i + 1) = u.take i ++ [x'] := take_snoc hx'
      refine ⟨.ref b, rfl, b, _, rfl, .inl (.inl (e3.at hb3 loose_tup)), ?_⟩
      refine for_of (n := r.length) (fun j σ H4 => ∃ y5 y6, σ = [some (.ref a), some (.ref b), some (.ref W), some (.str x'), some (.ref L), y5, y6] ∧ Ex T H3 H4 ∧ H4 L = some (.lst (wv (u.take (i + 1)) r (j + 1))))
        ⟨y5, y6, rfl, e3, ?_⟩ (fun j σ H4 hj p => ?_) (fun σ H4 p => ?_) (fun j σ H4 x H5 hj p y => ?_) (fun σ H4 p => ?_)
      · rw [upd_same, tk]
        show some (HO.lst [V.int 0]) = some (.lst [.int (KM.cnt (u.take i ++ [x']) [])])
        rw [cnt_empty]
      · obtain ⟨_, _, _, g2, _⟩ := p
        exact ⟨_, _, .inl (.inl (g2.at hb3 loose_tup)), by rw [List.getElem?_map, List.getElem?_eq_getElem hj]; rfl⟩
      · obtain ⟨_, _, _, g2, _⟩ := p
        exact ⟨_, .inl (.inl (g2.at hb3 loose_tup)), List.length_map _⟩
      · obtain ⟨y5, y6, rfl, g2, g3⟩ := p
        obtain ⟨t, z, rfl, ht, rfl, hz⟩ := y
        have hz' := hz _ (.inl (.inl (g2.at hb3 loose_tup)))
        rw [List.getElem?_map, List.getElem?_eq_getElem hj] at hz'
        obtain rfl : V.str r[j] = z := Option.some.inj hz'
        have e5 : Ex T H4 (upd H4 t (.tup [.int (j : Nat), .str r[j]])) := (Ex.refl H4).new ht
        have hL5 := e5.at g3 loose_lst
        have hW5 := e5.at (g2.at h3 loose_lst) loose_lst
        refine ⟨t, _, rfl, .inl (.inl upd_same), rfl, _, _, rfl, _, _, rfl, rfl, ?_⟩
        refine ⟨.ref L, rfl, .inl ⟨rfl, _, .inl (.inl hL5)⟩, .ref L, rfl, 1, rfl, L, _, -1, .int (KM.cnt (u.take (i + 1)) (r.take j)), rfl, rfl, .inl (.inl hL5), ?_, ?_⟩
        · rw [wv_snoc]; exact atI_last _ _
        have hcnt : KM.cnt (u.take (i + 1)) (r.take (j + 1)) = KM.cnt (u.take (i + 1)) (r.take j) + (if x' = r[j] then KM.cnt (u.take i) (r.take j) else 0) := by
          rw [tk, take_snoc (List.getElem?_eq_getElem hj), cnt_snoc]
        have fin : ∀ z : Int, z = KM.cnt (u.take (i + 1)) (r.take (j + 1)) → ∃ l xs y, V.ref L = .ref l ∧ [V.int z] = [y] ∧ (upd H4 t (.tup [.int (j : Nat), .str r[j]])) l = some (.lst xs) ∧ xs.length < sizeLine ∧
            (∃ y5 y6, [some (V.ref a), some (.ref b), some (.ref W), some (.str x'), some (.ref L), some (.int (j : Nat)), some (.str r[j])] = [some (V.ref a), some (.ref b), some (.ref W), some (.str x'), some (.ref L), y5, y6] ∧ Ex T H3 (upd (upd H4 t (.tup [.int (j : Nat), .str r[j]])) l (.lst (xs ++ [y]))) ∧ (upd (upd H4 t (.tup [.int (j : Nat), .str r[j]])) l (.lst (xs ++ [y]))) L = some (.lst (wv (u.take (i + 1)) r (j + 1 + 1)))) := fun z hz => by
          refine ⟨L, _, _, rfl, rfl, hL5, by rw [wv_len, sizeLine_eq]; omega, _, _, rfl, (g2.trans e5).put hL hL5 loose_lst, ?_⟩
          rw [upd_same, wv_snoc _ _ (j + 1), hz]
        refine ⟨_, rfl, _, rfl, rfl, _, rfl, ite2 (fun e => ?_) (fun e => ?_)⟩
        · have e' : r[j] = x' := V.str.inj (of_decide_eq_true e)
          refine ⟨.ref W, rfl, _, rfl, W, _, _, _, rfl, rfl, .inl (.inl hW5), atI_nat (wv_get (show j < r.length + 1 by omega)), _, _, rfl, rfl, ?_⟩
          exact fin _ (by rw [hcnt, if_pos e'.symm])
        · have e' : ¬ x' = r[j] := fun z => e (decide_eq_true (by rw [z]))
          refine ⟨_, _, rfl, rfl, ?_⟩
          exact fin _ (by rw [hcnt, if_neg e'])
      · obtain ⟨y5, y6, rfl, g2, g3⟩ := p
        exact ⟨.ref L, rfl, _, _, _, _, L, rfl, h2.trans g2, g3⟩
    · obtain ⟨y3, y4, y5, y6, W, rfl, h2, h3⟩ := p
      rw [List.length_map, List.take_length] at h3
      refine ⟨.ref W, rfl, 1, rfl, W, _, -1, .int (KM.cnt u r), rfl, rfl, .inl (.inl h3), ?_, q H3 h2⟩
      rw [wv_snoc, List.take_length]; exact atI_last _ _
end
end KW

set_option Elab.async false
set_option linter.all false
set_option maxRecDepth 100000
namespace KW
open PySem PySem.Spec PyProof.Rows L2 LamX KR
theorem cntR_bound : ∀ (u r : Wd), 0 ≤ KM.cntR u r ∧ KM.cntR u r ≤ 2 ^ r.length
  | [], r => by
    rw [show KM.cntR [] r = 1 by cases r <;> rfl]
    have : (0 : Int) < 2 ^ r.length := Int.pow_pos (by decide)
    omega
  | _ :: _, [] => by simp [KM.cntR]
  | a :: u, x :: r => by
    have h1 := cntR_bound (a :: u) r
    have h2 := cntR_bound u r
    rw [show KM.cntR (a :: u) (x :: r) = KM.cntR (a :: u) r + (if a = x then KM.cntR u r else 0) from rfl, List.length_cons, Int.pow_succ]
    split <;> omega
theorem cnt_bound (u r : Wd) : 0 ≤ KM.cnt u r ∧ KM.cnt u r ≤ 2 ^ r.length := by
  have := cntR_bound u.reverse r.reverse
  rw [List.length_reverse] at this; exact this
theorem cnt_nat (u r : Wd) : (KM.cnt u r).natAbs < 2 ^ (r.length + 1) := by
  obtain ⟨h1, h2⟩ := cnt_bound u r
  have e : ((2 ^ r.length : Nat) : Int) = 2 ^ r.length := by simp
  have hp : 0 < 2 ^ r.length := Nat.two_pow_pos _
  rw [Nat.pow_succ]
  omega
def Nb (n : Nat) (ts : FS) : Prop := ∀ p ∈ ts, p.2.natAbs < 2 ^ n
theorem lin_snoc (f : Wd → Int) (ts : FS) (p : Wd × Int) : KM.lin f (ts ++ [p]) = KM.lin f ts + p.2 * f p.1 := by
  rw [KM.lin_append]
  simp [KM.lin]
theorem lin_sum (f : Wd → Int) : ∀ ts : FS, (ts.map fun p => p.2 * f p.1).sum = KM.lin f ts
  | [] => rfl
  | (u, n) :: r => by rw [List.map_cons, List.sum_cons, lin_sum f r]; rfl
section
variable {P : Program} {w : World} {K : PySem.W.Frag} {mg : Str → Option Value} {base : Heap} {T : List (Addr × Str)}
/-- ints that were made so far -/
def IntsAt (T : List (Addr × Str)) (H0 : Hp) (D : Addr) (ns : List Int) (H : Hp) : Prop := Ex T H0 H ∧ H D = some (.lst (ns.map V.int))
theorem IntsAt.nil {H0 : Hp} {D : Addr} (h : H0 D = none) : IntsAt T H0 D [] (upd H0 D (.lst [])) := ⟨(Ex.refl H0).new h, upd_same⟩
theorem IntsAt.add {H0 H H3 : Hp} {D : Addr} {n : Int} {ns : List Int} (p : IntsAt T H0 D ns H) (hD : H0 D = none) (e : Ex T H H3) :
    ∃ acc, H3 D = some (.lst acc) ∧ acc.length = ns.length ∧ IntsAt T H0 D (ns ++ [n]) (upd H3 D (.lst (acc ++ [.int n]))) := by
  have hD3 := e.at p.2 loose_lst
  exact ⟨_, hD3, List.length_map _, (p.1.trans e).put hD hD3 loose_lst, by rw [upd_same, List.map_append]; rfl⟩
/-! ### _law_worth -/
abbrev CalCount (P : Program) (w : World) (K : PySem.W.Frag) (mg : Str → Option Value) (base : Heap) (T : List (Addr × Str)) := Cal P w K mg base 1 "_law_count" ["pattern", "word"] (spCount T)
theorem scWorth : FnScope ["terms", "row", "word", "often"] ["terms", "row"] (defScope sWorth) := ⟨rfl, rfl, rfl, by decide +kernel, rfl, by decide +kernel, by decide +kernel⟩
def spWorth (T : List (Addr × Str)) : Sp := fun vs H Q _ => ∃ (a b : Addr) (ts : FS) (r : Wd), vs = [.ref a, .ref b] ∧ IsTm H a ts ∧ IsW H b r ∧ r.length ≤ 1000 ∧ ts.length ≤ 1000000 ∧ Nb 5000 ts ∧
  ∀ H', Ex T H H' → Q (.int (KM.lin (fun u => KM.cnt u r) ts)) H'
theorem ok_worth {f : Addr} {fd : FuncData} (F : Fun K "_law_worth" "_law_worth" sWorth f fd) (GC : CalCount P w K mg base T) (ms : mg "sum" = none) : FnOk P w K mg base CX0 2 f fd ["terms", "row"] (spWorth T) := by
  obtain ⟨fC, fdC, FC, mC, kC, bC⟩ := GC
  refine F.ok (k := 1) scWorth (fun vs H Q E h => ?_) (fun cdv A outer s H vs Q E hr h => ?_)
  · obtain ⟨a, b, ts, r, rfl, _⟩ := h
    rfl
  · obtain ⟨a, b, ts, r, rfl, ha, hb, hl, hl2, hB, q⟩ := h
    have nd := scWorth.nd
    refine ⟨_, pss_one (ps_ret (pe_callB (cr_sum rfl) (by rfl) ms (by decide +kernel) (pa_cons
      (pe_lc (own := [("word", 2), ("often", 3)]) (g := gTup K 2 (gCons (gName 2) (gCons (gName 3) gNil))) (tt := tYes) (by rfl) nd (pi_tup (pv 0)) (blkOk_by (N := ["terms", "row", "word", "often"]) (sc := defScope sWorth) (by decide +kernel))
        (fun _ _ _ _ _ => pg_tup rfl (pgs_cons (pg_name (i := 2) nd rfl (.inl rfl)) (pgs_cons (pg_name (i := 3) nd rfl (.inl rfl)) pgs_nil))) (fun _ _ _ _ _ => pts_nil)
        (fun _ _ _ _ _ => pe_op op_mulW (pv 3) (pe_call FC hr (by rfl) mC kC bC .nil pass0 (pa_cons (pv 2) (pa_cons (pv 1) pa_nil))))) pa_nil))), ?_⟩
    obtain ⟨as, ha1, ha2⟩ := ha
    have la := IsTm.len ha2
    refine ⟨_, rfl, a, rfl, ⟨_, .inl (.inl ha1)⟩, fun D hD => ?_⟩
    refine lc_tup (xs := as.map V.ref) (fun i H3 => IntsAt T H D ((ts.take i).map fun p => p.2 * KM.cnt p.1 r) H3) (IntsAt.nil hD) (fun i H3 _ p => .inl (.inl (p.1.at ha1 loose_tup))) (fun i x H3 hx p => ?_) (fun H3 p => ?_)
    · obtain ⟨t1, pr, rfl, hp, _, q1, hq1, hq2⟩ := IsTm.nth ha2 hx
      refine ⟨t1, _, rfl, .inl (.inl (p.1.at hq1 loose_tup)), rfl, _, _, rfl, _, _, rfl, rfl, rfl, ?_⟩
      unfold tYes
      refine iteT ⟨_, rfl, .ref q1, rfl, .ref b, rfl, q1, b, pr.1, r, rfl, IsW.ex p.1 hq2, IsW.ex p.1 hb, hl, fun H4 e4 => ?_⟩
      obtain ⟨acc, a1, a2, a3⟩ := p.add (n := pr.2 * KM.cnt pr.1 r) hD e4
      refine ⟨_, _, rfl, rfl, wide_mul (hB pr (List.mem_of_getElem? hp)) (cnt_nat pr.1 r) (by decide) (by omega) (by omega), acc, a1, ?_, ?_⟩
      · rw [a2, List.length_map, List.length_take, sizeLine_eq]; omega
      · rw [take_snoc hp, List.map_append]; exact a3
    · rw [List.length_map, la, List.take_length] at p
      obtain ⟨p1, p2⟩ := p
      refine ⟨D, _, rfl, .inl (.inl p2), ?_⟩
      rw [show (ts.map fun p => p.2 * KM.cnt p.1 r).sum = KM.lin (fun u => KM.cnt u r) ts from lin_sum (fun u => KM.cnt u r) ts]
      exact q H3 p1
/-! ### terms_at -/
theorem LamGet.ex {H H1 : Hp} {f d cc c' : Addr} {g x qual : Str} {params : Arguments} {body : Expr} {scope : Scope} {pm ctv : Value} {oc : Obj} (e : Ex T H H1) (L : LamGet H f d g x qual params body scope cc c' pm ctv oc) : LamGet H1 f d g x qual params body scope cc c' pm ctv oc :=
  ⟨e.at L.fn loose_frz, e.at L.cell loose_frz, L.val, e.1 _ _ L.code codeO_ne⟩
theorem scTermsAt : FnScope ["terms", "counts", "word", "many"] ["terms", "counts"] (defScope sTermsAt) := ⟨rfl, rfl, rfl, by decide +kernel, rfl, by decide +kernel, by decide +kernel⟩
def spTermsAt (T : List (Addr × Str)) (g x qual : Str) (params : Arguments) (body : Expr) (scope : Scope) : Sp := fun vs H Q _ => ∃ (a f d cc c' : Addr) (pm ctv : Value) (oc : Obj) (ts : FS) (kvs : List (List Key × V)) (gv : Wd → Int), vs = [.ref a, .ref f] ∧ IsTm H a ts ∧
  LamGet H f d g x qual params body scope cc c' pm ctv oc ∧ H d = some (.dT kvs) ∧ (∀ p ∈ ts, valV kvs (encW p.1) = some (.int (gv p.1))) ∧ ts.length ≤ 1000000 ∧ Nb 5000 ts ∧ (∀ p ∈ ts, (gv p.1).natAbs < 2 ^ 5000) ∧ ∀ H', Ex T H H' → Q (.int (KM.lin gv ts)) H'
theorem ok_termsAt {f : Addr} {fd : FuncData} {g x qual : Str} {params : Arguments} {body : Expr} {scope : Scope} (Tx : LamTx g x params body scope) (F : Fun K "terms_at" "terms_at" sTermsAt f fd) (ms : mg "sum" = none) :
    FnOk P w K mg base CX0 2 f fd ["terms", "counts"] (spTermsAt T g x qual params body scope) := by
  refine F.ok (k := 1) scTermsAt (fun vs H Q E h => ?_) (fun cdv A outer s H vs Q E hr h => ?_)
  · obtain ⟨a, f, d, cc, c', pm, ctv, oc, ts, kvs, gv, rfl, _⟩ := h
    rfl
  · obtain ⟨a, fl, d, cc, c', pm, ctv, oc, ts, kvs, gv, rfl, ha, L, hd, hv, hl2, hB, hB2, q⟩ := h
    have nd := scTermsAt.nd
    refine ⟨_, pss_one (ps_ret (pe_callB (cr_sum rfl) (by rfl) ms (by decide +kernel) (pa_cons
      (pe_lc (own := [("word", 2), ("many", 3)]) (g := gTup K 2 (gCons (gName 2) (gCons (gName 3) gNil))) (tt := tYes) (by rfl) nd (pi_tup (pv 0)) (blkOk_by (N := ["terms", "counts", "word", "many"]) (sc := defScope sTermsAt) (by decide +kernel))
        (fun _ _ _ _ _ => pg_tup rfl (pgs_cons (pg_name (i := 2) nd rfl (.inl rfl)) (pgs_cons (pg_name (i := 3) nd rfl (.inl rfl)) pgs_nil))) (fun _ _ _ _ _ => pts_nil)
        (fun _ _ _ _ _ => pe_op op_mulW (pv 3) (pe_lamGet (i := 1) (kn := 0) (qual := qual) hr Tx rfl (by first | exact Or.inl rfl | exact Or.inr (Or.inl rfl) | exact Or.inr (Or.inr rfl)) (pv 2)))) pa_nil))), ?_⟩
    obtain ⟨as, ha1, ha2⟩ := ha
    have la := IsTm.len ha2
    refine ⟨_, rfl, a, rfl, ⟨_, .inl (.inl ha1)⟩, fun D hD => ?_⟩
    refine lc_tup (xs := as.map V.ref) (fun i H3 => IntsAt T H D ((ts.take i).map fun p => p.2 * gv p.1) H3) (IntsAt.nil hD) (fun i H3 _ p => .inl (.inl (p.1.at ha1 loose_tup))) (fun i x H3 hx p => ?_) (fun H3 p => ?_)
    · obtain ⟨t1, pr, rfl, hp, _, q1, hq1, hq2⟩ := IsTm.nth ha2 hx
      have hm := List.mem_of_getElem? hp
      have L3 := LamGet.ex p.1 L
      refine ⟨t1, _, rfl, .inl (.inl (p.1.at hq1 loose_tup)), rfl, _, _, rfl, _, _, rfl, rfl, rfl, ?_⟩
      unfold tYes
      refine iteT ⟨_, rfl, fl, rfl, ⟨_, L3.fn, _, _, _, _, rfl⟩, .ref q1, rfl, d, cc, c', pm, ctv, oc, .int (gv pr.1), L3, .inr ⟨kvs, encW pr.1, q1, .inl (p.1.at hd loose_dT), rfl, IsW.key (IsW.ex p.1 hq2), (hv pr hm).symm⟩, ?_⟩
      obtain ⟨acc, a1, a2, a3⟩ := p.add (n := pr.2 * gv pr.1) hD (Ex.refl H3)
      refine ⟨_, _, rfl, rfl, wide_mul (hB pr hm) (hB2 pr hm) (by decide) (by decide) (by decide), acc, a1, ?_, ?_⟩
      · rw [a2, List.length_map, List.length_take, sizeLine_eq]; omega
      · rw [take_snoc hp, List.map_append]; exact a3
    · rw [List.length_map, la, List.take_length] at p
      obtain ⟨p1, p2⟩ := p
      refine ⟨D, _, rfl, .inl (.inl p2), ?_⟩
      rw [lin_sum]
      exact q H3 p1
/-! ### _law_many_times -/
theorem scManyTimes : FnScope ["number", "many", "found", "turn"] ["number", "many"] (defScope sManyTimes) := ⟨rfl, rfl, rfl, by decide +kernel, rfl, by decide +kernel, by decide +kernel⟩
def spManyTimes : Sp := fun vs H Q _ => ∃ (x : Int) (n : Nat), vs = [.int x, .int (n : Int)] ∧ n ≤ 10 ∧ x.natAbs < 2 ^ 1001 ∧ Q (.int (x ^ n)) H
theorem pow_nat {x : Int} (h : x.natAbs < 2 ^ 1001) : ∀ i : Nat, (x ^ i).natAbs < 2 ^ (1001 * i + 1)
  | 0 => by simp
  | i + 1 => by
    have := wide_lt (pow_nat h i) h
    rw [Int.pow_succ]
    refine Nat.lt_of_lt_of_le this (Nat.pow_le_pow_right (by decide) (by omega))
theorem ok_manyTimes {f : Addr} {fd : FuncData} {k : Nat} (F : Fun K "_law_many_times" "_law_many_times" sManyTimes f fd) (mr : mg "range" = none) : FnOk P w K mg base CX0 (k + 1) f fd ["number", "many"] spManyTimes := by
  refine F.ok (k := k) scManyTimes (fun vs H Q E h => ?_) (fun cdv A outer s H vs Q E hr h => ?_)
  · obtain ⟨x, n, rfl, _⟩ := h
    rfl
  · obtain ⟨x, n, rfl, hn, hx, q⟩ := h
    have nd := scManyTimes.nd
    refine ⟨_, pss_cons (ps_set (i := 2) nd rfl (.inl rfl) pe_int)
      (pss_cons (ps_for PassesOwn.never rfl (pi_range1 rfl mr (pa_cons (pv 1) pa_nil)) (pg_name (i := 3) nd rfl (.inl rfl))
        (pss_one (ps_set (i := 2) nd rfl (.inl rfl) (pe_op op_mulW (pv 2) (pv 0)))))
      (pss_one (ps_ret (pv 2)))), ?_⟩
    refine ⟨_, rfl, (n : Int), rfl, by omega, by omega, ?_⟩
    refine for_range (n := n) (fun i σ H3 => ∃ y3, σ = [some (.int x), some (.int n), some (.int (x ^ i)), y3] ∧ H3 = H) ⟨none, by simp; rfl, rfl⟩ (fun i σ H3 hi p => ?_) (fun σ H3 p => ?_)
    · obtain ⟨y3, rfl, rfl⟩ := p
      refine ⟨_, rfl, _, rfl, _, _, rfl, rfl, wide_mul (pow_nat hx i) hx (by omega) (by decide) (by omega), some (.int (0 + (i : Int))), ?_, rfl⟩
      rw [Int.pow_succ]; rfl
    · obtain ⟨y3, rfl, rfl⟩ := p
      exact ⟨_, rfl, q⟩
end
end KW

set_option Elab.async false
set_option linter.all false
set_option maxRecDepth 100000
namespace KW
open PySem PySem.Spec PyProof.Rows L2 LamX KR
theorem coef_snocs_end (a : Str) (w : Wd) (x : Str) : ∀ l : FS, KM.coef (KM.snocs a l) (w ++ [x]) = if a = x then KM.coef l w else 0
  | [] => by simp [KM.snocs, KM.coef]
  | (u, n) :: r => by
    have ih := coef_snocs_end a w x r
    unfold KM.snocs at ih ⊢
    simp only [List.map_cons, KM.coef, ih]
    by_cases h : a = x
    · subst h
      by_cases h2 : u = w
      · subst h2; simp
      · have : ¬ u ++ [a] = w ++ [a] := fun z => h2 (List.append_cancel_right z)
        simp [h2, this]
    · have : ¬ u ++ [a] = w ++ [x] := fun z => h (by
        have := List.append_inj_right' z rfl
        simpa using this)
      simp [h, this]
theorem coef_snocs_nil (a : Str) : ∀ l : FS, KM.coef (KM.snocs a l) [] = 0
  | [] => rfl
  | (u, n) :: r => by
    have ih := coef_snocs_nil a r
    unfold KM.snocs at ih ⊢
    simp only [List.map_cons, KM.coef, ih]
    simp
theorem coef_snocs_congr (a : Str) {l l' : FS} (h : ∀ w, KM.coef l w = KM.coef l' w) (w : Wd) : KM.coef (KM.snocs a l) w = KM.coef (KM.snocs a l') w := by
  rcases List.eq_nil_or_concat w with e | ⟨w', x, e⟩
  · rw [e, coef_snocs_nil, coef_snocs_nil]
  · rw [e, List.concat_eq_append, coef_snocs_end, coef_snocs_end, h]
theorem Acc.to {m S S' : FS} (h : Acc m S) (hc : ∀ w, KM.coef S w = KM.coef S' w) (hl : S.length ≤ S'.length) : Acc m S' := ⟨h.nd, fun w => (h.co w).trans (hc w), Nat.le_trans h.le hl⟩
theorem FF_nil (v : Wd) : KM.FF [] v = [(v, 1)] := by
  unfold KM.FF
  rw [List.reverse_nil, KM.F_nil, List.reverse_reverse]
theorem FF_nil2 (u : Wd) : KM.FF u [] = [(u, 1)] := by
  unfold KM.FF
  rw [List.reverse_nil, KM.F_nil2, List.reverse_reverse]
theorem FF_snoc (u v : Wd) (a b : Str) : KM.FF (u ++ [a]) (v ++ [b]) = KM.snocs a (KM.FF u (v ++ [b])) ++ (KM.snocs b (KM.FF (u ++ [a]) v) ++ if a = b then KM.snocs a (KM.FF u v) else []) := by
  unfold KM.FF
  rw [List.reverse_append, List.reverse_append]
  exact KM.F_cons a b u.reverse v.reverse
theorem FF_len (u v : Wd) : (KM.FF u v).length ≤ dl u.length v.length := (Sz.FF u v).1
/-- words of at most n letters -/
def Wl (n : Nat) (m : FS) : Prop := ∀ p ∈ m, p.1.length ≤ n
theorem Wl.mono {n k : Nat} {m : FS} (h : Wl n m) (hk : n ≤ k) : Wl k m := fun p hp => Nat.le_trans (h p hp) hk
theorem Wl.nil {n : Nat} : Wl n [] := fun p hp => by cases hp
theorem Wl.add {n : Nat} {m : FS} {u : Wd} {k : Int} (h : Wl n m) (hu : u.length ≤ n) : Wl n (KM.add m u k) := fun p hp => by
  rcases (KM.add_keys m u k p.1).mp (List.mem_map.mpr ⟨p, hp, rfl⟩) with e | e
  · obtain ⟨p', h1, h2⟩ := List.mem_map.mp e
    rw [← h2]; exact h p' h1
  · rw [e]; exact hu
section
variable {T : List (Addr × Str)} {B Hc H : Hp}
theorem upd_back {H : Hp} {d : Addr} {u o : HO} (h : H d = some u) : upd (upd H d o) d u = H := by
  funext b
  by_cases e : b = d
  · rw [e, upd_same, h]
  · rw [upd_ne e, upd_ne e]
theorem Ex.lock {d : Addr} {u : HO} {od : Obj} (e : Ex T B Hc) (h : B d = some u) (lo : Loose u) : Ex T (upd B d (.frz od u)) (upd Hc d (.frz od u)) := by
  refine ⟨fun b o q n => ?_, fun t => ?_⟩
  · by_cases hb : b = d
    · rw [hb] at q ⊢
      rw [upd_same] at q ⊢; exact q
    · rw [upd_ne hb] at q ⊢
      exact e.1 b o q n
  · have t1 := tabs_upd (o' := u) t upd_same loose_frz
    rw [upd_back h] at t1
    exact tabs_upd (e.2 t1) (e.at h lo) lo
/-! ### for word, many in d.items(): added(found, (*word, x), many) -/
abbrev loopTS (K : PySem.W.Frag) (td tx : TE) : TS := tLock (tFor (iItemsT td) (gTup K 2 (gCons (gName 6) (gCons (gName 7) gNil)))
  (tDrop (tCall spAdded [] E0 (tCons (tVar 5) (tCons (tTup (StX.tStar K (tVar 6) (tCons tx tNil))) (tCons (tVar 7) tNil))))))
theorem snoc_loop {K : PySem.W.Frag} {td tx : TE} {D : Ends} {v0 v1 v2 v3 v4 y6 y7 : Option V} {fo ds : Addr} {m0 S0 m1 : FS} {x : Str} (eB : Ex T B Hc) (hfo : Hc fo = some (.dT (encD m0))) (nfo : B fo = none) (hds : B ds = some (.dT (encD m1)))
    {n : Nat} (ac : Acc m0 S0) (aw : Wl (n + 1) m0) (hw : Wl n m1) (hn : n ≤ 10000) (hz : S0.length + m1.length ≤ 1000000) (hn1 : (m1.map (·.1)).Nodup)
    (hd : ∀ od (R : V → Hp → Prop), (∀ H2, Same (upd Hc ds (.frz od (.dT (encD m1)))) H2 → R (.ref ds) H2) → td [v0, v1, v2, v3, v4, some (.ref fo), y6, y7] (upd Hc ds (.frz od (.dT (encD m1)))) R)
    (hx : ∀ od z6 z7 H1 (R : V → Hp → Prop), Ex T (upd B ds (.frz od (.dT (encD m1)))) H1 → R (.str x) H1 → tx [v0, v1, v2, v3, v4, some (.ref fo), z6, z7] H1 R)
    (q : ∀ z6 z7 H1 m, Ex T B H1 → H1 fo = some (.dT (encD m)) → Acc m (S0 ++ KM.snocs x m1) → Wl (n + 1) m → D.nx [v0, v1, v2, v3, v4, some (.ref fo), z6, z7] H1) :
    loopTS K td tx D [v0, v1, v2, v3, v4, some (.ref fo), y6, y7] Hc := by
  have hfd : fo ≠ ds := fun z => by rw [z, hds] at nfo; cases nfo
  refine ⟨ds, .dT (encD m1), eB.at hds loose_dT, True.intro, fun od => ?_⟩
  refine hd od _ fun H2 sm => ⟨ds, od, encD m1, rfl, sm _ _ upd_same, ?_⟩
  have e2 : Ex T (upd B ds (.frz od (.dT (encD m1)))) H2 := (eB.lock hds loose_dT).trans (Ex.same sm)
  have nB : upd B ds (.frz od (.dT (encD m1))) fo = none := by rw [upd_ne hfd]; exact nfo
  refine for_of (n := m1.length) (fun i σ H3 => ∃ z6 z7 m, σ = [v0, v1, v2, v3, v4, some (.ref fo), z6, z7] ∧ Ex T (upd B ds (.frz od (.dT (encD m1)))) H3 ∧ H3 fo = some (.dT (encD m)) ∧ Acc m (S0 ++ KM.snocs x (m1.take i)) ∧ Wl (n + 1) m)
    ⟨y6, y7, m0, rfl, e2, sm _ _ (by rw [upd_ne hfd]; exact hfo), by simpa [KM.snocs] using ac, aw⟩
    (fun i σ H3 hi p => ?_) (fun σ H3 p => ?_) (fun i σ H3 z H4 hi p y => ?_) (fun σ H3 p => ?_)
  · obtain ⟨_, _, _, _, p2, _⟩ := p
    exact ⟨p2.at upd_same loose_frz, by rw [encD_length]; exact hi⟩
  · obtain ⟨_, _, _, _, p2, _⟩ := p
    exact ⟨p2.at upd_same loose_frz, Nat.le_of_eq (encD_length m1)⟩
  · obtain ⟨z6, z7, m, rfl, p2, p3, p4, p5⟩ := p
    obtain ⟨t, k, v, q', hk, rfl, ht, hq', rfl⟩ := y
    obtain ⟨pr, hp, rfl, rfl⟩ := encD_get hk
    have e5 : Ex T H3 (upd H3 t (.tup [.ref q', .int pr.2])) := (Ex.refl H3).new ht
    have hq2 : IsW (upd H3 t (.tup [.ref q', .int pr.2])) q' pr.1 := e5.at (by rw [← encW_kV]; exact hq') loose_tup
    refine ⟨t, _, rfl, .inl (.inl upd_same), rfl, _, _, rfl, _, _, rfl, rfl, ?_⟩
    refine ⟨.ref fo, rfl, .ref q', rfl, q', _, rfl, .inl (.inl (.inl hq2)), hx od _ _ _ _ (p2.trans e5) ⟨?_, fun t2 ht2 => ?_⟩⟩
    · have := hw pr (List.mem_of_getElem? hp)
      rw [List.length_append, List.length_map, sizeLine_eq]
      show pr.1.length + 1 ≤ _
      omega
    · have e6 : Ex T H3 (upd (upd H3 t (.tup [.ref q', .int pr.2])) t2 (.tup ((pr.1.map V.str) ++ [V.str x]))) := e5.new ht2
      have p36 := e6.at p3 loose_dT
      refine ⟨.int pr.2, rfl, fo, t2, m, pr.1 ++ [x], pr.2, rfl, p36, ?_, p4.nd, ?_, ?_⟩
      · show upd _ _ _ _ = _
        rw [upd_same, List.map_append]; rfl
      · have := p4.le
        rw [List.length_append, snocs_len, List.length_take] at this
        rw [sizeLine_eq]; omega
      · refine ⟨_, _, _, rfl, (p2.trans e6).put nB p36 loose_dT, upd_same, ?_⟩
        rw [take_snoc hp]
        have := p4.add (pr.1 ++ [x]) pr.2
        unfold KM.snocs at this ⊢
        rw [List.map_append, ← List.append_assoc]
        refine ⟨this, p5.add ?_⟩
        have := hw pr (List.mem_of_getElem? hp)
        rw [List.length_append]
        show pr.1.length + 1 ≤ _
        omega
  · obtain ⟨z6, z7, m, rfl, p2, p3, p4, p5⟩ := p
    rw [List.take_length] at p4
    obtain ⟨hf, e3⟩ := lock_back hds loose_dT p2
    exact ⟨hf, q z6 z7 _ m e3 (unlock_at hf p3 fun _ _ z => by cases z) p4 p5⟩
end
end KW

set_option Elab.async false
set_option linter.all false
set_option maxRecDepth 100000
namespace KW
open PySem PySem.Spec PyProof.Rows L2 LamX KR
/-! ### the table of products -/
abbrev kIJ (i j : Nat) : List Key := [Sum.inl (i : Int), Sum.inl (j : Int)]
theorem kIJ_inj {i j i' j' : Nat} (h : kIJ i j = kIJ i' j') : i = i' ∧ j = j' := by
  unfold kIJ at h
  simp only [List.cons.injEq, Sum.inl.injEq, and_true] at h
  omega
def Cell (H : Hp) (N : Addr → Prop) (kvs : List (List Key × V)) (u v : Wd) (i j : Nat) : Prop :=
  ∃ d m, valV kvs (kIJ i j) = some (.ref d) ∧ N d ∧ H d = some (.dT (encD m)) ∧ Acc m (KM.FF (u.take i) (v.take j)) ∧ Wl (i + j) m
def Done (H : Hp) (N : Addr → Prop) (kvs : List (List Key × V)) (u v : Wd) (i j : Nat) : Prop := ∀ i' j', j' ≤ v.length → (i' < i ∨ (i' = i ∧ j' < j)) → Cell H N kvs u v i' j'
section
variable {T : List (Addr × Str)} {H H3 H5 : Hp} {tb fo : Addr} {N : Addr → Prop} {kvs : List (List Key × V)} {u v : Wd} {i j : Nat}
theorem Cell.ex (e : Ex T H H3) (c : Cell H N kvs u v i j) : Cell H3 N kvs u v i j := by
  obtain ⟨d, m, h1, h2, h3, h4⟩ := c
  exact ⟨d, m, h1, h2, e.at h3 loose_dT, h4⟩
theorem Done.ex (e : Ex T H H3) (c : Done H N kvs u v i j) : Done H3 N kvs u v i j := fun i' j' a b => (c i' j' a b).ex e
theorem Done.nil : Done H N kvs u v 0 0 := fun i' j' _ b => by omega
theorem Done.row (c : Done H N kvs u v i (v.length + 1)) : Done H N kvs u v (i + 1) 0 := fun i' j' a b => c i' j' a (by omega)
theorem Done.put {m : FS} (c : Done H N kvs u v i j) (hN : ∀ d, N d → d ≠ tb) (e : Ex T H H5) (hf : N fo) (h5 : H5 fo = some (.dT (encD m))) (ac : Acc m (KM.FF (u.take i) (v.take j))) (aw : Wl (i + j) m) :
    Done (upd H5 tb (.dT (putK kvs (kIJ i j) (.ref fo)))) N (putK kvs (kIJ i j) (.ref fo)) u v i (j + 1) := fun i' j' a b => by
  by_cases h : i' = i ∧ j' = j
  · obtain ⟨rfl, rfl⟩ := h
    exact ⟨fo, m, by rw [valV_put, if_pos rfl], hf, by rw [upd_ne (hN _ hf)]; exact h5, ac, aw⟩
  · obtain ⟨d, m', h1, h2, h3, h4⟩ := (c i' j' a (by omega)).ex e
    refine ⟨d, m', ?_, h2, by rw [upd_ne (hN _ h2)]; exact h3, h4⟩
    rw [valV_put, if_neg]
    · exact h1
    · intro z
      exact h (kIJ_inj z)
end
theorem slA_all {K : PySem.W.Frag} {a : Addr} {u : Wd} {n : Nat} {H : Hp} {Q : VK} (ha : IsW H a u) (q : ∀ t H', Same H H' → IsW H' t (u.take n) → Q (.ref t) H') : rSlA K (.ref a) none (some (n : Int)) H Q := by
  have e1 : HT.sIx (u.map V.str).length 0 none = 0 := HT.sIx_none _ _
  have e2 : HT.sIx (u.map V.str).length (u.map V.str).length (some (n : Int)) = min n u.length := by rw [HT.sIx_nat, List.length_map]
  refine ⟨a, _, rfl, .inl (.inl ha), fun h => ?_, fun h p hp => ?_⟩
  · refine q a H (Same.refl H) ?_
    rw [e2, List.length_map] at h
    rw [List.take_of_length_le (by omega)]; exact ha
  · refine q p _ (fun c o e => by rw [upd_ne (ne_of_none e hp)]; exact e) ?_
    show upd H p _ p = _
    rw [upd_same]
    unfold cutV
    rw [e1, e2, List.drop_zero, List.map_take, Nat.sub_zero]
    congr 2
    by_cases h : n ≤ u.length
    · rw [Nat.min_eq_left h]
    · rw [Nat.min_eq_right (by omega), List.take_of_length_le (by rw [List.length_map]; omega), List.take_of_length_le (by rw [List.length_map]; omega)]
section
variable {P : Program} {w : World} {K : PySem.W.Frag} {mg : Str → Option Value} {base : Heap} {T : List (Addr × Str)}
/-- table[first, second] = found -/
theorem put_cell {D : Ends} {v0 v1 : Option V} {rest : List (Option V)} {H H3 H5 : Hp} {tb fo : Addr} {kvs : List (List Key × V)} {u v : Wd} {i j : Nat} {m : FS} {N : Addr → Prop} (hN : ∀ d, N d → d ≠ tb) (h2 : Ex T H H3) (htb : H tb = none) (h4 : kvs.length ≤ 100000) (h5 : Done H3 N kvs u v i j) (e5 : Ex T H3 H5)
    (g3 : H5 tb = some (.dT kvs)) (hf : N fo) (gf : H5 fo = some (.dT (encD m))) (ac : Acc m (KM.FF (u.take i) (v.take j))) (aw : Wl (i + j) m)
    (q : ∀ H6 kvs', Ex T H H6 → H6 tb = some (.dT kvs') → kvs'.length ≤ kvs.length + 1 → Done H6 N kvs' u v i (j + 1) → D.nx (v0 :: v1 :: some (.ref tb) :: some (.int (i : Nat)) :: some (.int (j : Nat)) :: some (.ref fo) :: rest) H6) :
    sDPut (tVar 2) (tTup (tCons (tVar 3) (tCons (tVar 4) tNil))) (tVar 5) D (v0 :: v1 :: some (.ref tb) :: some (.int (i : Nat)) :: some (.int (j : Nat)) :: some (.ref fo) :: rest) H5 := by
  refine ⟨_, rfl, _, rfl, _, rfl, _, rfl, by show 2 ≤ sizeLine; decide, fun kt hkt => ⟨tb, _, rfl, .t (kvs := kvs) (k := kIJ i j) ?_ upd_same ?_, ?_⟩⟩
  · rw [upd_ne (ne_of_none g3 hkt)]; exact g3
  · rw [sizeLine_eq]; omega
  · have e6 : Ex T H3 (upd H5 kt (.tup ((kIJ i j).map kV))) := e5.new hkt
    have g6 : upd H5 kt (.tup ((kIJ i j).map kV)) tb = some (.dT kvs) := by rw [upd_ne (ne_of_none g3 hkt)]; exact g3
    have f6 : upd H5 kt (.tup ((kIJ i j).map kV)) fo = some (.dT (encD m)) := by rw [upd_ne (ne_of_none gf hkt)]; exact gf
    exact q _ _ ((h2.trans e6).put htb g6 loose_dT) upd_same (length_putK _ _ _) (h5.put hN e6 hf f6 ac aw)
/-- table[.., ..] -/
theorem tab_read {tk : TA} {v0 v1 : Option V} {rest : List (Option V)} {Hx : Hp} {tb ds : Addr} {kvs : List (List Key × V)} {i j : Nat} {R : V → Hp → Prop} (htb : Hx tb = some (.dT kvs)) (hv : valV kvs (kIJ i j) = some (.ref ds))
    (hk : ∀ R0 : List V → Hp → Prop, R0 [.int (i : Nat), .int (j : Nat)] Hx → tk (v0 :: v1 :: some (.ref tb) :: rest) Hx R0) (hR : ∀ H2, Same Hx H2 → R (.ref ds) H2) : tDGet (tVar 2) (tTup tk) (v0 :: v1 :: some (.ref tb) :: rest) Hx R := by
  refine ⟨_, rfl, hk _ ⟨by show 2 ≤ sizeLine; decide, fun kt hkt => ⟨tb, _, rfl, .inr ⟨kvs, kIJ i j, kt, .inl (by rw [upd_ne (ne_of_none htb hkt)]; exact htb), rfl, upd_same, hv.symm⟩, ?_⟩⟩⟩
  exact hR _ fun c o e => by rw [upd_ne (ne_of_none e hkt)]; exact e
theorem word_at {K : PySem.W.Frag} {a : Addr} {u : Wd} {H : Hp} {i : Nat} (hi : i < u.length) (h : IsW H a u) (R : V → Hp → Prop) (q : R (.str u[i]) H) : rIxT K (.ref a) (.int (i : Nat)) H R :=
  ⟨a, _, _, .str u[i], rfl, rfl, .inl (.inl h), atI_nat (by rw [List.getElem?_map, List.getElem?_eq_getElem hi]; rfl), q⟩
theorem pred_int (i : Nat) : ((i + 1 : Nat) : Int) - 1 = (i : Nat) := by omega
theorem join_acc {m m1 m2 m3 : FS} {p q : Wd} {x y : Str} (a1 : Acc m1 (KM.FF p (q ++ [y]))) (a2 : Acc m2 (KM.FF (p ++ [x]) q)) (a3 : Acc m3 (KM.FF p q)) (h : Acc m (KM.snocs x m1 ++ (KM.snocs y m2 ++ if x = y then KM.snocs x m3 else []))) : Acc m (KM.FF (p ++ [x]) (q ++ [y])) := by
  rw [FF_snoc]
  refine h.to (fun w => ?_) ?_
  · rw [KM.coef_append, KM.coef_append, KM.coef_append, KM.coef_append, coef_snocs_congr x a1.co, coef_snocs_congr y a2.co]
    split
    · rw [coef_snocs_congr x a3.co]
    · rfl
  · have := a1.le
    have := a2.le
    have := a3.le
    simp only [List.length_append, snocs_len]
    split
    · simp only [snocs_len]; omega
    · simp only [List.length_nil]; omega
theorem dl_cell {u v : Wd} {i j : Nat} {m : FS} (h : Acc m (KM.FF (u.take i) (v.take j))) (hi : i ≤ u.length) (hj : j ≤ v.length) : m.length ≤ dl i j := by
  have h1 := h.le
  have h2 := FF_len (u.take i) (v.take j)
  rw [List.length_take, List.length_take, Nat.min_eq_left hi, Nat.min_eq_left hj] at h2
  omega
theorem scProductOf : FnScope ["one", "other", "table", "first", "second", "found", "word", "many"] ["one", "other"] (defScope sProductOf) := ⟨rfl, rfl, rfl, by decide +kernel, rfl, by decide +kernel, by decide +kernel⟩
def spProductOf (T : List (Addr × Str)) : Sp := fun vs H Q _ => ∃ (a b : Addr) (u v : Wd), vs = [.ref a, .ref b] ∧ IsW H a u ∧ IsW H b v ∧ u.length ≤ 100 ∧ v.length ≤ 100 ∧ dl u.length v.length ≤ 1000000 ∧ Tabs T H ∧
  ∀ H' r, Ex T H H' → IsTm H' r (KM.terms wle (KM.FF u v)) → Q (.ref r) H'
theorem ok_productOf {f : Addr} {fd : FuncData} (F : Fun K "product_of" "product_of" sProductOf f fd) (GA : CalAdded P w K mg base) (GT : CalAsTerms P w K mg base T) (ml : mg "len" = none) (mr : mg "range" = none) :
    FnOk P w K mg base CX0 3 f fd ["one", "other"] (spProductOf T) := by
  obtain ⟨fA, fdA, FA, mA, kA, bA⟩ := GA
  obtain ⟨fT, fdT, FT, mT, kT, bT⟩ := GT
  refine F.ok (k := 2) scProductOf (fun vs H Q E h => ?_) (fun cdv A outer s H vs Q E hr h => ?_)
  · obtain ⟨a, b, u, v, rfl, _⟩ := h
    rfl
  · obtain ⟨a, b, u, v, rfl, ha, hb, hu1, hv1, hdl, hTb, q⟩ := h
    have nd := scProductOf.nd
    have hu := hu_of hr
    have hr1 := hr.mono (show 1 ≤ 2 by decide)
    refine ⟨_, pss_cons (ps_set (i := 2) nd rfl (.inl rfl) pe_dnewT)
      (pss_cons (ps_for PassesOwn.never rfl (pi_range1 rfl mr (pa_cons (pe_op op_add (pe_callB call_len_seq (by rfl) ml PySem.boot_len (pa_cons (pv 0) pa_nil)) pe_int) pa_nil)) (pg_name (i := 3) nd rfl (.inl rfl))
        (pss_one (ps_for PassesOwn.never rfl (pi_range1 rfl mr (pa_cons (pe_op op_add (pe_callB call_len_seq (by rfl) ml PySem.boot_len (pa_cons (pv 1) pa_nil)) pe_int) pa_nil)) (pg_name (i := 4) nd rfl (.inl rfl))
          (pss_cons (ps_set (i := 5) nd rfl (.inl rfl) pe_dnewT)
          (pss_cons (ps_if (PW.pt (pw_or (pt_cmpR op_eq (pv 3) pe_int (nomark _)) (pw_or1 (pt_cmpR op_eq (pv 4) pe_int (nomark _)))))
            (pss_one (ps_expr (pe_call FA hr1 (by rfl) mA kA bA .nil pass0 (pa_cons (pv 5) (pa_cons (pe_tup (StX.pa_star (pe_slice sl_tupA (pv 0) po_none (po_some (pv 3))) (StX.pa_star (pe_slice sl_tupA (pv 1) po_none (po_some (pv 4))) pa_nil))) (pa_cons pe_int pa_nil))))))
            (pss_cons (ps_lock (ps_for PassesOwn.never rfl (pi_itemsT (pe_dget hu (pv 2) (pe_tup (pa_cons (pe_op op_sub (pv 3) pe_int) (pa_cons (pv 4) pa_nil))) (fun _ _ => rfl))) (pg_tup rfl (pgs_cons (pg_name (i := 6) nd rfl (.inl rfl)) (pgs_cons (pg_name (i := 7) nd rfl (.inl rfl)) pgs_nil)))
              (pss_one (ps_expr (pe_call FA hr1 (by rfl) mA kA bA .nil pass0 (pa_cons (pv 5) (pa_cons (pe_tup (StX.pa_star (pv 6) (pa_cons (pe_ix ix_tup (pv 0) (pe_op op_sub (pv 3) pe_int) (fun _ _ => rfl)) pa_nil))) (pa_cons (pv 7) pa_nil))))))))
            (pss_cons (ps_lock (ps_for PassesOwn.never rfl (pi_itemsT (pe_dget hu (pv 2) (pe_tup (pa_cons (pv 3) (pa_cons (pe_op op_sub (pv 4) pe_int) pa_nil))) (fun _ _ => rfl))) (pg_tup rfl (pgs_cons (pg_name (i := 6) nd rfl (.inl rfl)) (pgs_cons (pg_name (i := 7) nd rfl (.inl rfl)) pgs_nil)))
              (pss_one (ps_expr (pe_call FA hr1 (by rfl) mA kA bA .nil pass0 (pa_cons (pv 5) (pa_cons (pe_tup (StX.pa_star (pv 6) (pa_cons (pe_ix ix_tup (pv 1) (pe_op op_sub (pv 4) pe_int) (fun _ _ => rfl)) pa_nil))) (pa_cons (pv 7) pa_nil))))))))
            (pss_one (ps_if (pt_cmpR op_eq (pe_ix ix_tup (pv 0) (pe_op op_sub (pv 3) pe_int) (fun _ _ => rfl)) (pe_ix ix_tup (pv 1) (pe_op op_sub (pv 4) pe_int) (fun _ _ => rfl)) (nomark _))
              (pss_one (ps_lock (ps_for PassesOwn.never rfl (pi_itemsT (pe_dget hu (pv 2) (pe_tup (pa_cons (pe_op op_sub (pv 3) pe_int) (pa_cons (pe_op op_sub (pv 4) pe_int) pa_nil))) (fun _ _ => rfl))) (pg_tup rfl (pgs_cons (pg_name (i := 6) nd rfl (.inl rfl)) (pgs_cons (pg_name (i := 7) nd rfl (.inl rfl)) pgs_nil)))
                (pss_one (ps_expr (pe_call FA hr1 (by rfl) mA kA bA .nil pass0 (pa_cons (pv 5) (pa_cons (pe_tup (StX.pa_star (pv 6) (pa_cons (pe_ix ix_tup (pv 0) (pe_op op_sub (pv 3) pe_int) (fun _ _ => rfl)) pa_nil))) (pa_cons (pv 7) pa_nil))))))))) pss_nil)))))
          (pss_one (ps_dput hu (pv 2) (pe_tup (pa_cons (pv 3) (pa_cons (pv 4) pa_nil))) (pv 5) rfl)))))))
      (pss_one (ps_ret (pe_call FT hr (by rfl) mT kT bT .nil pass0 (pa_cons (pe_dget hu (pv 2) (pe_tup (pa_cons (pe_callB call_len_seq (by rfl) ml PySem.boot_len (pa_cons (pv 0) pa_nil)) (pa_cons (pe_callB call_len_seq (by rfl) ml PySem.boot_len (pa_cons (pv 1) pa_nil)) pa_nil))) (fun _ _ => rfl)) pa_nil))))), ?_⟩
    intro tb htb
    have e1 : Ex T H (upd H tb (.dT [])) := (Ex.refl H).new htb
    refine ⟨.ref a, rfl, a, _, rfl, .inr (.inl (.inl (e1.at ha loose_tup))), _, _, rfl, rfl, _, rfl, ?_, ?_, ?_⟩
    · rw [List.length_map]; omega
    · rw [List.length_map]; omega
    rw [show (((u.map V.str).length : Int) + 1).toNat = u.length + 1 by rw [List.length_map]; omega]
    refine for_range (n := u.length + 1) (fun i σ H3 => ∃ y3 y4 y5 y6 y7 kvs, σ = [some (.ref a), some (.ref b), some (.ref tb), y3, y4, y5, y6, y7] ∧ Ex T H H3 ∧ H3 tb = some (.dT kvs) ∧ kvs.length ≤ i * (v.length + 1) ∧ Done H3 (· ≠ tb) kvs u v i 0)
      ⟨none, none, none, none, none, [], rfl, e1, upd_same, Nat.zero_le _, Done.nil⟩ (fun i σ H3 hi p => ?_) (fun σ H3 p => ?_)
    · obtain ⟨y3, y4, y5, y6, y7, kvs, rfl, h2, h3, h4, h5⟩ := p
      refine ⟨.ref b, rfl, b, _, rfl, .inr (.inl (.inl (h2.at hb loose_tup))), _, _, rfl, rfl, _, rfl, ?_, ?_, ?_⟩
      · rw [List.length_map]; omega
      · rw [List.length_map]; omega
      rw [show (((v.map V.str).length : Int) + 1).toNat = v.length + 1 by rw [List.length_map]; omega]
      refine for_range (n := v.length + 1) (fun j σ H3 => ∃ y4 y5 y6 y7 kvs, σ = [some (.ref a), some (.ref b), some (.ref tb), some (.int (i : Nat)), y4, y5, y6, y7] ∧ Ex T H H3 ∧ H3 tb = some (.dT kvs) ∧ kvs.length ≤ i * (v.length + 1) + j ∧ Done H3 (· ≠ tb) kvs u v i j)
        ⟨y4, y5, y6, y7, kvs, by rw [Int.zero_add]; rfl, h2, h3, h4, h5⟩ (fun j σ H3 hj p => ?_) (fun σ H3 p => ?_)
      · obtain ⟨y4, y5, y6, y7, kvs, rfl, h2, h3, h4, h5⟩ := p
        rw [show (V.int (0 + (j : Int))) = .int (j : Nat) by rw [Int.zero_add]]
        intro fo hfo
        have hft : fo ≠ tb := fun z => by rw [z, h3] at hfo; cases hfo
        have ef : Ex T H3 (upd H3 fo (.dT [])) := (Ex.refl H3).new hfo
        have gt : upd H3 fo (.dT []) tb = some (.dT kvs) := ef.at h3 loose_dT
        have hk5 : kvs.length ≤ 100000 := by
          have h6 : i * (v.length + 1) ≤ 100 * 101 := Nat.mul_le_mul (by omega) (by omega)
          omega
        have ha3 : IsW H3 a u := IsW.ex h2 ha
        have hb3 : IsW H3 b v := IsW.ex h2 hb
        have fin : ∀ (D : Ends) z6 z7 H5 m, (∀ σ' H', D.nx σ' H' = ∃ y4 y5 y6 y7 kvs, σ' = [some (.ref a), some (.ref b), some (.ref tb), some (.int (i : Nat)), y4, y5, y6, y7] ∧ Ex T H H' ∧ H' tb = some (.dT kvs) ∧ kvs.length ≤ i * (v.length + 1) + (j + 1) ∧ Done H' (· ≠ tb) kvs u v i (j + 1)) →
            Ex T H3 H5 → H5 fo = some (.dT (encD m)) → Acc m (KM.FF (u.take i) (v.take j)) → Wl (i + j) m →
            sDPut (tVar 2) (tTup (tCons (tVar 3) (tCons (tVar 4) tNil))) (tVar 5) D [some (.ref a), some (.ref b), some (.ref tb), some (.int (i : Nat)), some (.int (j : Nat)), some (.ref fo), z6, z7] H5 := fun D z6 z7 H5 m hD e5 gf ac aw => by
          refine put_cell (N := (· ≠ tb)) (fun _ h => h) h2 htb hk5 h5 e5 (e5.at h3 loose_dT) hft gf ac aw fun H6 kvs' a1 a2 a3 a4 => ?_
          rw [hD]
          exact ⟨_, _, _, _, kvs', rfl, a1, a2, by omega, a4⟩
        have edge : (i = 0 ∨ j = 0) → KM.FF (u.take i) (v.take j) = [(u.take i ++ v.take j, 1)] := fun h => by
          rcases h with h | h
          · subst h
            rw [List.take_zero, FF_nil]; rfl
          · subst h
            rw [List.take_zero, FF_nil2, List.append_nil]
        have easy : ∀ (D : Ends), (∀ σ' H', D.nx σ' H' = ∃ y4 y5 y6 y7 kvs, σ' = [some (.ref a), some (.ref b), some (.ref tb), some (.int (i : Nat)), y4, y5, y6, y7] ∧ Ex T H H' ∧ H' tb = some (.dT kvs) ∧ kvs.length ≤ i * (v.length + 1) + (j + 1) ∧ Done H' (· ≠ tb) kvs u v i (j + 1)) → (i = 0 ∨ j = 0) →
            tDrop (tCall spAdded [] E0 (tCons (tVar 5) (tCons (tTup (StX.tStar K (tSl (rSlA K) (tVar 0) tNoPart (tPart (tVar 3))) (StX.tStar K (tSl (rSlA K) (tVar 1) tNoPart (tPart (tVar 4))) tNil))) (tCons (tC (V.int 1)) tNil))))
              { D with nx := sDPut (tVar 2) (tTup (tCons (tVar 3) (tCons (tVar 4) tNil))) (tVar 5) D } [some (.ref a), some (.ref b), some (.ref tb), some (.int (i : Nat)), some (.int (j : Nat)), some (.ref fo), y6, y7] (upd H3 fo (.dT [])) := fun D hD hij => by
          refine ⟨.ref fo, rfl, .ref a, rfl, _, rfl, (i : Int), rfl, slA_all (n := i) (IsW.ex ef ha3) fun t1 H6 s6 ht1 => ⟨t1, _, rfl, .inl (.inl (.inl ht1)), .ref b, rfl, _, rfl, (j : Int), rfl, slA_all (n := j) (IsW.ex (ef.trans (Ex.same s6)) hb3) fun t2 H7 s7 ht2 => ⟨t2, _, rfl, .inl (.inl (.inl ht2)), ?_, fun kt hkt => ?_⟩⟩⟩
          · simp only [List.length_append, List.length_map, List.length_nil, List.length_take]
            rw [sizeLine_eq]; omega
          · have e7 : Ex T H3 H7 := (ef.trans (Ex.same s6)).trans (Ex.same s7)
            have e8 : Ex T H3 (upd H7 kt (.tup ((u.take i).map V.str ++ ((v.take j).map V.str ++ [])))) := e7.new hkt
            have f7 : H7 fo = some (.dT []) := s7 _ _ (s6 _ _ upd_same)
            have f8 : upd H7 kt (.tup ((u.take i).map V.str ++ ((v.take j).map V.str ++ []))) fo = some (.dT (encD [])) := by
              rw [upd_ne (ne_of_none f7 hkt)]; exact f7
            refine ⟨fo, kt, [], u.take i ++ v.take j, 1, rfl, f8, ?_, List.Pairwise.nil, by show 0 < sizeLine; decide, ?_⟩
            · show upd _ _ _ _ = _
              rw [upd_same, List.append_nil, List.map_append]
            · refine fin D _ _ _ _ hD (e8.put hfo f8 loose_dT) upd_same ?_ ?_
              · rw [edge hij]
                exact Acc.nil.add _ _
              · refine Wl.nil.add ?_
                rw [List.length_append, List.length_take, List.length_take]; omega
        refine ⟨_, rfl, rfl, _, rfl, ite2 (fun e => ?_) (fun e => ⟨_, rfl, rfl, _, rfl, ite2 (fun e2 => ?_) (fun e2 => ?_)⟩)⟩
        · have e := V.int.inj (of_decide_eq_true e)
          refine easy _ ?_ (.inl (by omega))
          exact fun _ _ => rfl
        · have e2 := V.int.inj (of_decide_eq_true e2)
          refine easy _ ?_ (.inr (by omega))
          exact fun _ _ => rfl
        · have e : i ≠ 0 := fun z => e (by rw [z]; exact decide_eq_true rfl)
          have e2 : j ≠ 0 := fun z => e2 (by rw [z]; exact decide_eq_true rfl)
          obtain ⟨i, rfl⟩ : ∃ i', i = i' + 1 := ⟨i - 1, by omega⟩
          obtain ⟨j, rfl⟩ : ∃ j', j = j' + 1 := ⟨j - 1, by omega⟩
          have hiu : i < u.length := by omega
          have hjv : j < v.length := by omega
          obtain ⟨d1, m1, c1, n1, g1, a1, w1⟩ := h5 i (j + 1) (by omega) (.inl (by omega))
          obtain ⟨d2, m2, c2, n2, g2, a2, w2⟩ := h5 (i + 1) j (by omega) (.inr ⟨rfl, by omega⟩)
          obtain ⟨d3, m3, c3, n3, g3, a3, w3⟩ := h5 i j (by omega) (.inl (by omega))
          have z1 := dl_cell a1 (by omega) (by omega)
          have z2 := dl_cell a2 (by omega) (by omega)
          have z3 := dl_cell a3 (by omega) (by omega)
          have zz := dl_mono (a := i + 1) (b := j + 1) (c := u.length) (d := v.length) (by omega) (by omega)
          rw [show dl (i + 1) (j + 1) = dl i (j + 1) + dl (i + 1) j + dl i j from by rw [dl]] at zz
          have tu : u.take (i + 1) = u.take i ++ [u[i]] := take_snoc (List.getElem?_eq_getElem hiu)
          have tv : v.take (j + 1) = v.take j ++ [v[j]] := take_snoc (List.getElem?_eq_getElem hjv)
          have wa : ∀ {ds : Addr} {od : Obj} {mm : FS} {H1 : Hp} {c : Addr} {x : Wd}, H3 ds = some (.dT (encD mm)) → Ex T (upd H3 ds (.frz od (.dT (encD mm)))) H1 → IsW H3 c x → IsW H1 c x := fun hds e hc => by
            refine IsW.ex e ?_
            show upd H3 _ _ _ = _
            rw [upd_ne (ne_of hc hds (fun z => by cases z))]; exact hc
          have gtb : ∀ {ds : Addr} {od : Obj} {mm : FS} {Hc : Hp}, Ex T H3 Hc → ds ≠ tb → upd Hc ds (.frz od (.dT (encD mm))) tb = some (.dT kvs) := fun e n => by
            rw [upd_ne (Ne.symm n)]; exact e.at h3 loose_dT
          refine snoc_loop (B := H3) (n := i + (j + 1)) (x := u[i]) (S0 := []) (m0 := []) ef upd_same hfo g1 Acc.nil Wl.nil w1 (by omega) (by simp only [List.length_nil]; omega) a1.nd
            (fun od R hR => tab_read (kvs := kvs) (i := i) (j := j + 1) (gtb ef n1) c1 (fun R0 h0 => ⟨_, rfl, _, _, rfl, rfl, _, rfl, by show R0 [.int (((i + 1 : Nat) : Int) - 1), _] _; rw [pred_int]; exact h0⟩) hR)
            (fun od z6 z7 H1 R e q => ⟨_, rfl, _, rfl, _, _, rfl, rfl, by show rIxT K _ (.int (((i + 1 : Nat) : Int) - 1)) H1 R; rw [pred_int]; exact word_at hiu (wa g1 e ha3) R q⟩) (fun z6 z7 H6 m6 e6 f6 ac6 aw6 => ?_)
          refine snoc_loop (B := H3) (n := i + 1 + j) (x := v[j]) e6 f6 hfo g2 ac6 (aw6.mono (by omega)) w2 (by omega) (by simp only [List.length_append, List.length_nil, snocs_len]; omega) a2.nd
            (fun od R hR => tab_read (kvs := kvs) (i := i + 1) (j := j) (gtb e6 n2) c2 (fun R0 h0 => ⟨_, rfl, _, rfl, _, _, rfl, rfl, by show R0 [_, .int (((j + 1 : Nat) : Int) - 1)] _; rw [pred_int]; exact h0⟩) hR)
            (fun od z6 z7 H1 R e q => ⟨_, rfl, _, rfl, _, _, rfl, rfl, by show rIxT K _ (.int (((j + 1 : Nat) : Int) - 1)) H1 R; rw [pred_int]; exact word_at hjv (wa g2 e hb3) R q⟩) (fun z6' z7' H7 m7 e7 f7 ac7 aw7 => ?_)
          have rd1 : ∀ (R : V → Hp → Prop), R (.str u[i]) H7 → rIxT K (.ref a) (.int (((i + 1 : Nat) : Int) - 1)) H7 R := fun R q => by rw [pred_int]; exact word_at hiu (IsW.ex e7 ha3) R q
          have rd2 : ∀ (R : V → Hp → Prop), R (.str v[j]) H7 → rIxT K (.ref b) (.int (((j + 1 : Nat) : Int) - 1)) H7 R := fun R q => by rw [pred_int]; exact word_at hjv (IsW.ex e7 hb3) R q
          refine ⟨_, rfl, _, rfl, _, _, rfl, rfl, rd1 _ ⟨_, rfl, _, rfl, _, _, rfl, rfl, rd2 _ ⟨rfl, _, rfl, ite2 (fun e => ?_) (fun e => ?_)⟩⟩⟩
          · have e : u[i] = v[j] := V.str.inj (of_decide_eq_true e)
            refine snoc_loop (B := H3) (n := i + 1 + j) (x := u[i]) e7 f7 hfo g3 ac7 (aw7.mono (by omega)) (w3.mono (by omega)) (by omega) (by simp only [List.length_append, List.length_nil, snocs_len]; omega) a3.nd
              (fun od R hR => tab_read (kvs := kvs) (i := i) (j := j) (gtb e7 n3) c3 (fun R0 h0 => ⟨_, rfl, _, _, rfl, rfl, _, rfl, _, _, rfl, rfl, by show R0 [.int (((i + 1 : Nat) : Int) - 1), .int (((j + 1 : Nat) : Int) - 1)] _; rw [pred_int, pred_int]; exact h0⟩) hR)
              (fun od z6 z7 H1 R e q => ⟨_, rfl, _, rfl, _, _, rfl, rfl, by show rIxT K _ (.int (((i + 1 : Nat) : Int) - 1)) H1 R; rw [pred_int]; exact word_at hiu (wa g3 e ha3) R q⟩) (fun z6'' z7'' H8 m8 e8 f8 ac8 aw8 => ?_)
            refine fin _ _ _ _ m8 ?_ e8 f8 ?_ (aw8.mono (by omega))
            · exact fun _ _ => rfl
            · rw [tu, tv]
              rw [tu] at a2
              rw [tv] at a1
              refine join_acc a1 a2 a3 ?_
              rw [if_pos e, ← List.append_assoc]
              exact ac8
          · have e : ¬ u[i] = v[j] := fun z => e (decide_eq_true (by rw [z]))
            refine fin _ _ _ _ m7 ?_ e7 f7 ?_ (aw7.mono (by omega))
            · exact fun _ _ => rfl
            · rw [tu, tv]
              rw [tu] at a2
              rw [tv] at a1
              refine join_acc a1 a2 a3 ?_
              rw [if_neg e, List.append_nil]
              exact ac7
      · obtain ⟨y4, y5, y6, y7, kvs, rfl, h2, h3, h4, h5⟩ := p
        refine ⟨_, _, _, _, _, kvs, rfl, h2, h3, ?_, h5.row⟩
        rw [Nat.succ_mul]; exact h4
    · obtain ⟨y3, y4, y5, y6, y7, kvs, rfl, h2, h3, h4, h5⟩ := p
      obtain ⟨d, m, c1, n1, g1, a1, w1⟩ := h5 u.length v.length (Nat.le_refl _) (.inl (by omega))
      rw [List.take_length, List.take_length] at a1
      refine tab_read (kvs := kvs) (i := u.length) (j := v.length) h3 c1 (fun R0 h0 => ?_) (fun H4 sm => ?_)
      · refine ⟨.ref a, rfl, a, _, rfl, .inr (.inl (.inl (h2.at ha loose_tup))), .ref b, rfl, b, _, rfl, .inr (.inl (.inl (h2.at hb loose_tup))), ?_⟩
        rw [List.length_map, List.length_map]
        exact h0
      · have e4 : Ex T H H4 := h2.trans (Ex.same sm)
        refine ⟨d, m, rfl, sm _ _ g1, a1.nd, ?_, e4.tabs hTb, fun H5 r e5 hr5 => q H5 r (e4.trans e5) ?_⟩
        · have := a1.le
          have := FF_len u v
          omega
        · rw [← a1.terms]; exact hr5
end
end KW

set_option Elab.async false
set_option linter.all false
set_option maxRecDepth 100000
namespace KW
open PySem PySem.Spec PyProof.Rows L2 LamX KR
section
variable {P : Program} {w : World} {K : PySem.W.Frag} {mg : Str → Option Value} {base : Heap} {T : List (Addr × Str)}
/-- ways.append((table[.., ..], x)) -/
theorem app_way {K : PySem.W.Frag} {tk : TA} {tx : TE} {D : Ends} {v0 v1 v3 v4 v5 : Option V} {rest : List (Option V)} {B H5 : Hp} {tb wl d : Addr} {kvs : List (List Key × V)} {i j : Nat} {x : Str} {xs : List V} (eB : Ex T B H5) (nw : B wl = none)
    (htb : H5 tb = some (.dT kvs)) (hv : valV kvs (kIJ i j) = some (.ref d)) (hw : H5 wl = some (.lst xs)) (hl : xs.length < 10)
    (hk : ∀ R0 : List V → Hp → Prop, R0 [.int (i : Nat), .int (j : Nat)] H5 → tk (v0 :: v1 :: some (.ref tb) :: v3 :: v4 :: v5 :: some (.ref wl) :: rest) H5 R0)
    (hx : ∀ H1 (R : V → Hp → Prop), Ex T B H1 → R (.str x) H1 → tx (v0 :: v1 :: some (.ref tb) :: v3 :: v4 :: v5 :: some (.ref wl) :: rest) H1 R)
    (q : ∀ t H6, Ex T B H6 → (∀ c o, H5 c = some o → c ≠ wl → H6 c = some o) → H6 wl = some (.lst (xs ++ [.ref t])) → H6 t = some (.tup [.ref d, .str x]) → D.nx (v0 :: v1 :: some (.ref tb) :: v3 :: v4 :: v5 :: some (.ref wl) :: rest) H6) :
    tDrop (tBM K "list" rAppend (tVar 6) (tCons (tTup (tCons (tDGet (tVar 2) (tTup tk)) (tCons tx tNil))) tNil)) D (v0 :: v1 :: some (.ref tb) :: v3 :: v4 :: v5 :: some (.ref wl) :: rest) H5 := by
  refine ⟨_, rfl, .inl ⟨rfl, _, .inl (.inl hw)⟩, tab_read htb hv hk fun H6 sm => hx H6 _ (eB.trans (Ex.same sm)) ⟨by show 2 ≤ sizeLine; decide, fun t ht => ?_⟩⟩
  have hw6 := sm _ _ hw
  have hw7 : upd H6 t (.tup [.ref d, .str x]) wl = some (.lst xs) := by rw [upd_ne (ne_of_none hw6 ht)]; exact hw6
  have e7 : Ex T B (upd H6 t (.tup [.ref d, .str x])) := (eB.trans (Ex.same sm)).new ht
  refine ⟨wl, xs, _, rfl, rfl, hw7, by rw [sizeLine_eq]; omega, q t _ (e7.put nw hw7 loose_lst) (fun c o hc n => ?_) upd_same ?_⟩
  · rw [upd_ne n, upd_ne (ne_of_none (sm _ _ hc) ht)]
    exact sm _ _ hc
  · rw [upd_ne (fun z => by rw [← z, upd_same] at hw7; cases hw7), upd_same]
abbrev keyTS (K : PySem.W.Frag) : TS := tLock (tFor (iKeys (tVar 7)) (gName 9) (sDPut (tVar 5) (tOp (rCatA K) (tVar 9) (tTup (tCons (tVar 8) tNil))) (tOp (rI0 fun i j => .int (i + j)) (tDGet2 (tVar 5) (tOp (rCatA K) (tVar 9) (tTup (tCons (tVar 8) tNil))) (tC (.int 0))) (tDGet (tVar 7) (tVar 9)))))
theorem key_loop {K : PySem.W.Frag} {D : Ends} {v0 v1 v2 v3 v4 v6 y9 : Option V} {B Hc : Hp} {ho ds : Addr} {m0 S0 m1 : FS} {x : Str} {n : Nat} (eB : Ex T B Hc) (hho : Hc ho = some (.dT (encD m0))) (nho : B ho = none) (hds : B ds = some (.dT (encD m1)))
    (ac : Acc m0 S0) (aw : Wl n m0) (hw : ∀ p ∈ m1, p.1.length + 1 ≤ n) (hn : n ≤ 10000) (hz : S0.length + m1.length ≤ 1000000) (hn1 : (m1.map (·.1)).Nodup)
    (q : ∀ z9 H1 m, Ex T B H1 → H1 ho = some (.dT (encD m)) → Acc m (S0 ++ KM.snocs x m1) → Wl n m → D.nx [v0, v1, v2, v3, v4, some (.ref ho), v6, some (.ref ds), some (.str x), z9] H1) :
    keyTS K D [v0, v1, v2, v3, v4, some (.ref ho), v6, some (.ref ds), some (.str x), y9] Hc := by
  have hfd : ho ≠ ds := fun z => by rw [z, hds] at nho; cases nho
  refine ⟨ds, .dT (encD m1), eB.at hds loose_dT, True.intro, fun od => ⟨_, rfl, ds, od, rfl, .inr ⟨encD m1, upd_same, ?_⟩⟩⟩
  have e2 : Ex T (upd B ds (.frz od (.dT (encD m1)))) (upd Hc ds (.frz od (.dT (encD m1)))) := eB.lock hds loose_dT
  have nB : upd B ds (.frz od (.dT (encD m1))) ho = none := by rw [upd_ne hfd]; exact nho
  refine for_of (n := m1.length) (fun i σ H3 => ∃ z9 m, σ = [v0, v1, v2, v3, v4, some (.ref ho), v6, some (.ref ds), some (.str x), z9] ∧ Ex T (upd B ds (.frz od (.dT (encD m1)))) H3 ∧ H3 ho = some (.dT (encD m)) ∧ Acc m (S0 ++ KM.snocs x (m1.take i)) ∧ Wl n m)
    ⟨y9, m0, rfl, e2, by rw [upd_ne hfd]; exact hho, by simpa [KM.snocs] using ac, aw⟩
    (fun i σ H3 hi p => ?_) (fun σ H3 p => ?_) (fun i σ H3 z H4 hi p y => ?_) (fun σ H3 p => ?_)
  · obtain ⟨_, _, _, p2, _⟩ := p
    exact ⟨p2.at upd_same loose_frz, by rw [encD_length]; exact hi⟩
  · obtain ⟨_, _, _, p2, _⟩ := p
    exact ⟨p2.at upd_same loose_frz, Nat.le_of_eq (encD_length m1)⟩
  · obtain ⟨z9, m, rfl, p2, p3, p4, p5⟩ := p
    obtain ⟨rfl, k, v, q', hk, rfl, hq'⟩ := y
    obtain ⟨pr, hp, rfl, rfl⟩ := encD_get hk
    have hq2 : IsW H4 q' pr.1 := (by rw [← encW_kV]; exact hq' : H4 q' = some (.tup (pr.1.map V.str)))
    have hlen : pr.1.length + 1 ≤ n := hw pr (List.mem_of_getElem? hp)
    have hfz : H4 ds = some (.frz od (.dT (encD m1))) := p2.at upd_same loose_frz
    -- word + (last,), twice
    have key : ∀ (H5 : Hp) (R : V → Hp → Prop), Ex T H4 H5 → (∀ t H6, Ex T H4 H6 → IsW H6 t (pr.1 ++ [x]) → R (.ref t) H6) → tOp (rCatA K) (tVar 9) (tTup (tCons (tVar 8) tNil)) [v0, v1, v2, v3, v4, some (.ref ho), v6, some (.ref ds), some (.str x), some (.ref q')] H5 R := fun H5 R e5 hR => by
      refine ⟨_, rfl, _, rfl, by show 1 ≤ sizeLine; decide, fun p1 hp1 => ?_⟩
      have e6 : Ex T H4 (upd H5 p1 (.tup [.str x])) := e5.new hp1
      refine catA_all (e6.at hq2 loose_tup) upd_same ?_ fun t H6 sm ht => hR t H6 (e6.trans (Ex.same sm)) ?_
      · rw [List.length_map, List.length_singleton, sizeLine_eq]
        show pr.1.length + 1 ≤ _
        omega
      · show H6 t = _
        rw [ht, List.map_append]; rfl
    refine ⟨_, rfl, ho, rfl, .inr ⟨_, .inl p3⟩, key H4 _ (Ex.refl H4) fun t1 H6 e6 ht1 => ⟨_, .t (e6.at p3 loose_dT) (IsW.key ht1), _, rfl, _, rfl, ds, _, rfl, .inr ⟨_, _, _, .inr ⟨od, e6.at hfz loose_frz⟩, rfl, e6.at hq' loose_tup, (valV_mem hn1 hp).symm⟩, ?_⟩⟩
    rw [(valV_enc _ p4.nd).1]
    refine ⟨_, _, rfl, rfl, _, rfl, key H6 _ e6 fun t2 H7 e7 ht2 => ⟨ho, _, rfl, .t (e7.at p3 loose_dT) (IsW.key ht2) ?_, ?_⟩⟩
    · have := p4.le
      rw [List.length_append, snocs_len, List.length_take] at this
      rw [encD_length, sizeLine_eq]; omega
    · rw [putK_enc p4.nd]
      refine ⟨_, _, rfl, (p2.trans e7).put nB (e7.at p3 loose_dT) loose_dT, upd_same, ?_, p5.add ?_⟩
      · rw [take_snoc hp]
        have := p4.add (pr.1 ++ [x]) pr.2
        unfold KM.snocs at this ⊢
        rw [List.map_append, ← List.append_assoc]
        exact this
      · rw [List.length_append]
        show pr.1.length + 1 ≤ _
        omega
  · obtain ⟨z9, m, rfl, p2, p3, p4, p5⟩ := p
    rw [List.take_length] at p4
    obtain ⟨hf, e3⟩ := lock_back hds loose_dT p2
    exact ⟨hf, q z9 _ m e3 (unlock_at hf p3 fun _ _ z => by cases z) p4 p5⟩
/-- a way: its pair, the dict, what the dict holds, the last letter -/
structure Way where
  t : Addr
  d : Addr
  m : FS
  x : Str
def flatW (L : List Way) : FS := L.flatMap fun z => KM.snocs z.x z.m
def WaysOk (B : Hp) (n : Nat) (L : List Way) : Prop := ∀ z ∈ L, B z.d = some (.dT (encD z.m)) ∧ (∀ p ∈ z.m, p.1.length + 1 ≤ n) ∧ (z.m.map (·.1)).Nodup
def delA (H : Hp) (a : Addr) : Hp := fun c => if c = a then none else H c
theorem delA_self {H : Hp} {a : Addr} : delA H a a = none := if_pos rfl
theorem delA_ne {H : Hp} {a c : Addr} (h : c ≠ a) : delA H a c = H c := if_neg h
theorem delA_same {H : Hp} {a : Addr} : Same (delA H a) H := fun c o e => by
  by_cases h : c = a
  · rw [h, delA_self] at e; cases e
  · rw [delA_ne h] at e; exact e
theorem Ex.del {B Hc : Hp} {a : Addr} {o : HO} (e : Ex T B Hc) (n : B a = none) (h : Hc a = some o) (lo : Loose o) : Ex T B (delA Hc a) := by
  refine ⟨fun c x hc hn => ?_, fun t p hp => ?_⟩
  · rw [delA_ne (ne_of_none hc n)]
    exact e.1 c x hc hn
  · obtain ⟨ps, h1, h2, h3⟩ := e.2 t p hp
    have off : ∀ {c : Addr} {x : HO}, Hc c = some x → (∀ y, Loose y → x ≠ y) → delA Hc a c = some x := fun {c x} hc hx => by
      rw [delA_ne]
      · exact hc
      · intro z
        rw [z, h] at hc
        exact hx o lo (Option.some.inj hc).symm
    refine ⟨ps, off h1 (fun y ly z => ly.1 ps z.symm), h2, fun pos cv hc => ?_⟩
    obtain ⟨c, e1, e2⟩ := h3 pos cv hc
    exact ⟨c, e1, off e2 (fun y ly z => ly.2 _ z.symm)⟩
theorem ways_loop {K : PySem.W.Frag} {D : Ends} {v0 v1 v2 v3 v4 y7 y8 y9 : Option V} {B Hc : Hp} {ho wl : Addr} {m0 S0 : FS} {n : Nat} {L : List Way} (eB : Ex T B Hc) (hho : Hc ho = some (.dT (encD m0))) (nho : B ho = none)
    (hwl : Hc wl = some (.lst (L.map fun z => V.ref z.t))) (hwt : ∀ z ∈ L, Hc z.t = some (.tup [.ref z.d, .str z.x])) (hL : WaysOk B n L)
    (ac : Acc m0 S0) (aw : Wl n m0) (hn : n ≤ 10000) (hz : S0.length + (flatW L).length ≤ 1000000)
    (q : ∀ z7 z8 z9 H1 m, Ex T B H1 → H1 ho = some (.dT (encD m)) → Acc m (S0 ++ flatW L) → Wl n m → D.nx [v0, v1, v2, v3, v4, some (.ref ho), some (.ref wl), z7, z8, z9] H1) :
    tFor (iList K (tVar 6)) (gTup K 2 (gCons (gName 7) (gCons (gName 8) gNil))) (keyTS K) D [v0, v1, v2, v3, v4, some (.ref ho), some (.ref wl), y7, y8, y9] Hc := by
  refine ⟨_, rfl, wl, rfl, ⟨_, .inl (.inl hwl)⟩, ?_⟩
  have eD : Ex T B (delA Hc ho) := eB.del nho hho loose_dT
  have dw : delA Hc ho wl = some (.lst (L.map fun z => V.ref z.t)) := by rw [delA_ne (ne_of hwl hho (fun z => by cases z))]; exact hwl
  have dt : ∀ z ∈ L, delA Hc ho z.t = some (.tup [.ref z.d, .str z.x]) := fun z hz => by rw [delA_ne (ne_of (hwt z hz) hho (fun z => by cases z))]; exact hwt z hz
  refine for_list (xs := L.map fun z => V.ref z.t) (fun i σ H3 => ∃ z7 z8 z9 m, σ = [v0, v1, v2, v3, v4, some (.ref ho), some (.ref wl), z7, z8, z9] ∧ Ex T (delA Hc ho) H3 ∧ H3 ho = some (.dT (encD m)) ∧ Acc m (S0 ++ flatW (L.take i)) ∧ Wl n m)
    ⟨y7, y8, y9, m0, rfl, Ex.same delA_same, hho, by simpa [flatW] using ac, aw⟩ (fun i σ H3 _ p => ?_) (fun i x σ H3 hx p => ?_) (fun σ H3 p => ?_)
  · obtain ⟨_, _, _, _, _, p2, _⟩ := p
    exact .inl (.inl (p2.at dw loose_lst))
  · obtain ⟨z7, z8, z9, m, rfl, p2, p3, p4, p5⟩ := p
    rw [List.getElem?_map] at hx
    obtain ⟨z, hz1, rfl⟩ : ∃ z, L[i]? = some z ∧ x = .ref z.t := by
      cases e : L[i]? with
      | none => rw [e] at hx; cases hx
      | some z => rw [e] at hx; exact ⟨z, rfl, (Option.some.inj hx).symm⟩
    have hm := List.mem_of_getElem? hz1
    obtain ⟨g1, g2, g3⟩ := hL z hm
    have tk : flatW (L.take (i + 1)) = flatW (L.take i) ++ KM.snocs z.x z.m := by
      rw [take_snoc hz1]; unfold flatW
      rw [List.flatMap_append]; simp
    have hle : (flatW (L.take i)).length + z.m.length ≤ (flatW L).length := by
      have e : flatW L = flatW (L.take (i + 1)) ++ flatW (L.drop (i + 1)) := by
        unfold flatW
        rw [← List.flatMap_append, List.take_append_drop]
      rw [e, tk, List.length_append, List.length_append, snocs_len]; omega
    refine ⟨z.t, _, rfl, .inl (.inl (p2.at (dt z hm) loose_tup)), rfl, _, _, rfl, _, _, rfl, rfl, ?_⟩
    refine key_loop (B := delA Hc ho) (n := n) p2 p3 delA_self (eD.at g1 loose_dT) p4 p5 g2 hn (by rw [List.length_append]; omega) g3 fun z9 H1 m' a1 a2 a3 a4 => ?_
    refine ⟨_, _, _, m', rfl, a1, a2, ?_, a4⟩
    rw [tk, ← List.append_assoc]; exact a3
  · obtain ⟨z7, z8, z9, m, rfl, p2, p3, p4, p5⟩ := p
    rw [List.length_map, List.take_length] at p4
    exact q z7 z8 z9 H3 m (eD.trans p2) p3 p4 p5
theorem if1 {c A B : Prop} [Decidable c] (h : c) (q : A) : if c then A else B := by rw [if_pos h]; exact q
theorem if0 {c A B : Prop} [Decidable c] (h : ¬ c) (q : B) : if c then A else B := by rw [if_neg h]; exact q
theorem int_t {i : Nat} (h : i = 0) : decide (V.int (i : Nat) = V.int 0) = true := by subst h; exact decide_eq_true rfl
theorem int_f {i : Nat} (h : i ≠ 0) : ¬ decide (V.int (i : Nat) = V.int 0) = true := fun e => by
  have := V.int.inj (of_decide_eq_true e)
  omega
theorem gt_t {i : Nat} (h : i ≠ 0) : decide (((i : Nat) : Int) > 0) = true := decide_eq_true (by omega)
theorem gt_f {i : Nat} (h : i = 0) : ¬ decide (((i : Nat) : Int) > 0) = true := fun e => by
  have := of_decide_eq_true e
  omega
/-- nothing that is tracked and loose stands at d -/
def Fr (H : Hp) (d : Addr) : Prop := ∀ o, H d = some o → ¬ Loose o
theorem Ex.fr {H H3 : Hp} {d : Addr} (e : Ex T H H3) (h : H3 d = none) : Fr H d := fun o ho lo => by
  rw [e.at ho lo] at h; cases h
theorem scShuffled : FnScope ["one", "other", "table", "first", "second", "here", "ways", "terms", "last", "word"] ["one", "other"] (defScope sShuffled) := ⟨rfl, rfl, rfl, by decide +kernel, rfl, by decide +kernel, by decide +kernel⟩
def spShuffled (T : List (Addr × Str)) : Sp := fun vs H Q _ => ∃ (a b : Addr) (u v : Wd), vs = [.ref a, .ref b] ∧ IsW H a u ∧ IsW H b v ∧ u.length ≤ 100 ∧ v.length ≤ 100 ∧ dl u.length v.length ≤ 1000000 ∧
  ∀ H' d m, Ex T H H' → Fr H d → H' d = some (.dT (encD m)) → Acc m (KM.FF u v) → Q (.ref d) H'
set_option maxHeartbeats 2000000 in
theorem ok_shuffled {f : Addr} {fd : FuncData} {k : Nat} (F : Fun K "_law_shuffled" "_law_shuffled" sShuffled f fd) (ml : mg "len" = none) (mr : mg "range" = none) :
    FnOk P w K mg base CX0 (k + 1) f fd ["one", "other"] (spShuffled T) := by
  refine F.ok (k := k) scShuffled (fun vs H Q E h => ?_) (fun cdv A outer s H vs Q E hr h => ?_)
  · obtain ⟨a, b, u, v, rfl, _⟩ := h
    rfl
  · obtain ⟨a, b, u, v, rfl, ha, hb, hu1, hv1, hdl, q⟩ := h
    have nd := scShuffled.nd
    have hu := hu_of hr
    refine ⟨_, pss_cons (ps_set (i := 2) nd rfl (.inl rfl) pe_dnewT)
      (pss_cons (ps_for PassesOwn.never rfl (pi_range1 rfl mr (pa_cons (pe_op op_add (pe_callB call_len_seq (by rfl) ml PySem.boot_len (pa_cons (pv 0) pa_nil)) pe_int) pa_nil)) (pg_name (i := 3) nd rfl (.inl rfl))
        (pss_one (ps_for PassesOwn.never rfl (pi_range1 rfl mr (pa_cons (pe_op op_add (pe_callB call_len_seq (by rfl) ml PySem.boot_len (pa_cons (pv 1) pa_nil)) pe_int) pa_nil)) (pg_name (i := 4) nd rfl (.inl rfl))
          (pss_cons (ps_set (i := 5) nd rfl (.inl rfl) (pe_ifExp (PW.pt (pw_and (pt_cmpR op_eq (pv 3) pe_int (nomark _)) (pw_and1 (pt_cmpR op_eq (pv 4) pe_int (nomark _)))))
            (pe_dispT hu (pps_cons (pe_tup pa_nil) pe_int pps_nil) (by rfl) (by rfl) (fun z => by cases z) (by decide)) pe_dnewT))
          (pss_cons (ps_set (i := 6) nd rfl (.inl rfl) (pe_lst pa_nil))
          (pss_cons (ps_if (pt_cmpR op_gt (pv 3) pe_int (nomark _)) (pss_one (ps_expr (pe_bm PySem.F.plainAttrs_list PySem.F.slot_list_append PySem.F.type_list_append mt_append (pv 6) (pa_cons
            (pe_tup (pa_cons (pe_dget hu (pv 2) (pe_tup (pa_cons (pe_op op_sub (pv 3) pe_int) (pa_cons (pv 4) pa_nil))) (fun _ _ => rfl)) (pa_cons (pe_ix ix_tup (pv 0) (pe_op op_sub (pv 3) pe_int) (fun _ _ => rfl)) pa_nil))) pa_nil)))) pss_nil)
          (pss_cons (ps_if (pt_cmpR op_gt (pv 4) pe_int (nomark _)) (pss_one (ps_expr (pe_bm PySem.F.plainAttrs_list PySem.F.slot_list_append PySem.F.type_list_append mt_append (pv 6) (pa_cons
            (pe_tup (pa_cons (pe_dget hu (pv 2) (pe_tup (pa_cons (pv 3) (pa_cons (pe_op op_sub (pv 4) pe_int) pa_nil))) (fun _ _ => rfl)) (pa_cons (pe_ix ix_tup (pv 1) (pe_op op_sub (pv 4) pe_int) (fun _ _ => rfl)) pa_nil))) pa_nil)))) pss_nil)
          (pss_cons (ps_if (PW.pt (pw_and (pt_cmpR op_gt (pv 3) pe_int (nomark _)) (pw_and (pt_cmpR op_gt (pv 4) pe_int (nomark _)) (pw_and1 (pt_cmpR op_eq (pe_ix ix_tup (pv 0) (pe_op op_sub (pv 3) pe_int) (fun _ _ => rfl)) (pe_ix ix_tup (pv 1) (pe_op op_sub (pv 4) pe_int) (fun _ _ => rfl)) (nomark _))))))
            (pss_one (ps_expr (pe_bm PySem.F.plainAttrs_list PySem.F.slot_list_append PySem.F.type_list_append mt_append (pv 6) (pa_cons
            (pe_tup (pa_cons (pe_dget hu (pv 2) (pe_tup (pa_cons (pe_op op_sub (pv 3) pe_int) (pa_cons (pe_op op_sub (pv 4) pe_int) pa_nil))) (fun _ _ => rfl)) (pa_cons (pe_ix ix_tup (pv 0) (pe_op op_sub (pv 3) pe_int) (fun _ _ => rfl)) pa_nil))) pa_nil)))) pss_nil)
          (pss_cons (ps_for PassesOwn.never rfl (pi_list (pv 6)) (pg_tup rfl (pgs_cons (pg_name (i := 7) nd rfl (.inl rfl)) (pgs_cons (pg_name (i := 8) nd rfl (.inl rfl)) pgs_nil)))
            (pss_one (ps_lock (ps_for PassesOwn.never rfl (pi_keys (pv 7)) (pg_name (i := 9) nd rfl (.inl rfl))
              (pss_one (ps_dput hu (pv 5) (pe_op op_catA (pv 9) (pe_tup (pa_cons (pv 8) pa_nil))) (pe_op op_add (pe_dget2 hu (pv 5) (pe_op op_catA (pv 9) (pe_tup (pa_cons (pv 8) pa_nil))) pe_int ⟨rfl, rfl, rfl, rfl⟩) (pe_dget hu (pv 7) (pv 9) (fun _ _ => rfl))) rfl))))))
          (pss_one (ps_dput hu (pv 2) (pe_tup (pa_cons (pv 3) (pa_cons (pv 4) pa_nil))) (pv 5) rfl)))))))))))
      (pss_one (ps_ret (pe_dget hu (pv 2) (pe_tup (pa_cons (pe_callB call_len_seq (by rfl) ml PySem.boot_len (pa_cons (pv 0) pa_nil)) (pa_cons (pe_callB call_len_seq (by rfl) ml PySem.boot_len (pa_cons (pv 1) pa_nil)) pa_nil))) (fun _ _ => rfl))))), ?_⟩
    intro tb htb
    have e1 : Ex T H (upd H tb (.dT [])) := (Ex.refl H).new htb
    refine ⟨.ref a, rfl, a, _, rfl, .inr (.inl (.inl (e1.at ha loose_tup))), _, _, rfl, rfl, _, rfl, ?_, ?_, ?_⟩
    · rw [List.length_map]; omega
    · rw [List.length_map]; omega
    rw [show (((u.map V.str).length : Int) + 1).toNat = u.length + 1 by rw [List.length_map]; omega]
    refine for_range (n := u.length + 1) (fun i σ H3 => ∃ y3 y4 y5 y6 y7 y8 y9 kvs, σ = [some (.ref a), some (.ref b), some (.ref tb), y3, y4, y5, y6, y7, y8, y9] ∧ Ex T H H3 ∧ H3 tb = some (.dT kvs) ∧ kvs.length ≤ i * (v.length + 1) ∧ Done H3 (fun d => d ≠ tb ∧ Fr H d) kvs u v i 0)
      ⟨none, none, none, none, none, none, none, [], rfl, e1, upd_same, Nat.zero_le _, Done.nil⟩ (fun i σ H3 hi p => ?_) (fun σ H3 p => ?_)
    · obtain ⟨y3, y4, y5, y6, y7, y8, y9, kvs, rfl, h2, h3, h4, h5⟩ := p
      refine ⟨.ref b, rfl, b, _, rfl, .inr (.inl (.inl (h2.at hb loose_tup))), _, _, rfl, rfl, _, rfl, ?_, ?_, ?_⟩
      · rw [List.length_map]; omega
      · rw [List.length_map]; omega
      rw [show (((v.map V.str).length : Int) + 1).toNat = v.length + 1 by rw [List.length_map]; omega]
      refine for_range (n := v.length + 1) (fun j σ H3 => ∃ y4 y5 y6 y7 y8 y9 kvs, σ = [some (.ref a), some (.ref b), some (.ref tb), some (.int (i : Nat)), y4, y5, y6, y7, y8, y9] ∧ Ex T H H3 ∧ H3 tb = some (.dT kvs) ∧ kvs.length ≤ i * (v.length + 1) + j ∧ Done H3 (fun d => d ≠ tb ∧ Fr H d) kvs u v i j)
        ⟨y4, y5, y6, y7, y8, y9, kvs, by rw [Int.zero_add]; rfl, h2, h3, h4, h5⟩ (fun j σ H3 hj p => ?_) (fun σ H3 p => ?_)
      · obtain ⟨y4, y5, y6, y7, y8, y9, kvs, rfl, h2, h3, h4, h5⟩ := p
        rw [show (V.int (0 + (j : Int))) = .int (j : Nat) by rw [Int.zero_add]]
        have hk5 : kvs.length ≤ 100000 := by
          have h6 : i * (v.length + 1) ≤ 100 * 101 := Nat.mul_le_mul (by omega) (by omega)
          omega
        have ha3 : IsW H3 a u := IsW.ex h2 ha
        have hb3 : IsW H3 b v := IsW.ex h2 hb
        have fin : ∀ (D : Ends) z7 z8 z9 ho wl H5 m0 S0 L, (∀ σ' H', D.nx σ' H' = ∃ y4 y5 y6 y7 y8 y9 kvs, σ' = [some (.ref a), some (.ref b), some (.ref tb), some (.int (i : Nat)), y4, y5, y6, y7, y8, y9] ∧ Ex T H H' ∧ H' tb = some (.dT kvs) ∧ kvs.length ≤ i * (v.length + 1) + (j + 1) ∧ Done H' (fun d => d ≠ tb ∧ Fr H d) kvs u v i (j + 1)) →
            Ex T H3 H5 → H3 ho = none → H5 ho = some (.dT (encD m0)) → H5 wl = some (.lst (L.map fun z => V.ref z.t)) → (∀ z ∈ L, H5 z.t = some (.tup [.ref z.d, .str z.x])) → WaysOk H3 (i + j) L → Acc m0 S0 → Wl (i + j) m0 → S0.length + (flatW L).length ≤ 1000000 →
            (∀ m, Acc m (S0 ++ flatW L) → Acc m (KM.FF (u.take i) (v.take j))) →
            tSeq (tFor (iList K (tVar 6)) (gTup K 2 (gCons (gName 7) (gCons (gName 8) gNil))) (keyTS K)) (sDPut (tVar 2) (tTup (tCons (tVar 3) (tCons (tVar 4) tNil))) (tVar 5)) D
              [some (.ref a), some (.ref b), some (.ref tb), some (.int (i : Nat)), some (.int (j : Nat)), some (.ref ho), some (.ref wl), z7, z8, z9] H5 := fun D z7 z8 z9 ho wl H5 m0 S0 L hD e5 nho gho gwl gwt okL ac aw hz join => by
          have hft : ho ≠ tb := fun z => by rw [z, h3] at nho; cases nho
          refine ways_loop (B := H3) (n := i + j) e5 gho nho gwl gwt okL ac aw (by omega) hz fun x7 x8 x9 H6 m a1 a2 a3 a4 => ?_
          refine put_cell (N := fun d => d ≠ tb ∧ Fr H d) (fun _ h => h.1) h2 htb hk5 h5 a1 (a1.at h3 loose_dT) ⟨hft, h2.fr nho⟩ a2 (join m a3) a4 fun H7 kvs' b1 b2 b3 b4 => ?_
          rw [hD]
          exact ⟨_, _, _, _, _, _, kvs', rfl, b1, b2, by omega, b4⟩
        refine ⟨_, rfl, rfl, _, rfl, ?_⟩
        have ff : ¬ (false = true) := Bool.false_ne_true
        have gtb : ∀ {Hc : Hp}, Ex T H3 Hc → Hc tb = some (.dT kvs) := fun e => e.at h3 loose_dT
        by_cases hi0 : i = 0
        · by_cases hj0 : j = 0
          · refine if1 (int_t hi0) ⟨_, rfl, rfl, _, rfl, if1 (int_t hj0) fun p hp => ⟨by show 0 ≤ sizeLine; decide, fun t0 ht0 => ⟨?_, [([], t0, .int 1)], rfl, fun z hz => ?_, by show 1 ≤ 15; decide, ?_⟩⟩⟩
            · rw [upd_ne (fun z => by rw [← z, upd_same] at ht0; cases ht0), upd_same]
            · rw [List.mem_singleton.mp hz, upd_same]; rfl
            have ep : Ex T H3 (upd (upd H3 p (.dT [])) t0 (.tup [])) := ((Ex.refl H3).new hp).new ht0
            have gp : upd (upd H3 p (.dT [])) t0 (.tup []) p = some (.dT []) := by rw [upd_ne (fun z => by rw [← z, upd_same] at ht0; cases ht0), upd_same]
            have e5 : Ex T H3 (upd (upd (upd H3 p (.dT [])) t0 (.tup [])) p (.dT (encD [([], 1)]))) := ep.put hp gp loose_dT
            refine ⟨by show 0 ≤ sizeLine; decide, fun wl hwl => ?_⟩
            refine ⟨_, rfl, _, _, rfl, rfl, _, rfl, if0 (gt_f hi0) ⟨_, rfl, _, _, rfl, rfl, _, rfl, if0 (gt_f hj0) ⟨_, rfl, _, _, rfl, rfl, _, rfl, if0 (gt_f hi0) (if0 ff ?_)⟩⟩⟩
            refine fin _ _ _ _ p wl _ [([], 1)] [([], 1)] [] (fun _ _ => rfl) (e5.new hwl) hp ?_ upd_same (fun z hz => by cases hz) (fun z hz => by cases hz) ⟨by simp, fun _ => rfl, Nat.le_refl _⟩ (fun p hp => ?_) (by decide) (fun m hm => ?_)
            · rw [upd_ne (fun z => by rw [← z, upd_same] at hwl; cases hwl)]
              exact upd_same
            · rw [List.mem_singleton.mp hp]; exact Nat.zero_le _
            · rw [hi0, hj0, List.take_zero, List.take_zero, FF_nil]; exact hm
          · refine if1 (int_t hi0) ⟨_, rfl, rfl, _, rfl, if0 (int_f hj0) fun p hp => ?_⟩
            have ep : Ex T H3 (upd H3 p (.dT [])) := (Ex.refl H3).new hp
            refine ⟨by show 0 ≤ sizeLine; decide, fun wl hwl => ?_⟩
            have ew : Ex T H3 (upd (upd H3 p (.dT [])) wl (.lst [])) := ep.new hwl
            have hpw : p ≠ wl := fun z => by rw [← z, upd_same] at hwl; cases hwl
            have nwl : H3 wl = none := by rw [upd_ne (Ne.symm hpw)] at hwl; exact hwl
            obtain ⟨j, rfl⟩ : ∃ j', j = j' + 1 := ⟨j - 1, by omega⟩
            have hjv : j < v.length := by omega
            obtain ⟨d2, m2, c2, n2, g2, a2, w2⟩ := h5 i j (by omega) (.inr ⟨rfl, by omega⟩)
            refine ⟨_, rfl, _, _, rfl, rfl, _, rfl, if0 (gt_f hi0) ⟨_, rfl, _, _, rfl, rfl, _, rfl, if1 (gt_t hj0) ?_⟩⟩
            refine app_way (B := H3) (i := i) (j := j) (x := v[j]) ew nwl (gtb ew) c2 upd_same (by decide) (fun R0 h0 => ⟨_, rfl, _, rfl, _, _, rfl, rfl, by show R0 [_, .int (((j + 1 : Nat) : Int) - 1)] _; rw [pred_int]; exact h0⟩)
              (fun H1 R e q => ⟨_, rfl, _, rfl, _, _, rfl, rfl, by show rIxT K _ (.int (((j + 1 : Nat) : Int) - 1)) H1 R; rw [pred_int]; exact word_at hjv (IsW.ex e hb3) R q⟩) (fun t H6 e6 st gw gt6 => ?_)
            refine ⟨_, rfl, _, _, rfl, rfl, _, rfl, if0 (gt_f hi0) (if0 ff ?_)⟩
            have hfl : flatW [⟨t, d2, m2, v[j]⟩] = KM.snocs v[j] m2 := by simp [flatW]
            have hle := dl_cell a2 (by omega) (by omega)
            have hmo := dl_mono (a := i) (b := j) (c := u.length) (d := v.length) (by omega) (by omega)
            refine fin _ _ _ _ p wl _ [] [] [⟨t, d2, m2, v[j]⟩] (fun _ _ => rfl) e6 hp (st _ _ (by rw [upd_ne hpw, upd_same]; rfl) hpw) gw (fun z hz => ?_) (fun z hz => ?_) Acc.nil Wl.nil ?_ (fun m hm => ?_)
            · rw [List.mem_singleton.mp hz]; exact gt6
            · rw [List.mem_singleton.mp hz]
              exact ⟨g2, fun p hp => by have := w2 p hp; omega, a2.nd⟩
            · rw [hfl, snocs_len, List.length_nil]; omega
            · rw [List.nil_append, hfl] at hm
              rw [hi0, List.take_zero, FF_nil] at a2
              rw [hi0, List.take_zero, FF_nil, take_snoc (List.getElem?_eq_getElem hjv)]
              exact hm.to (fun w => coef_snocs_congr v[j] a2.co w) (by rw [snocs_len]; exact a2.le)
        · obtain ⟨i, rfl⟩ : ∃ i', i = i' + 1 := ⟨i - 1, by omega⟩
          have hiu : i < u.length := by omega
          refine if0 (int_f hi0) (if0 ff fun p hp => ?_)
          have ep : Ex T H3 (upd H3 p (.dT [])) := (Ex.refl H3).new hp
          refine ⟨by show 0 ≤ sizeLine; decide, fun wl hwl => ?_⟩
          have ew : Ex T H3 (upd (upd H3 p (.dT [])) wl (.lst [])) := ep.new hwl
          have hpw : p ≠ wl := fun z => by rw [← z, upd_same] at hwl; cases hwl
          have nwl : H3 wl = none := by rw [upd_ne (Ne.symm hpw)] at hwl; exact hwl
          obtain ⟨d1, m1, c1, n1, g1, a1, w1⟩ := h5 i j (by omega) (.inl (by omega))
          have z1 := dl_cell a1 (by omega) (by omega)
          have tu : u.take (i + 1) = u.take i ++ [u[i]] := take_snoc (List.getElem?_eq_getElem hiu)
          have rx : ∀ H1 (R : V → Hp → Prop), Ex T H3 H1 → R (.str u[i]) H1 → rIxT K (.ref a) (.int (((i + 1 : Nat) : Int) - 1)) H1 R := fun H1 R e q => by rw [pred_int]; exact word_at hiu (IsW.ex e ha3) R q
          refine ⟨_, rfl, _, _, rfl, rfl, _, rfl, if1 (gt_t hi0) ?_⟩
          refine app_way (B := H3) (i := i) (j := j) (x := u[i]) ew nwl (gtb ew) c1 upd_same (by decide) (fun R0 h0 => ⟨_, rfl, _, _, rfl, rfl, _, rfl, by show R0 [.int (((i + 1 : Nat) : Int) - 1), _] _; rw [pred_int]; exact h0⟩)
            (fun H1 R e q => ⟨_, rfl, _, rfl, _, _, rfl, rfl, rx H1 R e q⟩) (fun t H6 e6 st gw gt6 => ?_)
          have gp6 : H6 p = some (.dT (encD [])) := st _ _ (by rw [upd_ne hpw, upd_same]; rfl) hpw
          by_cases hj0 : j = 0
          · refine ⟨_, rfl, _, _, rfl, rfl, _, rfl, if0 (gt_f hj0) ⟨_, rfl, _, _, rfl, rfl, _, rfl, if1 (gt_t hi0) ⟨_, rfl, _, _, rfl, rfl, _, rfl, if0 (gt_f hj0) (if0 ff ?_)⟩⟩⟩
            have hfl : flatW [⟨t, d1, m1, u[i]⟩] = KM.snocs u[i] m1 := by simp [flatW]
            have hmo := dl_mono (a := i) (b := j) (c := u.length) (d := v.length) (by omega) (by omega)
            refine fin _ _ _ _ p wl _ [] [] [⟨t, d1, m1, u[i]⟩] (fun _ _ => rfl) e6 hp gp6 gw (fun z hz => ?_) (fun z hz => ?_) Acc.nil Wl.nil ?_ (fun m hm => ?_)
            · rw [List.mem_singleton.mp hz]; exact gt6
            · rw [List.mem_singleton.mp hz]
              exact ⟨g1, fun p hp => by have := w1 p hp; omega, a1.nd⟩
            · rw [hfl, snocs_len, List.length_nil]; omega
            · rw [List.nil_append, hfl] at hm
              rw [hj0, List.take_zero, FF_nil2] at a1
              rw [hj0, List.take_zero, FF_nil2, tu]
              exact hm.to (fun w => coef_snocs_congr u[i] a1.co w) (by rw [snocs_len]; exact a1.le)
          · obtain ⟨j, rfl⟩ : ∃ j', j = j' + 1 := ⟨j - 1, by omega⟩
            have hjv : j < v.length := by omega
            obtain ⟨d2, m2, c2, n2, g2, a2, w2⟩ := h5 (i + 1) j (by omega) (.inr ⟨rfl, by omega⟩)
            obtain ⟨d3, m3, c3, n3, g3, a3, w3⟩ := h5 i j (by omega) (.inl (by omega))
            have z2 := dl_cell a2 (by omega) (by omega)
            have z3 := dl_cell a3 (by omega) (by omega)
            have zz := dl_mono (a := i + 1) (b := j + 1) (c := u.length) (d := v.length) (by omega) (by omega)
            rw [show dl (i + 1) (j + 1) = dl i (j + 1) + dl (i + 1) j + dl i j from by rw [dl]] at zz
            have tv : v.take (j + 1) = v.take j ++ [v[j]] := take_snoc (List.getElem?_eq_getElem hjv)
            have ry : ∀ H1 (R : V → Hp → Prop), Ex T H3 H1 → R (.str v[j]) H1 → rIxT K (.ref b) (.int (((j + 1 : Nat) : Int) - 1)) H1 R := fun H1 R e q => by rw [pred_int]; exact word_at hjv (IsW.ex e hb3) R q
            refine ⟨_, rfl, _, _, rfl, rfl, _, rfl, if1 (gt_t hj0) ?_⟩
            refine app_way (B := H3) (i := i + 1) (j := j) (x := v[j]) e6 nwl (gtb e6) c2 gw (by show 1 < 10; decide) (fun R0 h0 => ⟨_, rfl, _, rfl, _, _, rfl, rfl, by show R0 [_, .int (((j + 1 : Nat) : Int) - 1)] _; rw [pred_int]; exact h0⟩)
              (fun H1 R e q => ⟨_, rfl, _, rfl, _, _, rfl, rfl, ry H1 R e q⟩) (fun t' H7 e7 st7 gw7 gt7 => ?_)
            have gp7 := st7 _ _ gp6 hpw
            have hwt : ∀ {c : Addr} {xs : List V} {Hc : Hp} {l : List V}, Hc wl = some (.lst l) → Hc c = some (.tup xs) → c ≠ wl := fun h1 h2 => ne_of h2 h1 (fun z => by cases z)
            have gt6' := st7 _ _ gt6 (hwt gw gt6)
            refine ⟨_, rfl, _, _, rfl, rfl, _, rfl, if1 (gt_t hi0) ⟨_, rfl, _, _, rfl, rfl, _, rfl, if1 (gt_t hj0) ⟨_, rfl, _, rfl, _, _, rfl, rfl, rx H7 _ e7 ⟨_, rfl, _, rfl, _, _, rfl, rfl, ry H7 _ e7 ⟨rfl, _, rfl, ite2 (fun e => ?_) (fun e => ?_)⟩⟩⟩⟩⟩
            · have e : u[i] = v[j] := V.str.inj (of_decide_eq_true e)
              refine app_way (B := H3) (i := i) (j := j) (x := u[i]) e7 nwl (gtb e7) c3 gw7 (by show 2 < 10; decide) (fun R0 h0 => ⟨_, rfl, _, _, rfl, rfl, _, rfl, _, _, rfl, rfl, by show R0 [.int (((i + 1 : Nat) : Int) - 1), .int (((j + 1 : Nat) : Int) - 1)] _; rw [pred_int, pred_int]; exact h0⟩)
                (fun H1 R e q => ⟨_, rfl, _, rfl, _, _, rfl, rfl, rx H1 R e q⟩) (fun t'' H8 e8 st8 gw8 gt8 => ?_)
              have hfl : flatW [⟨t, d1, m1, u[i]⟩, ⟨t', d2, m2, v[j]⟩, ⟨t'', d3, m3, u[i]⟩] = KM.snocs u[i] m1 ++ (KM.snocs v[j] m2 ++ KM.snocs u[i] m3) := by simp [flatW]
              refine fin _ _ _ _ p wl _ [] [] [⟨t, d1, m1, u[i]⟩, ⟨t', d2, m2, v[j]⟩, ⟨t'', d3, m3, u[i]⟩] (fun _ _ => rfl) e8 hp (st8 _ _ gp7 hpw) gw8 (fun z hz => ?_) (fun z hz => ?_) Acc.nil Wl.nil ?_ (fun m hm => ?_)
              · simp only [List.mem_cons, List.not_mem_nil, or_false] at hz
                rcases hz with rfl | rfl | rfl
                · exact st8 _ _ gt6' (hwt gw7 gt6')
                · exact st8 _ _ gt7 (hwt gw7 gt7)
                · exact gt8
              · simp only [List.mem_cons, List.not_mem_nil, or_false] at hz
                rcases hz with rfl | rfl | rfl
                · exact ⟨g1, fun p hp => by have := w1 p hp; omega, a1.nd⟩
                · exact ⟨g2, fun p hp => by have := w2 p hp; omega, a2.nd⟩
                · exact ⟨g3, fun p hp => by have := w3 p hp; omega, a3.nd⟩
              · rw [hfl]
                simp only [List.length_append, List.length_nil, snocs_len]; omega
              · rw [List.nil_append, hfl] at hm
                rw [tu] at a2
                rw [tv] at a1
                rw [tu, tv]
                refine join_acc a1 a2 a3 ?_
                rw [if_pos e]; exact hm
            · have e : ¬ u[i] = v[j] := fun z => e (decide_eq_true (by rw [z]))
              have hfl : flatW [⟨t, d1, m1, u[i]⟩, ⟨t', d2, m2, v[j]⟩] = KM.snocs u[i] m1 ++ KM.snocs v[j] m2 := by simp [flatW]
              refine fin _ _ _ _ p wl _ [] [] [⟨t, d1, m1, u[i]⟩, ⟨t', d2, m2, v[j]⟩] (fun _ _ => rfl) e7 hp gp7 gw7 (fun z hz => ?_) (fun z hz => ?_) Acc.nil Wl.nil ?_ (fun m hm => ?_)
              · simp only [List.mem_cons, List.not_mem_nil, or_false] at hz
                rcases hz with rfl | rfl
                · exact gt6'
                · exact gt7
              · simp only [List.mem_cons, List.not_mem_nil, or_false] at hz
                rcases hz with rfl | rfl
                · exact ⟨g1, fun p hp => by have := w1 p hp; omega, a1.nd⟩
                · exact ⟨g2, fun p hp => by have := w2 p hp; omega, a2.nd⟩
              · rw [hfl]
                simp only [List.length_append, List.length_nil, snocs_len]; omega
              · rw [List.nil_append, hfl] at hm
                rw [tu] at a2
                rw [tv] at a1
                rw [tu, tv]
                refine join_acc a1 a2 a3 ?_
                rw [if_neg e, List.append_nil]; exact hm
      · obtain ⟨y4, y5, y6, y7, y8, y9, kvs, rfl, h2, h3, h4, h5⟩ := p
        refine ⟨_, _, _, _, _, _, _, kvs, rfl, h2, h3, ?_, h5.row⟩
        rw [Nat.succ_mul]; exact h4
    · obtain ⟨y3, y4, y5, y6, y7, y8, y9, kvs, rfl, h2, h3, h4, h5⟩ := p
      obtain ⟨d, m, c1, n1, g1, a1, w1⟩ := h5 u.length v.length (Nat.le_refl _) (.inl (by omega))
      rw [List.take_length, List.take_length] at a1
      refine tab_read (kvs := kvs) (i := u.length) (j := v.length) h3 c1 (fun R0 h0 => ?_) (fun H4 sm => ?_)
      · refine ⟨.ref a, rfl, a, _, rfl, .inr (.inl (.inl (h2.at ha loose_tup))), .ref b, rfl, b, _, rfl, .inr (.inl (.inl (h2.at hb loose_tup))), ?_⟩
        rw [List.length_map, List.length_map]
        exact h0
      · exact q H4 d m (h2.trans (Ex.same sm)) n1.2 (sm _ _ g1) a1
end
end KW

set_option Elab.async false
set_option linter.all false
set_option maxRecDepth 100000
namespace KW
open PySem PySem.Spec PyProof.Rows L2 LamX KR
theorem flat_take_le {α : Type} {f : α → FS} {l : List α} {i : Nat} {x : α} (h : l[i]? = some x) : ((l.take i).flatMap f).length + (f x).length ≤ (l.flatMap f).length := by
  have e : l.flatMap f = (l.take (i + 1)).flatMap f ++ (l.drop (i + 1)).flatMap f := by
    rw [← List.flatMap_append, List.take_append_drop]
  rw [e, take_snoc h, List.flatMap_append, List.length_append, List.length_append]
  simp
theorem flat_take_succ {α : Type} {f : α → FS} {l : List α} {i : Nat} {x : α} (h : l[i]? = some x) : (l.take (i + 1)).flatMap f = (l.take i).flatMap f ++ f x := by
  rw [take_snoc h, List.flatMap_append]; simp
def Fit (ts os : FS) : Prop := ∃ A M B A' M' B', Sz A M B ts ∧ Sz A' M' B' os ∧ A ≤ 100 ∧ A' ≤ 100 ∧ dl A A' ≤ 1000000 ∧ M * (M' * dl A A') ≤ 1000000 ∧ B < 2 ^ 2000 ∧ B' < 2 ^ 2000
theorem Fit.l {ts os : FS} (h : Fit ts os) : ∀ p ∈ ts, p.1.length ≤ 100 ∧ p.2.natAbs < 2 ^ 2000 := fun p hp => by
  obtain ⟨A, M, B, A', M', B', h1, h2, h3, h4, h5, h6, h7, h8⟩ := h
  exact ⟨Nat.le_trans (h1.2 p hp).1 h3, Nat.lt_of_le_of_lt (h1.2 p hp).2 h7⟩
theorem Fit.r {ts os : FS} (h : Fit ts os) : ∀ p ∈ os, p.1.length ≤ 100 ∧ p.2.natAbs < 2 ^ 2000 := fun p hp => by
  obtain ⟨A, M, B, A', M', B', h1, h2, h3, h4, h5, h6, h7, h8⟩ := h
  exact ⟨Nat.le_trans (h2.2 p hp).1 h4, Nat.lt_of_le_of_lt (h2.2 p hp).2 h8⟩
theorem Fit.d {ts os : FS} (h : Fit ts os) {p q : Wd × Int} (hp : p ∈ ts) (hq : q ∈ os) : dl p.1.length q.1.length ≤ 1000000 := by
  obtain ⟨A, M, B, A', M', B', h1, h2, h3, h4, h5, h6, h7, h8⟩ := h
  exact Nat.le_trans (dl_mono (h1.2 p hp).1 (h2.2 q hq).1) h5
theorem Fit.len {ts os : FS} (h : Fit ts os) : (prodS ts os).length ≤ 1000000 ∧ (KM.mulF ts os).length ≤ 1000000 := by
  obtain ⟨A, M, B, A', M', B', h1, h2, h3, h4, h5, h6, h7, h8⟩ := h
  exact ⟨Nat.le_trans (h1.prodS h2).1 h6, Nat.le_trans (h1.mulF h2).1 h6⟩
theorem small_lt : (1000000 : Nat) < 2 ^ 20 := by decide
theorem FF_small {u v : Wd} (h : dl u.length v.length ≤ 1000000) : ∀ x ∈ KM.terms wle (KM.FF u v), x.2.natAbs < 2 ^ 20 := fun x hx => by
  have := ((Sz.FF u v).terms.2 x hx).2
  rw [Nat.mul_one] at this
  exact Nat.lt_of_le_of_lt (Nat.le_trans this h) small_lt
section
variable {T : List (Addr × Str)} {H : Hp}
theorem IsPr.del {d t : Addr} {p : Wd × Int} {kvs} (h : IsPr H t p) (hd : H d = some (.dT kvs)) : IsPr (delA H d) t p := by
  obtain ⟨q, h1, h2⟩ := h
  exact ⟨q, by rw [delA_ne (ne_of h1 hd (fun z => by cases z))]; exact h1, by show delA H d q = _; rw [delA_ne (ne_of h2 hd (fun z => by cases z))]; exact h2⟩
end
section
variable {P : Program} {w : World} {K : PySem.W.Frag} {mg : Str → Option Value} {base : Heap} {T : List (Addr × Str)}
def spTimes (T : List (Addr × Str)) : Sp := fun vs H Q _ => ∃ (a b : Addr) (ts os : FS), vs = [.ref a, .ref b] ∧ IsTm H a ts ∧ IsTm H b os ∧ Fit ts os ∧ Tabs T H ∧ ∀ H' r, Ex T H H' → IsTm H' r (KM.terms wle (KM.mulF ts os)) → Q (.ref r) H'
/-! ### terms_product -/
abbrev CalProductOf (P : Program) (w : World) (K : PySem.W.Frag) (mg : Str → Option Value) (base : Heap) (T : List (Addr × Str)) := Cal P w K mg base 3 "product_of" ["one", "other"] (spProductOf T)
theorem scTermsProduct : FnScope ["terms", "others", "found", "one", "mine", "other", "its", "word", "many"] ["terms", "others"] (defScope sTermsProduct) := ⟨rfl, rfl, rfl, by decide +kernel, rfl, by decide +kernel, by decide +kernel⟩
theorem ok_termsProduct {f : Addr} {fd : FuncData} (F : Fun K "terms_product" "terms_product" sTermsProduct f fd) (GA : CalAdded P w K mg base) (GT : CalAsTerms P w K mg base T) (GP : CalProductOf P w K mg base T) :
    FnOk P w K mg base CX0 4 f fd ["terms", "others"] (spTimes T) := by
  obtain ⟨fA, fdA, FA, mA, kA, bA⟩ := GA
  obtain ⟨fT, fdT, FT, mT, kT, bT⟩ := GT
  obtain ⟨fP, fdP, FP, mP, kP, bP⟩ := GP
  refine F.ok (k := 3) scTermsProduct (fun vs H Q E h => ?_) (fun cdv A outer s H vs Q E hr h => ?_)
  · obtain ⟨a, b, ts, os, rfl, _⟩ := h
    rfl
  · obtain ⟨a, b, ts, os, rfl, ha, hb, fit, hTb, q⟩ := h
    have nd := scTermsProduct.nd
    refine ⟨_, pss_cons (ps_set (i := 2) nd rfl (.inl rfl) pe_dnewT)
      (pss_cons (ps_for PassesOwn.never rfl (pi_tup (pv 0)) (pg_tup rfl (pgs_cons (pg_name (i := 3) nd rfl (.inl rfl)) (pgs_cons (pg_name (i := 4) nd rfl (.inl rfl)) pgs_nil)))
        (pss_one (ps_for PassesOwn.never rfl (pi_tup (pv 1)) (pg_tup rfl (pgs_cons (pg_name (i := 5) nd rfl (.inl rfl)) (pgs_cons (pg_name (i := 6) nd rfl (.inl rfl)) pgs_nil)))
          (pss_one (ps_for PassesOwn.never rfl (pi_tup (pe_call FP hr (by rfl) mP kP bP .nil pass0 (pa_cons (pv 3) (pa_cons (pv 5) pa_nil)))) (pg_tup rfl (pgs_cons (pg_name (i := 7) nd rfl (.inl rfl)) (pgs_cons (pg_name (i := 8) nd rfl (.inl rfl)) pgs_nil)))
            (pss_one (ps_expr (pe_call FA (hr.mono (by decide)) (by rfl) mA kA bA .nil pass0 (pa_cons (pv 2) (pa_cons (pv 7) (pa_cons (pe_op op_mulW (pe_op op_mulW (pv 8) (pv 4)) (pv 6)) pa_nil)))))))))))
      (pss_one (ps_ret (pe_call FT (hr.mono (by decide)) (by rfl) mT kT bT .nil pass0 (pa_cons (pv 2) pa_nil))))), ?_⟩
    intro d hd
    obtain ⟨as, ha1, ha2⟩ := ha
    obtain ⟨bs, hb1, hb2⟩ := hb
    have la := IsTm.len ha2
    have lb := IsTm.len hb2
    have e1 : Ex T H (upd H d (.dT [])) := (Ex.refl H).new hd
    have hSz := fit.len.1
    refine ⟨.ref a, rfl, a, rfl, ⟨_, .inl (.inl (e1.at ha1 loose_tup))⟩, ?_⟩
    refine for_tup (xs := as.map V.ref) (fun i σ H3 => ∃ y3 y4 y5 y6 y7 y8 m, σ = [some (.ref a), some (.ref b), some (.ref d), y3, y4, y5, y6, y7, y8] ∧ Ex T H H3 ∧ H3 d = some (.dT (encD m)) ∧ Acc m (prodS (ts.take i) os))
      ⟨none, none, none, none, none, none, [], rfl, e1, upd_same, Acc.nil⟩ (fun i σ H3 _ p => ?_) (fun i x σ H3 hx p => ?_) (fun σ H3 p => ?_)
    · obtain ⟨_, _, _, _, _, _, _, _, p2, _⟩ := p
      exact .inl (.inl (p2.at ha1 loose_tup))
    · obtain ⟨y3, y4, y5, y6, y7, y8, m, rfl, p2, p3, p4⟩ := p
      obtain ⟨t1, pr, rfl, hp, _, q1, hq1, hq2⟩ := IsTm.nth ha2 hx
      have hpm := List.mem_of_getElem? hp
      refine ⟨t1, _, rfl, .inl (.inl (p2.at hq1 loose_tup)), rfl, _, _, rfl, _, _, rfl, rfl, ?_⟩
      refine ⟨.ref b, rfl, b, rfl, ⟨_, .inl (.inl (p2.at hb1 loose_tup))⟩, ?_⟩
      have le1 := flat_take_le (f := fun p => os.flatMap fun q => (KM.terms wle (KM.FF p.1 q.1)).map fun x => (x.1, x.2 * (p.2 * q.2))) hp
      refine for_tup (xs := bs.map V.ref) (fun j σ H4 => ∃ y5 y6 y7 y8 m, σ = [some (.ref a), some (.ref b), some (.ref d), some (.ref q1), some (.int pr.2), y5, y6, y7, y8] ∧ Ex T H H4 ∧ H4 d = some (.dT (encD m)) ∧
          Acc m (prodS (ts.take i) os ++ (os.take j).flatMap fun q => (KM.terms wle (KM.FF pr.1 q.1)).map fun x => (x.1, x.2 * (pr.2 * q.2))))
        ⟨y5, y6, y7, y8, m, rfl, p2, p3, by simpa using p4⟩ (fun j σ H4 _ p => ?_) (fun j x σ H4 hx' p => ?_) (fun σ H4 p => ?_)
      · obtain ⟨_, _, _, _, _, _, p2, _⟩ := p
        exact .inl (.inl (p2.at hb1 loose_tup))
      · obtain ⟨y5, y6, y7, y8, m, rfl, p2, p3, p4⟩ := p
        obtain ⟨t2, qr, rfl, hp', _, q2, hq3, hq4⟩ := IsTm.nth hb2 hx'
        have hqm := List.mem_of_getElem? hp'
        refine ⟨t2, _, rfl, .inl (.inl (p2.at hq3 loose_tup)), rfl, _, _, rfl, _, _, rfl, rfl, ?_⟩
        have le2 := flat_take_le (f := fun q => (KM.terms wle (KM.FF pr.1 q.1)).map fun x => (x.1, x.2 * (pr.2 * q.2))) hp'
        refine ⟨.ref q1, rfl, .ref q2, rfl, q1, q2, pr.1, qr.1, rfl, IsW.ex p2 hq2, IsW.ex p2 hq4, (fit.l pr hpm).1, (fit.r qr hqm).1, fit.d hpm hqm, p2.tabs hTb, fun H5 r e5 hr5 => ?_⟩
        obtain ⟨rs, hr1, hr2⟩ := hr5
        have p5 := p2.trans e5
        have g5 := e5.at p3 loose_dT
        have eD : Ex T H (delA H5 d) := p5.del hd g5 loose_dT
        have dr1 : delA H5 d r = some (.tup (rs.map V.ref)) := by rw [delA_ne (ne_of hr1 g5 (fun z => by cases z))]; exact hr1
        have dr2 : Paired (IsPr (delA H5 d)) rs (KM.terms wle (KM.FF pr.1 qr.1)) := paired_mono (fun _ _ h => IsPr.del h g5) hr2
        refine ⟨r, rfl, ⟨_, .inl (.inl hr1)⟩, ?_⟩
        refine for_tup (xs := rs.map V.ref) (fun k σ H6 => ∃ y7 y8 m, σ = [some (.ref a), some (.ref b), some (.ref d), some (.ref q1), some (.int pr.2), some (.ref q2), some (.int qr.2), y7, y8] ∧ Ex T (delA H5 d) H6 ∧ H6 d = some (.dT (encD m)) ∧
            Acc m ((prodS (ts.take i) os ++ (os.take j).flatMap fun q => (KM.terms wle (KM.FF pr.1 q.1)).map fun x => (x.1, x.2 * (pr.2 * q.2))) ++ ((KM.terms wle (KM.FF pr.1 qr.1)).take k).map fun x => (x.1, x.2 * (pr.2 * qr.2))))
          ⟨y7, y8, m, rfl, Ex.same delA_same, g5, by simpa using p4⟩ (fun k σ H6 _ p => ?_) (fun k x σ H6 hx'' p => ?_) (fun σ H6 p => ?_)
        · obtain ⟨_, _, _, _, p2, _⟩ := p
          exact .inl (.inl (p2.at dr1 loose_tup))
        · obtain ⟨y7, y8, m, rfl, p6, p7, p8⟩ := p
          obtain ⟨t3, xr, rfl, hp'', _, q3, hq5, hq6⟩ := IsTm.nth dr2 hx''
          have hxm := List.mem_of_getElem? hp''
          refine ⟨t3, _, rfl, .inl (.inl (p6.at hq5 loose_tup)), rfl, _, _, rfl, _, _, rfl, rfl, ?_⟩
          have b1 := FF_small (fit.d hpm hqm) xr hxm
          have b2 := (fit.l pr hpm).2
          have b3 := (fit.r qr hqm).2
          refine ⟨.ref d, rfl, .ref q3, rfl, _, rfl, _, rfl, _, _, rfl, rfl, wide_mul b1 b2 (by decide) (by decide) (by decide), _, rfl, _, _, rfl, rfl, wide_mul (wide_lt b1 b2) b3 (by decide) (by decide) (by decide), d, q3, m, xr.1, xr.2 * pr.2 * qr.2, rfl, p7, IsW.ex p6 hq6, p8.nd, ?_, ?_⟩
          · have := p8.le
            simp only [List.length_append, List.length_map, List.length_take] at this le1 le2
            unfold prodS at *
            rw [sizeLine_eq]; omega
          · refine ⟨_, _, _, rfl, p6.put delA_self p7 loose_dT, upd_same, ?_⟩
            rw [take_snoc hp'', List.map_append, ← List.append_assoc, Int.mul_assoc]
            exact p8.add _ _
        · obtain ⟨y7, y8, m, rfl, p6, p7, p8⟩ := p
          refine ⟨_, _, _, _, m, rfl, eD.trans p6, p7, ?_⟩
          rw [flat_take_succ hp', ← List.append_assoc]
          rw [List.length_map, IsTm.len dr2, List.take_length] at p8
          exact p8
      · obtain ⟨y5, y6, y7, y8, m, rfl, p2, p3, p4⟩ := p
        rw [List.length_map, lb, List.take_length] at p4
        refine ⟨_, _, _, _, _, _, m, rfl, p2, p3, ?_⟩
        rw [prodS, flat_take_succ hp]
        exact p4
    · obtain ⟨y3, y4, y5, y6, y7, y8, m, rfl, p2, p3, p4⟩ := p
      rw [List.length_map, la, List.take_length] at p4
      refine ⟨.ref d, rfl, d, m, rfl, p3, p4.nd, Nat.le_trans p4.le hSz, p2.tabs hTb, fun H4 r e4 hr4 => q H4 r (p2.trans e4) ?_⟩
      rw [← prodS_terms, ← p4.terms]; exact hr4
end
end KW

set_option Elab.async false
set_option linter.all false
set_option maxRecDepth 100000
namespace KW
open PySem PySem.Spec PyProof.Rows L2 LamX KR
section
variable {P : Program} {w : World} {K : PySem.W.Frag} {mg : Str → Option Value} {base : Heap} {T : List (Addr × Str)}
/-! ### _law_terms_times -/
abbrev CalShuffled (P : Program) (w : World) (K : PySem.W.Frag) (mg : Str → Option Value) (base : Heap) (T : List (Addr × Str)) := Cal P w K mg base 1 "_law_shuffled" ["one", "other"] (spShuffled T)
theorem scTermsTimes : FnScope ["one", "other", "found", "word", "many", "its", "often", "made", "whole"] ["one", "other"] (defScope sTermsTimes) := ⟨rfl, rfl, rfl, by decide +kernel, rfl, by decide +kernel, by decide +kernel⟩
theorem acc_small {mm : FS} {u v : Wd} (h : Acc mm (KM.FF u v)) (hd : dl u.length v.length ≤ 1000000) {x : Wd × Int} (hx : x ∈ mm) : x.2.natAbs < 2 ^ 20 := by
  have e := KM.coef_mem h.nd hx
  rw [h.co] at e
  have h1 := coef_le (Sz.FF u v) x.1
  rw [e, Nat.mul_one] at h1
  exact Nat.lt_of_le_of_lt (Nat.le_trans h1 (Nat.le_trans (FF_len u v) hd)) small_lt
theorem ok_termsTimes {f : Addr} {fd : FuncData} (F : Fun K "_law_terms_times" "_law_terms_times" sTermsTimes f fd) (GT : CalTerms P w K mg base T) (GS : CalShuffled P w K mg base T) :
    FnOk P w K mg base CX0 3 f fd ["one", "other"] (spTimes T) := by
  obtain ⟨fT, fdT, FT, mT, kT, bT⟩ := GT
  obtain ⟨fS, fdS, FS', mS, kS, bS⟩ := GS
  refine F.ok (k := 2) scTermsTimes (fun vs H Q E h => ?_) (fun cdv A outer s H vs Q E hr h => ?_)
  · obtain ⟨a, b, ts, os, rfl, _⟩ := h
    rfl
  · obtain ⟨a, b, ts, os, rfl, ha, hb, fit, hTb, q⟩ := h
    have nd := scTermsTimes.nd
    have hu := hu_of hr
    refine ⟨_, pss_cons (ps_set (i := 2) nd rfl (.inl rfl) pe_dnewT)
      (pss_cons (ps_for PassesOwn.never rfl (pi_tup (pv 0)) (pg_tup rfl (pgs_cons (pg_name (i := 3) nd rfl (.inl rfl)) (pgs_cons (pg_name (i := 4) nd rfl (.inl rfl)) pgs_nil)))
        (pss_one (ps_for PassesOwn.never rfl (pi_tup (pv 1)) (pg_tup rfl (pgs_cons (pg_name (i := 5) nd rfl (.inl rfl)) (pgs_cons (pg_name (i := 6) nd rfl (.inl rfl)) pgs_nil)))
          (pss_cons (ps_set (i := 7) nd rfl (.inl rfl) (pe_call FS' (hr.mono (by decide)) (by rfl) mS kS bS .nil pass0 (pa_cons (pv 3) (pa_cons (pv 5) pa_nil))))
          (pss_one (ps_lock (ps_for PassesOwn.never rfl (pi_keys (pv 7)) (pg_name (i := 8) nd rfl (.inl rfl))
            (pss_one (ps_dput hu (pv 2) (pv 8) (pe_op op_add (pe_dget2 hu (pv 2) (pv 8) pe_int ⟨rfl, rfl, rfl, rfl⟩) (pe_op op_mulW (pe_op op_mulW (pv 4) (pv 6)) (pe_dget hu (pv 7) (pv 8) (fun _ _ => rfl)))) rfl)))))))))
      (pss_one (ps_ret (pe_call FT hr (by rfl) mT kT bT .nil pass0 (pa_cons (pv 2) pa_nil))))), ?_⟩
    intro d hd
    obtain ⟨as, ha1, ha2⟩ := ha
    obtain ⟨bs, hb1, hb2⟩ := hb
    have la := IsTm.len ha2
    have lb := IsTm.len hb2
    have e1 : Ex T H (upd H d (.dT [])) := (Ex.refl H).new hd
    have hSz := fit.len.2
    refine ⟨.ref a, rfl, a, rfl, ⟨_, .inl (.inl (e1.at ha1 loose_tup))⟩, ?_⟩
    refine for_tup (xs := as.map V.ref) (fun i σ H3 => ∃ y3 y4 y5 y6 y7 y8 m, σ = [some (.ref a), some (.ref b), some (.ref d), y3, y4, y5, y6, y7, y8] ∧ Ex T H H3 ∧ H3 d = some (.dT (encD m)) ∧ Acc m (KM.mulF (ts.take i) os))
      ⟨none, none, none, none, none, none, [], rfl, e1, upd_same, Acc.nil⟩ (fun i σ H3 _ p => ?_) (fun i x σ H3 hx p => ?_) (fun σ H3 p => ?_)
    · obtain ⟨_, _, _, _, _, _, _, _, p2, _⟩ := p
      exact .inl (.inl (p2.at ha1 loose_tup))
    · obtain ⟨y3, y4, y5, y6, y7, y8, m, rfl, p2, p3, p4⟩ := p
      obtain ⟨t1, pr, rfl, hp, _, q1, hq1, hq2⟩ := IsTm.nth ha2 hx
      have hpm := List.mem_of_getElem? hp
      refine ⟨t1, _, rfl, .inl (.inl (p2.at hq1 loose_tup)), rfl, _, _, rfl, _, _, rfl, rfl, ?_⟩
      refine ⟨.ref b, rfl, b, rfl, ⟨_, .inl (.inl (p2.at hb1 loose_tup))⟩, ?_⟩
      have le1 := flat_take_le (f := fun p => os.flatMap fun q => KM.scl (p.2 * q.2) (KM.FF p.1 q.1)) hp
      refine for_tup (xs := bs.map V.ref) (fun j σ H4 => ∃ y5 y6 y7 y8 m, σ = [some (.ref a), some (.ref b), some (.ref d), some (.ref q1), some (.int pr.2), y5, y6, y7, y8] ∧ Ex T H H4 ∧ H4 d = some (.dT (encD m)) ∧
          Acc m (KM.mulF (ts.take i) os ++ (os.take j).flatMap fun q => KM.scl (pr.2 * q.2) (KM.FF pr.1 q.1)))
        ⟨y5, y6, y7, y8, m, rfl, p2, p3, by simpa using p4⟩ (fun j σ H4 _ p => ?_) (fun j x σ H4 hx' p => ?_) (fun σ H4 p => ?_)
      · obtain ⟨_, _, _, _, _, _, p2, _⟩ := p
        exact .inl (.inl (p2.at hb1 loose_tup))
      · obtain ⟨y5, y6, y7, y8, m, rfl, p2, p3, p4⟩ := p
        obtain ⟨t2, qr, rfl, hp', _, q2, hq3, hq4⟩ := IsTm.nth hb2 hx'
        have hqm := List.mem_of_getElem? hp'
        refine ⟨t2, _, rfl, .inl (.inl (p2.at hq3 loose_tup)), rfl, _, _, rfl, _, _, rfl, rfl, ?_⟩
        have le2 := flat_take_le (f := fun q => KM.scl (pr.2 * q.2) (KM.FF pr.1 q.1)) hp'
        refine ⟨.ref q1, rfl, .ref q2, rfl, q1, q2, pr.1, qr.1, rfl, IsW.ex p2 hq2, IsW.ex p2 hq4, (fit.l pr hpm).1, (fit.r qr hqm).1, fit.d hpm hqm, fun H5 md mm e5 fr gm am => ?_⟩
        have p5 := p2.trans e5
        have g5 := e5.at p3 loose_dT
        have nmd : d ≠ md := fun z => fr _ (by rw [← z]; exact p3) loose_dT
        have eD : Ex T H (delA H5 d) := p5.del hd g5 loose_dT
        have dm : delA H5 d md = some (.dT (encD mm)) := by rw [delA_ne (Ne.symm nmd)]; exact gm
        refine ⟨md, .dT (encD mm), gm, True.intro, fun od => ⟨_, rfl, md, od, rfl, .inr ⟨encD mm, upd_same, ?_⟩⟩⟩
        have e2 : Ex T (upd (delA H5 d) md (.frz od (.dT (encD mm)))) (upd H5 md (.frz od (.dT (encD mm)))) := (Ex.same delA_same).lock dm loose_dT
        have nB : upd (delA H5 d) md (.frz od (.dT (encD mm))) d = none := by rw [upd_ne nmd]; exact delA_self
        refine for_of (n := mm.length) (fun k σ H6 => ∃ y8 m, σ = [some (.ref a), some (.ref b), some (.ref d), some (.ref q1), some (.int pr.2), some (.ref q2), some (.int qr.2), some (.ref md), y8] ∧ Ex T (upd (delA H5 d) md (.frz od (.dT (encD mm)))) H6 ∧ H6 d = some (.dT (encD m)) ∧
            Acc m ((KM.mulF (ts.take i) os ++ (os.take j).flatMap fun q => KM.scl (pr.2 * q.2) (KM.FF pr.1 q.1)) ++ (mm.take k).map fun x => (x.1, x.2 * (pr.2 * qr.2))))
          ⟨y8, m, rfl, e2, by rw [upd_ne nmd]; exact g5, by simpa using p4⟩ (fun k σ H6 hk p => ?_) (fun σ H6 p => ?_) (fun k σ H6 x H7 hk p y => ?_) (fun σ H6 p => ?_)
        · obtain ⟨_, _, _, p6, _⟩ := p
          exact ⟨p6.at upd_same loose_frz, by rw [encD_length]; exact hk⟩
        · obtain ⟨_, _, _, p6, _⟩ := p
          exact ⟨p6.at upd_same loose_frz, Nat.le_of_eq (encD_length mm)⟩
        · obtain ⟨y8, m, rfl, p6, p7, p8⟩ := p
          obtain ⟨rfl, ky, vl, q', hky, rfl, hq'⟩ := y
          obtain ⟨xr, hp'', rfl, rfl⟩ := encD_get hky
          have hxm := List.mem_of_getElem? hp''
          have hq6 : IsW H7 q' xr.1 := (by rw [← encW_kV]; exact hq' : H7 q' = some (.tup (xr.1.map V.str)))
          have hfz : H7 md = some (.frz od (.dT (encD mm))) := p6.at upd_same loose_frz
          have b1 := acc_small am (fit.d hpm hqm) hxm
          have b2 := (fit.l pr hpm).2
          have b3 := (fit.r qr hqm).2
          refine ⟨_, rfl, d, rfl, .inr ⟨_, .inl p7⟩, _, rfl, _, .t p7 (IsW.key hq6), _, rfl, _, rfl, _, _, rfl, rfl, wide_mul b2 b3 (by decide) (by decide) (by decide), _, rfl, _, rfl, md, _, rfl, .inr ⟨_, _, _, .inr ⟨od, hfz⟩, rfl, hq', (valV_mem am.nd hp'').symm⟩, _, _, rfl, rfl, wide_mul (wide_lt b2 b3) b1 (by decide) (by decide) (by decide), ?_⟩
          rw [(valV_enc xr.1 p8.nd).1]
          refine ⟨_, _, rfl, rfl, _, rfl, _, rfl, d, _, rfl, .t p7 (IsW.key hq6) ?_, ?_⟩
          · have h1 := p8.le
            have h2 := am.le
            have h3 : (KM.scl (pr.2 * qr.2) (KM.FF pr.1 qr.1)).length = (KM.FF pr.1 qr.1).length := List.length_map _
            simp only [List.length_append, List.length_map, List.length_take] at h1 le1 le2
            unfold KM.mulF at *
            rw [encD_length, sizeLine_eq]; omega
          · rw [putK_enc p8.nd]
            refine ⟨_, _, rfl, p6.put nB p7 loose_dT, upd_same, ?_⟩
            rw [take_snoc hp'', List.map_append, ← List.append_assoc, Int.mul_comm (pr.2 * qr.2) xr.2]
            exact p8.add _ _
        · obtain ⟨y8, m, rfl, p6, p7, p8⟩ := p
          obtain ⟨hf, e3⟩ := lock_back dm loose_dT p6
          refine ⟨hf, _, _, _, _, m, rfl, eD.trans e3, unlock_at hf p7 (fun _ _ z => by cases z), ?_⟩
          rw [flat_take_succ hp', ← List.append_assoc]
          rw [List.take_length] at p8
          refine p8.to (fun w => ?_) ?_
          · rw [KM.coef_append, KM.coef_append _ (KM.scl _ _), coef_map_scl, KM.coef_scl, am.co]
          · have h2 := am.le
            have h3 : (KM.scl (pr.2 * qr.2) (KM.FF pr.1 qr.1)).length = (KM.FF pr.1 qr.1).length := List.length_map _
            simp only [List.length_append, List.length_map, h3]
            omega
      · obtain ⟨y5, y6, y7, y8, m, rfl, p2, p3, p4⟩ := p
        rw [List.length_map, lb, List.take_length] at p4
        refine ⟨_, _, _, _, _, _, m, rfl, p2, p3, ?_⟩
        rw [KM.mulF, flat_take_succ hp]
        exact p4
    · obtain ⟨y3, y4, y5, y6, y7, y8, m, rfl, p2, p3, p4⟩ := p
      rw [List.length_map, la, List.take_length] at p4
      refine ⟨.ref d, rfl, d, m, rfl, p3, p4.nd, Nat.le_trans p4.le hSz, p2.tabs hTb, fun H4 r e4 hr4 => q H4 r (p2.trans e4) ?_⟩
      rw [← p4.terms]; exact hr4
end
end KW

set_option Elab.async false
set_option linter.all false
set_option maxRecDepth 100000
namespace KW
open PySem PySem.Spec PyProof.Rows L2 LamX KR
/-! ### powers and choices -/
def powT (p : Wd) : Nat → FS
  | 0 => [([], 1)]
  | k + 1 => KM.terms wle (KM.mulF (powT p k) [(p, 1)])
def lessT (ts : FS) (p : Wd) (k : Nat) : FS := KM.terms wle (KM.terms wle (KM.mulF ts [(p, 1)]) ++ ts.map fun x => (x.1, 0 - (k : Int) * x.2))
def choT (p : Wd) : Nat → FS
  | 0 => [([], 1)]
  | k + 1 => lessT (choT p k) p k
theorem sz_one {p : Wd} (h : p.length ≤ 2) : Sz 2 1 1 [(p, 1)] := (Sz.one p).mono h (Nat.le_refl _) (Nat.le_refl _)
theorem sz_less {A M B k : Nat} {ts : FS} (h : Sz A M B ts) (hk : k ≤ 4) : Sz A M (4 * B) (ts.map fun x => (x.1, 0 - (k : Int) * x.2)) := by
  refine ⟨by rw [List.length_map]; exact h.1, fun p hp => ?_⟩
  obtain ⟨q, hq, rfl⟩ := List.mem_map.mp hp
  obtain ⟨h1, h2⟩ := h.2 q hq
  refine ⟨h1, ?_⟩
  have e : (0 - (k : Int) * q.2).natAbs = k * q.2.natAbs := by
    rw [Int.zero_sub, Int.natAbs_neg, Int.natAbs_mul, Int.natAbs_natCast]
  show (0 - (k : Int) * q.2).natAbs ≤ _
  rw [e]
  exact Nat.mul_le_mul hk h2
theorem step_pow {A M B : Nat} {p : Wd} {ts : FS} (h : Sz A M B ts) (hp : p.length ≤ 2) : Sz (A + 2) (M * dl A 2) (M * dl A 2 * B) (KM.terms wle (KM.mulF ts [(p, 1)])) := by
  have := (h.mulF (sz_one hp)).terms
  rw [Nat.one_mul, Nat.mul_one] at this
  exact this
theorem step_less {A M B k : Nat} {p : Wd} {ts : FS} (h : Sz A M B ts) (hp : p.length ≤ 2) (hk : k ≤ 4) : Sz (A + 2) (M * dl A 2 + M) ((M * dl A 2 + M) * (M * dl A 2 * B + 4 * B)) (lessT ts p k) := by
  refine ((step_pow h hp).app (sz_less h hk)).terms.mono (by omega) (Nat.le_refl _) (Nat.mul_le_mul_left _ (by omega))
theorem lt2000 {B : Nat} (h : B < 2 ^ 200) : B < 2 ^ 2000 := Nat.lt_of_lt_of_le h (Nat.pow_le_pow_right (by decide) (by decide))
theorem fit_of {A M B : Nat} {p : Wd} {ts : FS} (h : Sz A M B ts) (hp : p.length ≤ 2) (h1 : A ≤ 100) (h2 : dl A 2 ≤ 1000000) (h3 : M * dl A 2 ≤ 1000000) (h4 : B < 2 ^ 2000) : Fit ts [(p, 1)] :=
  ⟨A, M, B, 2, 1, 1, h, sz_one hp, h1, by decide, h2, by rw [Nat.one_mul]; exact h3, h4, lt2000 (by decide)⟩
theorem d02 : dl 0 2 = 1 := by simp [dl]
theorem d22 : dl 2 2 = 13 := by simp [dl]
theorem d42 : dl 4 2 = 41 := by simp [dl]
theorem d62 : dl 6 2 = 85 := by simp [dl]
theorem d63 : dl 6 3 = 377 := by simp [dl]
theorem d33 : dl 3 3 = 63 := by simp [dl]
theorem pow_sz {p : Wd} (hp : p.length ≤ 2) : ∀ k, k ≤ 4 → ∃ A M B, Sz A M B (powT p k) ∧ M ≤ 100000 ∧ B < 2 ^ 100 ∧ A ≤ 8 ∧ (k ≤ 3 → Fit (powT p k) [(p, 1)]) := by
  have s0 : Sz 0 1 1 (powT p 0) := (Sz.one []).mono (Nat.le_refl _) (Nat.le_refl _) (Nat.le_refl _)
  have s1 : Sz 2 1 1 (powT p 1) := (step_pow s0 hp).mono (by decide) (by first | (simp only [d02, d22, d42, d62]; done) | (simp only [d02, d22, d42, d62]; decide)) (by first | (simp only [d02, d22, d42, d62]; done) | (simp only [d02, d22, d42, d62]; decide))
  have s2 : Sz 4 13 13 (powT p 2) := (step_pow s1 hp).mono (by decide) (by first | (simp only [d02, d22, d42, d62]; done) | (simp only [d02, d22, d42, d62]; decide)) (by first | (simp only [d02, d22, d42, d62]; done) | (simp only [d02, d22, d42, d62]; decide))
  have s3 : Sz 6 533 6929 (powT p 3) := (step_pow s2 hp).mono (by decide) (by first | (simp only [d02, d22, d42, d62]; done) | (simp only [d02, d22, d42, d62]; decide)) (by first | (simp only [d02, d22, d42, d62]; done) | (simp only [d02, d22, d42, d62]; decide))
  have s4 : Sz 8 45305 313918345 (powT p 4) := (step_pow s3 hp).mono (by decide) (by first | (simp only [d02, d22, d42, d62]; done) | (simp only [d02, d22, d42, d62]; decide)) (by first | (simp only [d02, d22, d42, d62]; done) | (simp only [d02, d22, d42, d62]; decide))
  intro k hk
  match k, hk with
  | 0, _ => exact ⟨_, _, _, s0, by decide, by decide, by decide, fun _ => fit_of s0 hp (by decide) (by first | (simp only [d02, d22, d42, d62]; done) | (simp only [d02, d22, d42, d62]; decide)) (by first | (simp only [d02, d22, d42, d62]; done) | (simp only [d02, d22, d42, d62]; decide)) (lt2000 (by decide))⟩
  | 1, _ => exact ⟨_, _, _, s1, by decide, by decide, by decide, fun _ => fit_of s1 hp (by decide) (by first | (simp only [d02, d22, d42, d62]; done) | (simp only [d02, d22, d42, d62]; decide)) (by first | (simp only [d02, d22, d42, d62]; done) | (simp only [d02, d22, d42, d62]; decide)) (lt2000 (by decide))⟩
  | 2, _ => exact ⟨_, _, _, s2, by decide, by decide, by decide, fun _ => fit_of s2 hp (by decide) (by first | (simp only [d02, d22, d42, d62]; done) | (simp only [d02, d22, d42, d62]; decide)) (by first | (simp only [d02, d22, d42, d62]; done) | (simp only [d02, d22, d42, d62]; decide)) (lt2000 (by decide))⟩
  | 3, _ => exact ⟨_, _, _, s3, by decide, by decide, by decide, fun _ => fit_of s3 hp (by decide) (by first | (simp only [d02, d22, d42, d62]; done) | (simp only [d02, d22, d42, d62]; decide)) (by first | (simp only [d02, d22, d42, d62]; done) | (simp only [d02, d22, d42, d62]; decide)) (lt2000 (by decide))⟩
  | 4, _ => exact ⟨_, _, _, s4, by decide, by decide, by decide, fun h => absurd h (by decide)⟩
theorem cho_sz {p : Wd} (hp : p.length ≤ 2) : ∀ k, k ≤ 4 → ∃ A M B, Sz A M B (choT p k) ∧ M ≤ 110000 ∧ B < 2 ^ 200 ∧ A ≤ 8 ∧ (k ≤ 3 → M ≤ 2000) := by
  have s0 : Sz 0 1 1 (choT p 0) := (Sz.one []).mono (Nat.le_refl _) (Nat.le_refl _) (Nat.le_refl _)
  have s1 : Sz 2 2 10 (choT p 1) := (step_less s0 hp (by decide)).mono (by decide) (by first | (simp only [d02, d22, d42, d62]; done) | (simp only [d02, d22, d42, d62]; decide)) (by first | (simp only [d02, d22, d42, d62]; done) | (simp only [d02, d22, d42, d62]; decide))
  have s2 : Sz 4 28 8400 (choT p 2) := (step_less s1 hp (by decide)).mono (by decide) (by first | (simp only [d02, d22, d42, d62]; done) | (simp only [d02, d22, d42, d62]; decide)) (by first | (simp only [d02, d22, d42, d62]; done) | (simp only [d02, d22, d42, d62]; decide))
  have s3 : Sz 6 1176 11380000000 (choT p 3) := (step_less s2 hp (by decide)).mono (by decide) (by first | (simp only [d02, d22, d42, d62]; done) | (simp only [d02, d22, d42, d62]; decide)) (by first | (simp only [d02, d22, d42, d62]; done) | (simp only [d02, d22, d42, d62]; decide))
  have s4 : Sz 8 101136 (2 ^ 100) (choT p 4) := (step_less s3 hp (by decide)).mono (by decide) (by first | (simp only [d02, d22, d42, d62]; done) | (simp only [d02, d22, d42, d62]; decide)) (by first | (simp only [d02, d22, d42, d62]; done) | (simp only [d02, d22, d42, d62]; decide))
  intro k hk
  match k, hk with
  | 0, _ => exact ⟨_, _, _, s0, by decide, by decide, by decide, fun _ => by decide⟩
  | 1, _ => exact ⟨_, _, _, s1, by decide, by decide, by decide, fun _ => by decide⟩
  | 2, _ => exact ⟨_, _, _, s2, by decide, by decide, by decide, fun _ => by decide⟩
  | 3, _ => exact ⟨_, _, _, s3, by decide, by decide, by decide, fun _ => by decide⟩
  | 4, _ => exact ⟨_, _, _, s4, by decide, by decide, by decide, fun h => absurd h (by decide)⟩
theorem less_fit {A M B : Nat} {p : Wd} {ts : FS} (h : Sz A M B ts) (hp : p.length ≤ 2) (h1 : A ≤ 8) (h2 : M ≤ 2000) (h3 : B < 2 ^ 200) : Fit ts [(p, 1)] ∧ (KM.terms wle (KM.mulF ts [(p, 1)])).length + ts.length ≤ 1000000 ∧ ∀ x ∈ ts, x.2.natAbs < 2 ^ 200 := by
  have d82 : dl 8 2 = 145 := by simp [dl]
  have e1 : dl A 2 ≤ 145 := by rw [← d82]; exact dl_mono h1 (Nat.le_refl _)
  have e2 : M * dl A 2 ≤ 2000 * 145 := Nat.mul_le_mul h2 e1
  refine ⟨fit_of h hp (by omega) (by omega) (by omega) (lt2000 h3), ?_, fun x hx => Nat.lt_of_le_of_lt (h.2 x hx).2 h3⟩
  have e3 := (step_pow h hp).1
  have e4 := h.1
  omega
section
variable {T : List (Addr × Str)}
theorem seq_asg {te : TE} {g : TG} {u : TS} {D : Ends} {σ : L2.St} {H : Hp} (h : te σ H fun x H1 => g x σ H1 (u D)) : tSeq (tAsg te g) u D σ H := h
theorem one_term {tp : TE} {σ : L2.St} {H : Hp} {Q : VK} {u : Wd} (htp : ∀ R : VK, (∀ q H1, Ex T H H1 → IsW H1 q u → R (.ref q) H1) → tp σ H R) (hQ : ∀ r H', Ex T H H' → IsTm H' r [(u, 1)] → Q (.ref r) H') :
    tTup (tCons (tTup (tCons tp (tCons (tC (.int 1)) tNil))) tNil) σ H Q := by
  refine htp _ fun q H1 e1 hq => ⟨by show 2 ≤ sizeLine; decide, fun t ht => ⟨by show 1 ≤ sizeLine; decide, fun r hr => ?_⟩⟩
  have e2 : Ex T H1 (upd H1 t (.tup [.ref q, .int 1])) := (Ex.refl H1).new ht
  have e3 : Ex T H1 (upd (upd H1 t (.tup [.ref q, .int 1])) r (.tup [.ref t])) := e2.new hr
  refine hQ r _ (e1.trans e3) ⟨[t], upd_same, .cons ⟨q, ?_, IsW.ex e3 hq⟩ .nil⟩
  rw [upd_ne (fun z => by rw [← z, upd_same] at hr; cases hr), upd_same]
theorem nil_word {σ : L2.St} {H : Hp} (R : VK) (h : ∀ q H1, Ex T H H1 → IsW H1 q [] → R (.ref q) H1) : tTup tNil σ H R :=
  ⟨Nat.zero_le _, fun p hp => h p _ ((Ex.refl H).new hp) upd_same⟩
end
section
variable {P : Program} {w : World} {K : PySem.W.Frag} {mg : Str → Option Value} {base : Heap} {T : List (Addr × Str)}
abbrev CalTermsProduct (P : Program) (w : World) (K : PySem.W.Frag) (mg : Str → Option Value) (base : Heap) (T : List (Addr × Str)) := Cal P w K mg base 4 "terms_product" ["terms", "others"] (spTimes T)
abbrev CalTermsTimes (P : Program) (w : World) (K : PySem.W.Frag) (mg : Str → Option Value) (base : Heap) (T : List (Addr × Str)) := Cal P w K mg base 3 "_law_terms_times" ["one", "other"] (spTimes T)
abbrev CalTermsSum (P : Program) (w : World) (K : PySem.W.Frag) (mg : Str → Option Value) (base : Heap) (T : List (Addr × Str)) := Cal P w K mg base 3 "terms_sum" ["terms", "others"] (spTermsSum T)
abbrev CalAddedTerms (P : Program) (w : World) (K : PySem.W.Frag) (mg : Str → Option Value) (base : Heap) (T : List (Addr × Str)) := Cal P w K mg base 1 "_law_added_terms" ["terms", "others"] (spAddedTerms T)
theorem scPowerOf : FnScope ["pattern", "many", "found", "turn"] ["pattern", "many"] (defScope sPowerOf) := ⟨rfl, rfl, rfl, by decide +kernel, rfl, by decide +kernel, by decide +kernel⟩
def spPow (T : List (Addr × Str)) (g : Wd → Nat → FS) : Sp := fun vs H Q _ => ∃ (a : Addr) (u : Wd) (n : Nat), vs = [.ref a, .int (n : Int)] ∧ IsW H a u ∧ u.length ≤ 2 ∧ n ≤ 4 ∧ Tabs T H ∧ ∀ H' r, Ex T H H' → IsTm H' r (g u n) → Q (.ref r) H'
theorem ok_powerOf {f : Addr} {fd : FuncData} (F : Fun K "power_of" "power_of" sPowerOf f fd) (GP : CalTermsProduct P w K mg base T) (mr : mg "range" = none) : FnOk P w K mg base CX0 5 f fd ["pattern", "many"] (spPow T powT) := by
  obtain ⟨fP, fdP, FP, mP, kP, bP⟩ := GP
  refine F.ok (k := 4) scPowerOf (fun vs H Q E h => ?_) (fun cdv A outer s H vs Q E hr h => ?_)
  · obtain ⟨a, u, n, rfl, _⟩ := h
    rfl
  · obtain ⟨a, u, n, rfl, ha, hu1, hn, hTb, q⟩ := h
    have nd := scPowerOf.nd
    refine ⟨_, pss_cons (ps_set (i := 2) nd rfl (.inl rfl) (pe_tup (pa_cons (pe_tup (pa_cons (pe_tup pa_nil) (pa_cons pe_int pa_nil))) pa_nil)))
      (pss_cons (ps_for PassesOwn.never rfl (pi_range1 rfl mr (pa_cons (pv 1) pa_nil)) (pg_name (i := 3) nd rfl (.inl rfl))
        (pss_one (ps_set (i := 2) nd rfl (.inl rfl) (pe_call FP hr (by rfl) mP kP bP .nil pass0 (pa_cons (pv 2) (pa_cons (pe_tup (pa_cons (pe_tup (pa_cons (pv 0) (pa_cons pe_int pa_nil))) pa_nil)) pa_nil))))))
      (pss_one (ps_ret (pv 2)))), ?_⟩
    refine seq_asg (one_term (T := T) (u := []) (fun R h => nil_word R h) fun r0 H1 e1 hr0 => ?_)
    refine ⟨_, rfl, (n : Int), rfl, by omega, by omega, ?_⟩
    refine for_range (n := n) (fun i σ H3 => ∃ y3 r, σ = [some (.ref a), some (.int n), some (.ref r), y3] ∧ Ex T H H3 ∧ IsTm H3 r (powT u i)) ⟨none, r0, rfl, e1, hr0⟩ (fun i σ H3 hi p => ?_) (fun σ H3 p => ?_)
    · obtain ⟨y3, r, rfl, p2, p3⟩ := p
      obtain ⟨_, _, _, _, _, _, _, fit⟩ := pow_sz hu1 i (by omega)
      refine ⟨_, rfl, ?_⟩
      refine one_term (T := T) (u := u) (fun R h => ⟨_, rfl, h a H3 (Ex.refl H3) (IsW.ex p2 ha)⟩) fun r1 H4 e4 hr1 => ?_
      exact ⟨r, r1, powT u i, [(u, 1)], rfl, IsTm.ex e4 p3, hr1, fit (by omega), (p2.trans e4).tabs hTb, fun H5 r5 e5 hr5 => ⟨_, r5, rfl, (p2.trans e4).trans e5, hr5⟩⟩
    · obtain ⟨y3, r, rfl, p2, p3⟩ := p
      exact ⟨_, rfl, q H3 r p2 p3⟩
end
end KW

set_option Elab.async false
set_option linter.all false
set_option maxRecDepth 100000
namespace KW
open PySem PySem.Spec PyProof.Rows L2 LamX KR
theorem map_take_snoc {f : Wd × Int → Wd × Int} {ts : FS} {i : Nat} {p : Wd × Int} (h : ts[i]? = some p) : (ts.take (i + 1)).map f = (ts.take i).map f ++ [f p] := by
  rw [take_snoc h, List.map_append]; rfl
section
variable {P : Program} {w : World} {K : PySem.W.Frag} {mg : Str → Option Value} {base : Heap} {T : List (Addr × Str)}
/-- the list of pairs is made a tuple -/
theorem some_tuple {H0 H3 : Hp} {D : Addr} {ts : FS} {Q : VK} (p : SomeAt T H0 D ts H3) (q : ∀ r H', Ex T H0 H' → IsTm H' r ts → Q (.ref r) H') : ∀ l, H3 l = none → ∀ ys, H3 D = some (.lst ys) → Q (.ref l) (upd H3 l (.tup ys)) := by
  intro l hl ys hys
  obtain ⟨p1, bs, p2, p3, p4⟩ := p
  rw [p2] at hys
  cases hys
  have e3 : Ex T H3 (upd H3 l (.tup (bs.map fun b => V.ref b.1))) := (Ex.refl H3).new hl
  exact q l _ (p1.trans e3) (isTm_of (SItems.ex e3 p3) p4 upd_same)
theorem scChoicesOf : FnScope ["pattern", "many", "found", "turn", "less", "word", "times"] ["pattern", "many"] (defScope sChoicesOf) := ⟨rfl, rfl, rfl, by decide +kernel, rfl, by decide +kernel, by decide +kernel⟩
theorem ok_choicesOf {f : Addr} {fd : FuncData} (F : Fun K "choices_of" "choices_of" sChoicesOf f fd) (GP : CalTermsProduct P w K mg base T) (GS : CalTermsSum P w K mg base T) (mr : mg "range" = none) (mt : mg "tuple" = none) : FnOk P w K mg base CX0 5 f fd ["pattern", "many"] (spPow T choT) := by
  obtain ⟨fP, fdP, FP, mP, kP, bP⟩ := GP
  obtain ⟨fS, fdS, FS', mS, kS, bS⟩ := GS
  refine F.ok (k := 4) scChoicesOf (fun vs H Q E h => ?_) (fun cdv A outer s H vs Q E hr h => ?_)
  · obtain ⟨a, u, n, rfl, _⟩ := h
    rfl
  · obtain ⟨a, u, n, rfl, ha, hu1, hn, hTb, q⟩ := h
    have nd := scChoicesOf.nd
    refine ⟨_, pss_cons (ps_set (i := 2) nd rfl (.inl rfl) (pe_tup (pa_cons (pe_tup (pa_cons (pe_tup pa_nil) (pa_cons pe_int pa_nil))) pa_nil)))
      (pss_cons (ps_for PassesOwn.never rfl (pi_range1 rfl mr (pa_cons (pv 1) pa_nil)) (pg_name (i := 3) nd rfl (.inr rfl))
        (pss_cons (ps_set (i := 4) nd rfl (.inl rfl) (pe_callTy call_tuple_of (by rfl) mt (by decide +kernel) (pa_cons
          (pe_lc (own := [("word", 5), ("times", 6)]) (g := gTup K 2 (gCons (gName 5) (gCons (gName 6) gNil))) (tt := tYes) (by rfl) nd (pi_tup (pv 2)) (blkOk_by (N := ["pattern", "many", "found", "turn", "less", "word", "times"]) (sc := defScope sChoicesOf) (by decide +kernel))
            (fun _ _ _ _ _ => pg_tup rfl (pgs_cons (pg_name (i := 5) nd rfl (.inl rfl)) (pgs_cons (pg_name (i := 6) nd rfl (.inl rfl)) pgs_nil))) (fun _ _ _ _ _ => pts_nil)
            (fun _ _ _ _ _ => pe_tup (pa_cons (pv 5) (pa_cons (pe_op op_sub pe_int (pe_op op_mulW (pv 3) (pv 6))) pa_nil)))) pa_nil)))
        (pss_one (ps_set (i := 2) nd rfl (.inl rfl) (pe_call FS' (hr.mono (by decide)) (by rfl) mS kS bS .nil pass0 (pa_cons
          (pe_call FP hr (by rfl) mP kP bP .nil pass0 (pa_cons (pv 2) (pa_cons (pe_tup (pa_cons (pe_tup (pa_cons (pv 0) (pa_cons pe_int pa_nil))) pa_nil)) pa_nil))) (pa_cons (pv 4) pa_nil)))))))
      (pss_one (ps_ret (pv 2)))), ?_⟩
    refine seq_asg (one_term (T := T) (u := []) (fun R h => nil_word R h) fun r0 H1 e1 hr0 => ?_)
    refine ⟨_, rfl, (n : Int), rfl, by omega, by omega, ?_⟩
    refine for_range (n := n) (fun i σ H3 => ∃ y3 y4 y5 y6 r, σ = [some (.ref a), some (.int n), some (.ref r), y3, y4, y5, y6] ∧ Ex T H H3 ∧ IsTm H3 r (choT u i)) ⟨none, none, none, none, r0, rfl, e1, hr0⟩ (fun i σ H3 hi p => ?_) (fun σ H3 p => ?_)
    · obtain ⟨y3, y4, y5, y6, r, rfl, p2, p3⟩ := p
      rw [show (V.int (0 + (i : Int))) = .int (i : Nat) by rw [Int.zero_add]]
      obtain ⟨A', M', B', hsz, _, hB, hA, hM⟩ := cho_sz hu1 i (by omega)
      obtain ⟨fit, hlen, hco⟩ := less_fit hsz hu1 hA (hM (by omega)) hB
      obtain ⟨as, ha1, ha2⟩ := p3
      have la := IsTm.len ha2
      refine ⟨_, rfl, r, rfl, ⟨_, .inl (.inl ha1)⟩, fun D hD => ?_⟩
      refine lc_tup (xs := as.map V.ref) (fun j H4 => SomeAt T H3 D (((choT u i).take j).map fun x => (x.1, 0 - (i : Int) * x.2)) H4) (SomeAt.nil hD) (fun j H4 _ p => .inl (.inl (p.1.at ha1 loose_tup))) (fun j x H4 hx p => ?_) (fun H4 p => ?_)
      · obtain ⟨t1, pr, rfl, hp, _, q1, hq1, hq2⟩ := IsTm.nth ha2 hx
        refine ⟨t1, _, rfl, .inl (.inl (p.1.at hq1 loose_tup)), rfl, _, _, rfl, _, _, rfl, rfl, rfl, ?_⟩
        unfold tYes
        refine iteT ⟨_, rfl, _, rfl, _, rfl, _, _, rfl, rfl, wide_mul (a := 3) (b := 200) ?_ (hco pr (List.mem_of_getElem? hp)) (by decide) (by decide) (by decide), _, _, rfl, rfl, by show 2 ≤ sizeLine; decide, fun t2 ht2 => ?_⟩
        · rw [Int.natAbs_natCast]
          exact Nat.lt_of_le_of_lt (show i ≤ 4 by omega) (by decide)
        · obtain ⟨acc, a1, a2, a3⟩ := p.add (n := 0 - (i : Int) * pr.2) hD (Ex.refl H4) (IsW.ex p.1 hq2) ht2
          refine ⟨acc, a1, ?_, ?_⟩
          · rw [a2, List.length_map, List.length_take, sizeLine_eq]; omega
          · rw [map_take_snoc hp]; exact a3
      · rw [List.length_map, la, List.take_length] at p
        obtain ⟨p1, bs, p4, p5, p6⟩ := p
        refine ⟨D, _, rfl, .inl ⟨.inl (.inl p4), fun rl hrl => ?_⟩⟩
        have e5 : Ex T H4 (upd H4 rl (.tup (bs.map fun b => V.ref b.1))) := (Ex.refl H4).new hrl
        have hless : IsTm (upd H4 rl (.tup (bs.map fun b => V.ref b.1))) rl ((choT u i).map fun x => (x.1, 0 - (i : Int) * x.2)) := isTm_of (SItems.ex e5 p5) p6 upd_same
        have e6 := p1.trans e5
        refine ⟨_, rfl, ?_⟩
        refine one_term (T := T) (u := u) (fun R h => ⟨_, rfl, h a _ (Ex.refl _) (IsW.ex (p2.trans e6) ha)⟩) fun r1 H7 e7 hr1 => ?_
        refine ⟨r, r1, choT u i, [(u, 1)], rfl, IsTm.ex (e6.trans e7) ⟨as, ha1, ha2⟩, hr1, fit, ((p2.trans e6).trans e7).tabs hTb, fun H8 r8 e8 hr8 => ?_⟩
        refine ⟨_, rfl, r8, rl, _, _, rfl, hr8, IsTm.ex (e7.trans e8) hless, ?_, (((p2.trans e6).trans e7).trans e8).tabs hTb, fun H9 r9 e9 hr9 => ?_⟩
        · rw [List.length_map]; exact hlen
        · exact ⟨_, _, _, _, r9, rfl, (((p2.trans e6).trans e7).trans e8).trans e9, hr9⟩
    · obtain ⟨y3, y4, y5, y6, r, rfl, p2, p3⟩ := p
      exact ⟨_, rfl, q H3 r p2 p3⟩
/-! ### _law_terms_less -/
theorem scTermsLess : FnScope ["terms", "word", "step", "one", "often"] ["terms", "word", "step"] (defScope sTermsLess) := ⟨rfl, rfl, rfl, by decide +kernel, rfl, by decide +kernel, by decide +kernel⟩
def spTermsLess (T : List (Addr × Str)) : Sp := fun vs H Q _ => ∃ (a b : Addr) (ts : FS) (u : Wd) (k : Nat), vs = [.ref a, .ref b, .int (k : Int)] ∧ IsTm H a ts ∧ IsW H b u ∧ u.length ≤ 2 ∧ k ≤ 4 ∧ (∃ A M B, Sz A M B ts ∧ A ≤ 8 ∧ M ≤ 2000 ∧ B < 2 ^ 200) ∧ Tabs T H ∧
  ∀ H' r, Ex T H H' → IsTm H' r (lessT ts u k) → Q (.ref r) H'
theorem ok_termsLess {f : Addr} {fd : FuncData} (F : Fun K "_law_terms_less" "_law_terms_less" sTermsLess f fd) (GT : CalTerms P w K mg base T) (GA : CalAddedTerms P w K mg base T) (GX : CalTermsTimes P w K mg base T) (mt : mg "tuple" = none) :
    FnOk P w K mg base CX0 4 f fd ["terms", "word", "step"] (spTermsLess T) := by
  obtain ⟨fT, fdT, FT, mT, kT, bT⟩ := GT
  obtain ⟨fA, fdA, FA, mA, kA, bA⟩ := GA
  obtain ⟨fX, fdX, FX, mX, kX, bX⟩ := GX
  refine F.ok (k := 3) scTermsLess (fun vs H Q E h => ?_) (fun cdv A outer s H vs Q E hr h => ?_)
  · obtain ⟨a, b, ts, u, k, rfl, _⟩ := h
    rfl
  · obtain ⟨a, b, ts, u, k, rfl, ha, hb, hu1, hk, ⟨A', M', B', hsz, hA, hM, hB⟩, hTb, q⟩ := h
    have nd := scTermsLess.nd
    obtain ⟨fit, hlen, hco⟩ := less_fit hsz hu1 hA hM hB
    refine ⟨_, pss_one (ps_ret (pe_call FT (hr.mono (by decide)) (by rfl) mT kT bT .nil pass0 (pa_cons (pe_call FA (hr.mono (by decide)) (by rfl) mA kA bA .nil pass0 (pa_cons
      (pe_call FX hr (by rfl) mX kX bX .nil pass0 (pa_cons (pv 0) (pa_cons (pe_tup (pa_cons (pe_tup (pa_cons (pv 1) (pa_cons pe_int pa_nil))) pa_nil)) pa_nil)))
      (pa_cons (pe_callTy call_tuple_of (by rfl) mt (by decide +kernel) (pa_cons
          (pe_lc (own := [("one", 3), ("often", 4)]) (g := gTup K 2 (gCons (gName 3) (gCons (gName 4) gNil))) (tt := tYes) (by rfl) nd (pi_tup (pv 0)) (blkOk_by (N := ["terms", "word", "step", "one", "often"]) (sc := defScope sTermsLess) (by decide +kernel))
            (fun _ _ _ _ _ => pg_tup rfl (pgs_cons (pg_name (i := 3) nd rfl (.inl rfl)) (pgs_cons (pg_name (i := 4) nd rfl (.inl rfl)) pgs_nil))) (fun _ _ _ _ _ => pts_nil)
            (fun _ _ _ _ _ => pe_tup (pa_cons (pv 3) (pa_cons (pe_op op_sub pe_int (pe_op op_mulW (pv 2) (pv 4))) pa_nil)))) pa_nil)) pa_nil))) pa_nil))), ?_⟩
    refine ⟨_, rfl, ?_⟩
    refine one_term (T := T) (u := u) (fun R h => ⟨_, rfl, h b _ (Ex.refl _) hb⟩) fun r1 H1 e1 hr1 => ?_
    refine ⟨a, r1, ts, [(u, 1)], rfl, IsTm.ex e1 ha, hr1, fit, e1.tabs hTb, fun H3 r3 e3 hr3 => ?_⟩
    have e13 := e1.trans e3
    obtain ⟨as, ha1, ha2⟩ := ha
    have la := IsTm.len ha2
    have ha3 := e13.at ha1 loose_tup
    refine ⟨_, rfl, a, rfl, ⟨_, .inl (.inl ha3)⟩, fun D hD => ?_⟩
    refine lc_tup (xs := as.map V.ref) (fun j H4 => SomeAt T H3 D ((ts.take j).map fun x => (x.1, 0 - (k : Int) * x.2)) H4) (SomeAt.nil hD) (fun j H4 _ p => .inl (.inl (p.1.at ha3 loose_tup))) (fun j x H4 hx p => ?_) (fun H4 p => ?_)
    · obtain ⟨t1, pr, rfl, hp, _, q1, hq1, hq2⟩ := IsTm.nth ha2 hx
      refine ⟨t1, _, rfl, .inl (.inl (p.1.at (e13.at hq1 loose_tup) loose_tup)), rfl, _, _, rfl, _, _, rfl, rfl, rfl, ?_⟩
      unfold tYes
      refine iteT ⟨_, rfl, _, rfl, _, rfl, _, _, rfl, rfl, wide_mul (a := 3) (b := 200) ?_ (hco pr (List.mem_of_getElem? hp)) (by decide) (by decide) (by decide), _, _, rfl, rfl, by show 2 ≤ sizeLine; decide, fun t2 ht2 => ?_⟩
      · rw [Int.natAbs_natCast]
        exact Nat.lt_of_le_of_lt hk (by decide)
      · obtain ⟨acc, a1, a2, a3⟩ := p.add (n := 0 - (k : Int) * pr.2) hD (Ex.refl H4) (IsW.ex p.1 (IsW.ex e13 hq2)) ht2
        refine ⟨acc, a1, ?_, ?_⟩
        · rw [a2, List.length_map, List.length_take, sizeLine_eq]
          have := hsz.1
          omega
        · rw [map_take_snoc hp]; exact a3
    · rw [List.length_map, la, List.take_length] at p
      obtain ⟨p1, bs, p4, p5, p6⟩ := p
      refine ⟨D, _, rfl, .inl ⟨.inl (.inl p4), fun rl hrl => ?_⟩⟩
      have e5 : Ex T H4 (upd H4 rl (.tup (bs.map fun b => V.ref b.1))) := (Ex.refl H4).new hrl
      have hless : IsTm (upd H4 rl (.tup (bs.map fun b => V.ref b.1))) rl (ts.map fun x => (x.1, 0 - (k : Int) * x.2)) := isTm_of (SItems.ex e5 p5) p6 upd_same
      have e6 := p1.trans e5
      refine ⟨r3, rl, _, _, rfl, IsTm.ex e6 hr3, hless, by rw [List.length_map]; exact hlen, fun H7 r7 m7 e7 g7 a7 => ?_⟩
      have e8 := (e13.trans e6).trans e7
      refine ⟨r7, m7, rfl, g7, a7.nd, ?_, e8.tabs hTb, fun H9 r9 e9 hr9 => q H9 r9 (e8.trans e9) ?_⟩
      · have := a7.le
        rw [List.length_append, List.length_map] at this
        omega
      · rw [lessT, ← a7.terms]; exact hr9
end
end KW

set_option Elab.async false
set_option linter.all false
set_option maxRecDepth 100000
namespace KW
open PySem PySem.Spec PyProof.Rows L2 LamX KR
def rGetL : V → V → Hp → VK → Prop := fun o i H Q => ∃ (p : Addr) (xs : List V) (j : Nat) (v : V), o = .ref p ∧ i = .int (j : Int) ∧ H p = some (.lst xs) ∧ xs[j]? = some v ∧ Q v H
theorem get_list {X : Cx} : PGet X rGetL := by
  intro pins s σ H o i ov iv Q I ro ri h
  obtain ⟨p, xs, j, v, rfl, rfl, hp, hj, q⟩ := h
  cases ro
  obtain ⟨t, rfl⟩ := ri
  obtain ⟨its, r, pl, hz⟩ := I.list (.inl (.inl hp))
  obtain ⟨w, ew, rw'⟩ := r.get hj
  have hn := line63
  have hlt := (List.getElem?_eq_some_iff.mp hj).1
  exact wpAny_getItem_list pl.isList (by omega) (by omega) (by simpa using ew) ⟨v, H, I, rw', q⟩
/-- all but b (and the tables) stays -/
def ExB (T : List (Addr × Str)) (b : Addr) (H H' : Hp) : Prop := (∀ x o, H x = some o → (∀ ps, o ≠ .tbl ps) → x ≠ b → H' x = some o) ∧ (Tabs T H → Tabs T H')
def BagAt (H : Hp) (b c : Addr) (cs : List Int) : Prop := ∃ (b0 b1 b2 : Int), H b = some (.lst [.int b0, .int b1, .int b2, .ref c]) ∧ H c = some (.lst (cs.map V.int)) ∧ 0 ≤ b0 ∧ 0 ≤ b1 ∧ b1 < 2147483648 ∧ (∀ x ∈ cs, 0 ≤ x) ∧ cs.length ≤ 63 ∧ c ≠ b
section
variable {T : List (Addr × Str)} {H H1 H2 : Hp} {b c : Addr}
theorem ExB.refl : ExB T b H H := ⟨fun _ _ h _ _ => h, id⟩
theorem ExB.trans (e : ExB T b H H1) (f : ExB T b H1 H2) : ExB T b H H2 := ⟨fun x o h n m => f.1 x o (e.1 x o h n m) n m, fun t => f.2 (e.2 t)⟩
theorem ExB.of (e : Ex T H H1) : ExB T b H H1 := ⟨fun x o h n _ => e.1 x o h n, e.2⟩
theorem ExB.new {p : Addr} {o : HO} (e : ExB T b H H1) (h : H1 p = none) : ExB T b H (upd H1 p o) := e.trans (.of ((Ex.refl H1).new h))
theorem ExB.put {o o' : HO} (e : ExB T b H H1) (h : H1 b = some o) (lo : Loose o) : ExB T b H (upd H1 b o') :=
  ⟨fun x y hx n m => by rw [upd_ne m]; exact e.1 x y hx n m, fun t => tabs_upd (e.2 t) h lo⟩
theorem ExB.at {a : Addr} {o : HO} (e : ExB T b H H1) (h : H a = some o) (lo : Loose o) (n : a ≠ b) : H1 a = some o := e.1 a o h lo.1 n
end
section
variable {P : Program} {w : World} {K : PySem.W.Frag} {mg : Str → Option Value} {base : Heap} {T : List (Addr × Str)}
theorem scTake : FnScope ["bag", "many", "cell", "stirred", "value", "begin", "second"] ["bag", "many"] (defScope sTake) := ⟨rfl, rfl, rfl, by decide +kernel, rfl, by decide +kernel, by decide +kernel⟩
def spTake (T : List (Addr × Str)) : Sp := fun vs H Q _ => ∃ (b c : Addr) (cs : List Int) (n : Nat), vs = [.ref b, .int (n : Int)] ∧ BagAt H b c cs ∧ 1 ≤ n ∧ n ≤ 100 ∧ ∀ H' (v : Nat), ExB T b H H' → BagAt H' b c cs → v < n → Q (.int (v : Int)) H'
theorem cut_first {cs : List Int} {lo hi : Option Int} (h : ∀ x ∈ cs, 0 ≤ x) : ∃ x : Int, 0 ≤ x ∧ (cutV (cs.map V.int) lo hi ++ [V.int 0])[0]? = some (.int x) := by
  unfold cutV
  rw [← List.map_drop, ← List.map_take]
  have hs : ∀ x ∈ (cs.drop (HT.sIx (cs.map V.int).length 0 lo)).take (HT.sIx (cs.map V.int).length (cs.map V.int).length hi - HT.sIx (cs.map V.int).length 0 lo), 0 ≤ x := fun x hx => h x (List.mem_of_mem_drop (List.mem_of_mem_take hx))
  generalize (cs.drop (HT.sIx (cs.map V.int).length 0 lo)).take (HT.sIx (cs.map V.int).length (cs.map V.int).length hi - HT.sIx (cs.map V.int).length 0 lo) = l at hs ⊢
  cases l with
  | nil => exact ⟨0, Int.le_refl _, rfl⟩
  | cons x r => exact ⟨x, hs x (List.mem_cons_self ..), rfl⟩
theorem fmod_nat {i : Int} {n : Nat} (h : 1 ≤ n) : ∃ v : Nat, i.fmod (n : Int) = (v : Int) ∧ v < n := by
  have h0 : (0 : Int) < n := by omega
  rw [Int.fmod_eq_emod_of_nonneg i (by omega)]
  have h1 := Int.emod_nonneg i (show (n : Int) ≠ 0 by omega)
  have h2 := Int.emod_lt_of_pos i h0
  exact ⟨(i % (n : Int)).toNat, by omega, by omega⟩
theorem div_w {i : Int} {n : Nat} (h : 1 ≤ n) (h2 : n ≤ 100) : CDivW i (n : Int) := wide_div (b := 10) (by omega) (by rw [Int.natAbs_natCast]; exact Nat.lt_of_le_of_lt h2 (by decide)) (by decide) (by decide)
theorem ok_take {f : Addr} {fd : FuncData} {k : Nat} (F : Fun K "_law_take" "_law_take" sTake f fd) (mi : mg "int" = none) : FnOk P w K mg base CX0 (k + 1) f fd ["bag", "many"] (spTake T) := by
  refine F.ok (k := k) scTake (fun vs H Q E h => ?_) (fun cdv A outer s H vs Q E hr h => ?_)
  · obtain ⟨b, c, cs, n, rfl, _⟩ := h
    rfl
  · obtain ⟨b, c, cs, n, rfl, hB, hn1, hn2, q⟩ := h
    have nd := scTake.nd
    have rest : ∃ u : TS, PSs (cxOf CX0 P w K mg base ["bag", "many", "cell", "stirred", "value", "begin", "second"] "_law_take" (defScope sTake) f cdv A outer s H E).nox ((defBody sTake).drop 1) u ∧
        ∀ y2 y3 y4 y5 y6 H1, ExB T b H H1 → BagAt H1 b c cs → u { nx := fun _ H' => Q .non H', rt := Q } [some (.ref b), some (.int (n : Int)), y2, y3, y4, y5, y6] H1 := by
      refine ⟨_, pss_cons (ps_if (pt_cmpR op_gt (pe_ix ix_list (pv 0) pe_int (fun _ _ => rfl)) pe_int (nomark _))
        (pss_cons (ps_set (i := 4) nd rfl (.inl rfl) (pe_op op_modN (pe_callTy call_int1 (by rfl) mi (by decide +kernel) (pa_cons (pe_ix ix_list (pv 0) pe_int (fun _ _ => rfl)) pa_nil)) (pv 1)))
        (pss_cons (ps_asg (pe_op op_fdivW (pe_callTy call_int1 (by rfl) mi (by decide +kernel) (pa_cons (pe_ix ix_list (pv 0) pe_int (fun _ _ => rfl)) pa_nil)) (pv 1)) (pg_sub (pv 0) pe_int set_list))
        (pss_one (ps_ret (pv 4))))) pss_nil)
      (pss_cons (ps_set (i := 5) nd rfl (.inl rfl) (pe_op op_mod (pe_callTy call_int1 (by rfl) mi (by decide +kernel) (pa_cons (pe_op op_mul (pe_op op_add (pe_ix ix_list (pv 0) pe_int (fun _ _ => rfl)) pe_int) pe_int) pa_nil)) pe_int))
      (pss_cons (ps_set (i := 6) nd rfl (.inl rfl) (pe_op op_mod (pe_callTy call_int1 (by rfl) mi (by decide +kernel) (pa_cons (pe_op op_mul (pe_op op_mod (pe_callTy call_int1 (by rfl) mi (by decide +kernel) (pa_cons (pe_op op_mul (pv 5) (pv 5)) pa_nil)) pe_int) pe_int) pa_nil)) pe_int))
      (pss_one (ps_ret (pe_op op_modN (pe_callTy call_int1 (by rfl) mi (by decide +kernel) (pa_cons (pe_op op_fdiv (pv 6) pe_int) pa_nil)) (pv 1)))))), fun y2 y3 y4 y5 y6 H1 e1 hB1 => ?_⟩
      have hB1' := hB1
      obtain ⟨b0, b1, b2, g1, g2, g3, g4, g5, g6, g7, g8⟩ := hB1'
      have hn0 : (n : Int) ≠ 0 := by omega
      refine ⟨.ref b, rfl, b, _, 0, .int b0, rfl, rfl, .inl (.inl g1), atI_nat (j := 0) rfl, _, _, rfl, rfl, _, rfl, ite2 (fun e => ?_) (fun e => ?_)⟩
      · have e : 0 < b0 := of_decide_eq_true e
        obtain ⟨v, ev, hv⟩ := fmod_nat (i := b0) hn1
        refine ⟨.ref b, rfl, b, _, 0, .int b0, rfl, rfl, .inl (.inl g1), atI_nat (j := 0) rfl, .inl ⟨_, rfl, _, rfl, _, _, rfl, rfl, hn0, .ref b, rfl, b, _, 0, .int b0, rfl, rfl, .inl (.inl g1), atI_nat (j := 0) rfl, .inl ⟨_, rfl, _, rfl, _, _, rfl, rfl, div_w hn1 hn2, .ref b, rfl, b, _, 0, 0, rfl, rfl, g1, rfl, _, rfl, ?_⟩⟩⟩
        show Q (.int (b0.fmod (n : Int))) _
        rw [ev]
        refine q _ v (e1.put g1 loose_lst) ⟨b0 / n, b1, b2, upd_same, ?_, Int.ediv_nonneg g3 (by omega), g4, g5, g6, g7, g8⟩ hv
        rw [upd_ne g8]; exact g2
      · refine ⟨.ref b, rfl, b, _, 1, .int b1, rfl, rfl, .inl (.inl g1), atI_nat (j := 1) rfl, _, _, rfl, rfl, _, _, rfl, rfl, .inl ⟨by omega, by omega⟩, .inl ⟨_, rfl, _, _, rfl, rfl, (by show (0 : Int) < 1000000007; decide), ?_⟩⟩
        have m1 := Int.emod_nonneg ((b1 + 1) * 39373) (show (1000000007 : Int) ≠ 0 by decide)
        have m2 := Int.emod_lt_of_pos ((b1 + 1) * 39373) (show (0 : Int) < 1000000007 by decide)
        have m3 := Int.emod_nonneg (((b1 + 1) * 39373 % 1000000007) * ((b1 + 1) * 39373 % 1000000007)) (show (998244353 : Int) ≠ 0 by decide)
        have m4 := Int.emod_lt_of_pos (((b1 + 1) * 39373 % 1000000007) * ((b1 + 1) * 39373 % 1000000007)) (show (0 : Int) < 998244353 by decide)
        refine ⟨_, rfl, _, rfl, _, _, rfl, rfl, .inl ⟨by show -(2 ^ 64) < ((b1 + 1) * 39373 % 1000000007); omega, by show ((b1 + 1) * 39373 % 1000000007) < 2 ^ 64; omega⟩, .inl ⟨_, rfl, _, _, rfl, rfl, (by show (0 : Int) < 998244353; decide), _, _, rfl, rfl, .inl ⟨by show -(2 ^ 64) < ((b1 + 1) * 39373 % 1000000007) * ((b1 + 1) * 39373 % 1000000007) % 998244353; omega, by show ((b1 + 1) * 39373 % 1000000007) * ((b1 + 1) * 39373 % 1000000007) % 998244353 < 2 ^ 64; omega⟩, .inl ⟨_, rfl, _, _, rfl, rfl, (by show (0 : Int) < 998244353; decide), ?_⟩⟩⟩
        obtain ⟨v, ev, hv⟩ := fmod_nat (i := (((b1 + 1) * 39373 % 1000000007) * ((b1 + 1) * 39373 % 1000000007) % 998244353 * 30011 % 998244353) / 7) hn1
        refine ⟨_, rfl, _, _, rfl, rfl, ⟨by decide, by decide⟩, .inl ⟨_, rfl, _, rfl, _, _, rfl, rfl, hn0, ?_⟩⟩
        show Q (.int (((((b1 + 1) * 39373 % 1000000007) * ((b1 + 1) * 39373 % 1000000007) % 998244353 * 30011 % 998244353) / 7).fmod (n : Int))) H1
        rw [ev]
        exact q H1 v e1 hB1 hv
    obtain ⟨u, hU, hR⟩ := rest
    refine ⟨_, pss_cons (ps_if (pt_cmpR op_eq (pe_ix ix_list (pv 0) pe_int (fun _ _ => rfl)) pe_int (nomark _))
        (pss_cons (ps_set (i := 2) nd rfl (.inl rfl) (pe_ix ix_list (pe_op op_cat (pe_slice sl_list (pe_ix ix_list (pv 0) pe_int (fun _ _ => rfl)) (po_some (pe_ix ix_list (pv 0) pe_int (fun _ _ => rfl))) po_none) (pe_lst (pa_cons pe_int pa_nil))) pe_int (fun _ _ => rfl)))
        (pss_cons (ps_augS (pv 0) pe_int get_list pe_int ip_add set_list)
        (pss_cons (ps_if (pt_cmpR op_ge (pv 2) (pe_op op_pow pe_int pe_int) (nomark _)) (pss_one (ps_asg (pv 2) (pg_sub (pv 0) pe_int set_list))) pss_nil)
        (pss_cons (ps_set (i := 3) nd rfl (.inl rfl) (pe_op op_add (pe_op op_add (pe_op op_mul (pe_ix ix_list (pv 0) pe_int (fun _ _ => rfl)) pe_int) (pe_op op_mod (pe_callTy call_int1 (by rfl) mi (by decide +kernel) (pa_cons (pv 2) pa_nil)) pe_int)) (pe_op op_mul pe_int (pe_ix ix_list (pv 0) pe_int (fun _ _ => rfl)))))
        (pss_one (ps_asg (pe_op op_mod (pe_callTy call_int1 (by rfl) mi (by decide +kernel) (pa_cons (pv 3) pa_nil)) pe_int) (pg_sub (pv 0) pe_int set_list))))))) pss_nil) hU, ?_⟩
    obtain ⟨b0, b1, b2, g1, g2, g3, g4, g5, g6, g7, g8⟩ := hB
    refine ⟨.ref b, rfl, b, _, 0, .int b0, rfl, rfl, .inl (.inl g1), atI_nat (j := 0) rfl, rfl, _, rfl, ite2 (fun e => ?_) (fun e => ?_)⟩
    · refine ⟨.ref b, rfl, b, _, 3, .ref c, rfl, rfl, .inl (.inl g1), atI_nat (j := 3) rfl, .ref b, rfl, b, _, 2, .int b2, rfl, rfl, .inl (.inl g1), atI_nat (j := 2) rfl, b2, rfl, c, _, rfl, .inl (.inl g2), fun p hp => ⟨by show 1 ≤ sizeLine; decide, fun p2 hp2 => ?_⟩⟩
      obtain ⟨x, hx0, hx1⟩ := cut_first (lo := some b2) (hi := none) g6
      have e1 : Ex T H (upd H p (.lst (cutV (cs.map V.int) (some b2) none))) := (Ex.refl H).new hp
      have e2 : Ex T H (upd (upd H p (.lst (cutV (cs.map V.int) (some b2) none))) p2 (.lst [.int 0])) := e1.new hp2
      refine ⟨p, p2, _, _, rfl, rfl, by rw [upd_ne (fun z => by rw [← z, upd_same] at hp2; cases hp2)]; exact upd_same, upd_same, ?_, fun p3 hp3 => ⟨p3, _, 0, .int x, rfl, rfl, .inl (.inl upd_same), atI_nat (j := 0) hx1, ?_⟩⟩
      · have := cutV_length (cs.map V.int) (some b2) none
        rw [List.length_map] at this
        rw [sizeLine_eq, List.length_singleton]; omega
      have e3 := e2.new (o := .lst (cutV (cs.map V.int) (some b2) none ++ [.int 0])) hp3
      generalize upd (upd (upd H p (.lst (cutV (cs.map V.int) (some b2) none))) p2 (.lst [.int 0])) p3 (.lst (cutV (cs.map V.int) (some b2) none ++ [.int 0])) = H3 at e3 ⊢
      have k1 := e3.at g1 loose_lst
      have k2 := e3.at g2 loose_lst
      refine ⟨.ref b, rfl, b, _, 2, .int b2, rfl, rfl, k1, rfl, _, _, rfl, rfl, b, _, 2, 2, rfl, rfl, k1, rfl, ?_⟩
      have f4 : ExB T b H (upd H3 b (.lst [.int b0, .int b1, .int (b2 + 1), .ref c])) := (ExB.of e3).put k1 loose_lst
      have k3 : upd H3 b (.lst [.int b0, .int b1, .int (b2 + 1), .ref c]) b = some (.lst [.int b0, .int b1, .int (b2 + 1), .ref c]) := upd_same
      have k4 : upd H3 b (.lst [.int b0, .int b1, .int (b2 + 1), .ref c]) c = some (.lst (cs.map V.int)) := by rw [upd_ne g8]; exact k2
      show tSeq _ _ _ _ (upd H3 b (.lst [.int b0, .int b1, .int (b2 + 1), .ref c]))
      generalize upd H3 b (.lst [.int b0, .int b1, .int (b2 + 1), .ref c]) = H4 at f4 k3 k4 ⊢
      refine ⟨_, rfl, _, _, rfl, rfl, ⟨by decide, by decide, by decide⟩, _, _, rfl, rfl, _, rfl, ite2 (fun e => ?_) (fun e => ?_)⟩
      · refine ⟨_, rfl, .ref b, rfl, b, _, 0, 0, rfl, rfl, k3, rfl, ?_⟩
        have f5 : ExB T b H (upd H4 b (.lst [.int x, .int b1, .int (b2 + 1), .ref c])) := f4.put k3 loose_lst
        have k5 : upd H4 b (.lst [.int x, .int b1, .int (b2 + 1), .ref c]) b = some (.lst [.int x, .int b1, .int (b2 + 1), .ref c]) := upd_same
        have k6 : upd H4 b (.lst [.int x, .int b1, .int (b2 + 1), .ref c]) c = some (.lst (cs.map V.int)) := by rw [upd_ne g8]; exact k4
        show tSeq _ _ _ _ (upd H4 b (.lst [.int x, .int b1, .int (b2 + 1), .ref c]))
        generalize upd H4 b (.lst [.int x, .int b1, .int (b2 + 1), .ref c]) = H5 at f5 k5 k6 ⊢
        refine ⟨.ref b, rfl, b, _, 1, .int b1, rfl, rfl, .inl (.inl k5), atI_nat (j := 1) rfl, _, _, rfl, rfl, .inl ⟨by omega, by omega⟩, _, rfl, .inl ⟨_, rfl, _, _, rfl, rfl, (by show (0 : Int) < 2147483647; decide), _, _, rfl, rfl, .ref b, rfl, b, _, 2, .int (b2 + 1), rfl, rfl, .inl (.inl k5), atI_nat (j := 2) rfl, _, _, rfl, rfl, .inl ⟨by decide, by decide⟩, _, _, rfl, rfl, ?_⟩⟩
        have zz := Int.emod_lt_of_pos (b1 * 48271 + x % 2147483647 + 7919 * (b2 + 1)) (show (0 : Int) < 2147483647 by decide)
        refine ⟨_, rfl, .inl ⟨_, rfl, _, _, rfl, rfl, (by show (0 : Int) < 2147483647; decide), .ref b, rfl, b, _, 1, 1, rfl, rfl, k5, rfl, ?_⟩⟩
        refine hR _ _ _ _ _ _ (f5.put k5 loose_lst) ⟨x, (b1 * 48271 + x % 2147483647 + 7919 * (b2 + 1)) % 2147483647, b2 + 1, upd_same, by rw [upd_ne g8]; exact k6, hx0, Int.emod_nonneg _ (by decide), ?_, g6, g7, g8⟩
        omega
      · refine ⟨.ref b, rfl, b, _, 1, .int b1, rfl, rfl, .inl (.inl k3), atI_nat (j := 1) rfl, _, _, rfl, rfl, .inl ⟨by omega, by omega⟩, _, rfl, .inl ⟨_, rfl, _, _, rfl, rfl, (by show (0 : Int) < 2147483647; decide), _, _, rfl, rfl, .ref b, rfl, b, _, 2, .int (b2 + 1), rfl, rfl, .inl (.inl k3), atI_nat (j := 2) rfl, _, _, rfl, rfl, .inl ⟨by decide, by decide⟩, _, _, rfl, rfl, ?_⟩⟩
        have zz := Int.emod_lt_of_pos (b1 * 48271 + x % 2147483647 + 7919 * (b2 + 1)) (show (0 : Int) < 2147483647 by decide)
        refine ⟨_, rfl, .inl ⟨_, rfl, _, _, rfl, rfl, (by show (0 : Int) < 2147483647; decide), .ref b, rfl, b, _, 1, 1, rfl, rfl, k3, rfl, ?_⟩⟩
        refine hR _ _ _ _ _ _ (f4.put k3 loose_lst) ⟨b0, (b1 * 48271 + x % 2147483647 + 7919 * (b2 + 1)) % 2147483647, b2 + 1, upd_same, by rw [upd_ne g8]; exact k4, g3, Int.emod_nonneg _ (by decide), ?_, g6, g7, g8⟩
        omega
    · exact hR _ _ _ _ _ H ExB.refl ⟨b0, b1, b2, g1, g2, g3, g4, g5, g6, g7, g8⟩
end
end KW

set_option Elab.async false
set_option linter.all false
set_option maxRecDepth 100000
namespace KW
open PySem PySem.Spec PyProof.Rows L2 LamX KR
/-! ### values as trees -/
mutual
def nodes : PyData → Nat
  | .tuple ds => nodesAll ds + 1
  | .list ds => nodesAll ds + 1
  | _ => 1
def nodesAll : List PyData → Nat
  | [] => 0
  | d :: ds => nodes d + nodesAll ds
end
mutual
def Rep (H : Hp) : V → PyData → Prop
  | v, .int i => v = .int i
  | v, .str s => v = .str s
  | v, .tuple ds => ∃ a xs, v = .ref a ∧ H a = some (.tup xs) ∧ RepAll H xs ds
  | v, .list ds => ∃ a xs, v = .ref a ∧ H a = some (.lst xs) ∧ RepAll H xs ds
  | _, _ => False
def RepAll (H : Hp) : List V → List PyData → Prop
  | [], [] => True
  | x :: xs, d :: ds => Rep H x d ∧ RepAll H xs ds
  | _, _ => False
end
mutual
theorem Rep.ex {T : List (Addr × Str)} {H H' : Hp} (e : Ex T H H') : ∀ (d : PyData) {v : V}, Rep H v d → Rep H' v d
  | .int i, v, h => by simp only [Rep] at h ⊢; exact h
  | .str s, v, h => by simp only [Rep] at h ⊢; exact h
  | .tuple ds, v, h => by
    simp only [Rep] at h ⊢
    obtain ⟨a, xs, h1, h2, h3⟩ := h
    exact ⟨a, xs, h1, e.at h2 loose_tup, RepAll.ex e ds h3⟩
  | .list ds, v, h => by
    simp only [Rep] at h ⊢
    obtain ⟨a, xs, h1, h2, h3⟩ := h
    exact ⟨a, xs, h1, e.at h2 loose_lst, RepAll.ex e ds h3⟩
  | .none, v, h => by simp only [Rep] at h
  | .bool _, v, h => by simp only [Rep] at h
  | .dict _, v, h => by simp only [Rep] at h
theorem RepAll.ex {T : List (Addr × Str)} {H H' : Hp} (e : Ex T H H') : ∀ (ds : List PyData) {xs : List V}, RepAll H xs ds → RepAll H' xs ds
  | [], [], h => by simp only [RepAll]
  | [], _ :: _, h => by simp only [RepAll] at h
  | d :: ds, [], h => by simp only [RepAll] at h
  | d :: ds, x :: xs, h => by
    simp only [RepAll] at h ⊢
    exact ⟨Rep.ex e d h.1, RepAll.ex e ds h.2⟩
end
theorem RepAll.len {H : Hp} : ∀ {ds : List PyData} {xs : List V}, RepAll H xs ds → xs.length = ds.length
  | [], [], h => rfl
  | [], _ :: _, h => by simp only [RepAll] at h
  | d :: ds, [], h => by simp only [RepAll] at h
  | d :: ds, x :: xs, h => by
    simp only [RepAll] at h
    rw [List.length_cons, List.length_cons, RepAll.len h.2]
theorem nodes_pos : ∀ d : PyData, 1 ≤ nodes d
  | .int _ => by simp [nodes]
  | .str _ => by simp [nodes]
  | .tuple _ => by simp [nodes]
  | .list _ => by simp [nodes]
  | .none => by simp [nodes]
  | .bool _ => by simp [nodes]
  | .dict _ => by simp [nodes]
def tyN : PyData → String
  | .int _ => "int"
  | .str _ => "str"
  | .tuple _ => "tuple"
  | .list _ => "list"
  | _ => "int"
def isStrD : PyData → Bool
  | .str _ => true
  | _ => false
def isTupD : PyData → Bool
  | .tuple _ => true
  | _ => false
def isConD : PyData → Bool
  | .tuple _ => true
  | .list _ => true
  | _ => false
theorem Rep.ty {K : PySem.W.Frag} {H : Hp} {v : V} : ∀ {d : PyData}, Rep H v d → TyX K H v (.type (tyN d))
  | .int i, h => by simp only [Rep] at h; subst h; exact .base (.int _)
  | .str s, h => by simp only [Rep] at h; subst h; exact .base (.str _)
  | .tuple ds, h => by
    simp only [Rep] at h
    obtain ⟨a, xs, rfl, h2, h3⟩ := h
    exact .base (.tup h2)
  | .list ds, h => by
    simp only [Rep] at h
    obtain ⟨a, xs, rfl, h2, h3⟩ := h
    exact .base (.lst h2)
  | .none, h => by simp only [Rep] at h
  | .bool _, h => by simp only [Rep] at h
  | .dict _, h => by simp only [Rep] at h
theorem kb_int_bool : kitB "int" "bool" = some false := by decide +kernel
theorem kb_int_str : kitB "int" "str" = some false := by decide +kernel
theorem kb_int_tuple : kitB "int" "tuple" = some false := by decide +kernel
theorem kb_int_list : kitB "int" "list" = some false := by decide +kernel
theorem kb_str_bool : kitB "str" "bool" = some false := by decide +kernel
theorem kb_str_str : kitB "str" "str" = some true := by decide +kernel
theorem kb_str_tuple : kitB "str" "tuple" = some false := by decide +kernel
theorem kb_str_list : kitB "str" "list" = some false := by decide +kernel
theorem kb_tuple_bool : kitB "tuple" "bool" = some false := by decide +kernel
theorem kb_tuple_str : kitB "tuple" "str" = some false := by decide +kernel
theorem kb_tuple_tuple : kitB "tuple" "tuple" = some true := by decide +kernel
theorem kb_tuple_list : kitB "tuple" "list" = some false := by decide +kernel
theorem kb_list_bool : kitB "list" "bool" = some false := by decide +kernel
theorem kb_list_str : kitB "list" "str" = some false := by decide +kernel
theorem kb_list_tuple : kitB "list" "tuple" = some false := by decide +kernel
theorem kb_list_list : kitB "list" "list" = some true := by decide +kernel
theorem kit_bool {K : PySem.W.Frag} (d : PyData) : PySem.W.kitOne K (.type (tyN d)) (.type "bool") = some false := by
  cases d <;> first | exact kit_ty kb_int_bool | exact kit_ty kb_str_bool | exact kit_ty kb_tuple_bool | exact kit_ty kb_list_bool
theorem kit_str {K : PySem.W.Frag} (d : PyData) : PySem.W.kitOne K (.type (tyN d)) (.type "str") = some (isStrD d) := by
  cases d <;> first | exact kit_ty kb_int_str | exact kit_ty kb_str_str | exact kit_ty kb_tuple_str | exact kit_ty kb_list_str
theorem kit_tup {K : PySem.W.Frag} (d : PyData) : PySem.W.kitOne K (.type (tyN d)) (.type "tuple") = some (isTupD d) := by
  cases d <;> first | exact kit_ty kb_int_tuple | exact kit_ty kb_str_tuple | exact kit_ty kb_tuple_tuple | exact kit_ty kb_list_tuple
theorem kit_con {K : PySem.W.Frag} (d : PyData) : PySem.W.kitAny K (.type (tyN d)) [.type "tuple", .type "list"] = some (isConD d) := by
  refine kitAny_cons (kit_tup d) (fun h => ?_) fun h => ?_
  · cases d with
    | list ds => exact kitAny_cons (b := true) (kit_ty kb_list_list) (fun z => by cases z) (fun _ => rfl)
    | tuple ds => cases h
    | str s => exact kitAny_cons (b := false) (kit_ty kb_str_list) (fun _ => kitAny_nil) (fun z => by cases z)
    | _ => exact kitAny_cons (b := false) (kit_ty kb_int_list) (fun _ => kitAny_nil) (fun z => by cases z)
  · cases d with
    | tuple ds => rfl
    | _ => cases h
theorem ne_same {b : Bool} : ¬ ((!decide (V.bl b = V.bl b)) = true) := by simp
theorem ne_int {i : Int} : ¬ ((!decide (V.int i = V.int i)) = true) := by simp
theorem ne_str {i : Str} : ¬ ((!decide (V.str i = V.str i)) = true) := by simp
/-- a pair that waits -/
structure Wt where
  t : Addr
  x : V
  y : V
  d : PyData
def WtOk (H0 H : Hp) (z : Wt) : Prop := H z.t = some (.tup [z.x, z.y]) ∧ Rep H0 z.x z.d ∧ Rep H0 z.y z.d
def sumN : List Wt → Nat
  | [] => 0
  | z :: r => nodes z.d + sumN r
theorem sumN_app : ∀ a b : List Wt, sumN (a ++ b) = sumN a + sumN b
  | [], b => by simp [sumN]
  | z :: r, b => by simp only [List.cons_append, sumN, sumN_app r b]; omega
theorem sumN_len : ∀ a : List Wt, a.length ≤ sumN a
  | [] => Nat.le_refl _
  | z :: r => by
    have := sumN_len r
    have := nodes_pos z.d
    simp only [List.length_cons, sumN]; omega
/-- the children's pairs -/
theorem wts_of {H0 H : Hp} : ∀ {ts : List Addr} {xs ys : List V} {ds : List PyData}, RepAll H0 xs ds → RepAll H0 ys ds → Paired (fun (t : Addr) (q : V × V) => H t = some (.tup [q.1, q.2])) ts (xs.zip ys) →
    ∃ L : List Wt, L.map (·.t) = ts ∧ (∀ z ∈ L, WtOk H0 H z) ∧ sumN L = nodesAll ds
  | ts, [], [], [], _, _, h => by
    cases h
    exact ⟨[], rfl, (fun z hz => by cases hz), by simp [sumN, nodesAll]⟩
  | ts, x :: xs, y :: ys, d :: ds, h1, h2, h => by
    simp only [RepAll] at h1 h2
    cases h with
    | cons a b =>
      obtain ⟨L, e1, e2, e3⟩ := wts_of h1.2 h2.2 b
      refine ⟨⟨_, x, y, d⟩ :: L, by rw [List.map_cons, e1], fun z hz => ?_, by simp only [sumN, nodesAll, e3]⟩
      rcases List.mem_cons.mp hz with rfl | hz
      · exact ⟨a, h1.1, h2.1⟩
      · exact e2 z hz
  | _, [], _, _ :: _, h1, _, _ => by simp only [RepAll] at h1
  | _, _ :: _, _, [], h1, _, _ => by simp only [RepAll] at h1
  | _, _, [], _ :: _, _, h2, _ => by simp only [RepAll] at h2
  | _, _, _ :: _, [], _, h2, _ => by simp only [RepAll] at h2
section
variable {P : Program} {w : World} {K : PySem.W.Frag} {mg : Str → Option Value} {base : Heap} {T : List (Addr × Str)}
theorem scAlike : FnScope ["found", "due", "pairs", "at", "one", "other"] ["found", "due"] (defScope sAlike) := ⟨rfl, rfl, rfl, by decide +kernel, rfl, by decide +kernel, by decide +kernel⟩
def spAlike (T : List (Addr × Str)) : Sp := fun vs H Q _ => ∃ (x y : V) (d : PyData), vs = [x, y] ∧ Rep H x d ∧ Rep H y d ∧ nodes d ≤ 10000000 ∧ ∀ H', Ex T H H' → Q (.bl true) H'
theorem ok_alike {f : Addr} {fd : FuncData} {k : Nat} (F : Fun K "_law_alike" "_law_alike" sAlike f fd) (ml : mg "len" = none) (mi : mg "isinstance" = none) (mb : mg "bool" = none) (ms : mg "str" = none) (mt : mg "tuple" = none) (mli : mg "list" = none) (mz : mg "zip" = none) :
    FnOk P w K mg base CX0 (k + 1) f fd ["found", "due"] (spAlike T) := by
  refine F.ok (k := k) scAlike (fun vs H Q E h => ?_) (fun cdv A outer s H vs Q E hr h => ?_)
  · obtain ⟨x, y, d, rfl, _⟩ := h
    rfl
  · obtain ⟨x, y, d, rfl, hx, hy, hn, q⟩ := h
    have nd := scAlike.nd
    refine ⟨_, pss_cons (ps_par (i := 2) (j := 3) (by rfl) nd rfl rfl (by decide) rfl rfl (pa_cons (pe_lst (pa_cons (pe_tup (pa_cons (pv 0) (pa_cons (pv 1) pa_nil))) pa_nil)) (pa_cons pe_int pa_nil)) (by rfl))
      (pss_cons (ps_while PassesOwn.never (pt_cmpR op_lt (pv 3) (pe_callB call_len_seq (by rfl) ml PySem.boot_len (pa_cons (pv 2) pa_nil)) (nomark _))
        (pss_cons (ps_asg (pe_ix ix_list (pv 2) (pv 3) (fun _ _ => rfl)) (pg_tup rfl (pgs_cons (pg_name (i := 4) nd rfl (.inl rfl)) (pgs_cons (pg_name (i := 5) nd rfl (.inl rfl)) pgs_nil))))
        (pss_cons (ps_aug (i := 3) nd rfl (.inl rfl) pe_int ip_add)
        (pss_cons (ps_if (PW.pt (pw_or (pt_cmpR op_ne (pe_callB call_isi (by rfl) mi (by decide +kernel) (pa_cons (pv 4) (pa_cons (pe_bltn (v := .ty "bool") (u := .type "bool") (by rfl) mb (by decide +kernel) rfl) pa_nil))) (pe_callB call_isi (by rfl) mi (by decide +kernel) (pa_cons (pv 5) (pa_cons (pe_bltn (v := .ty "bool") (u := .type "bool") (by rfl) mb (by decide +kernel) rfl) pa_nil))) (nomark _))
            (pw_or1 (pt_cmpR op_ne (pe_callB call_isi (by rfl) mi (by decide +kernel) (pa_cons (pv 4) (pa_cons (pe_bltn (v := .ty "str") (u := .type "str") (by rfl) ms (by decide +kernel) rfl) pa_nil))) (pe_callB call_isi (by rfl) mi (by decide +kernel) (pa_cons (pv 5) (pa_cons (pe_bltn (v := .ty "str") (u := .type "str") (by rfl) ms (by decide +kernel) rfl) pa_nil))) (nomark _)))))
          (pss_one (ps_ret pe_bl)) pss_nil)
        (pss_cons (ps_if (pt_cmpR op_ne (pe_callB call_isiT (by rfl) mi (by decide +kernel) (pa_cons (pv 4) (pa_cons (pe_tup (pa_cons (pe_bltn (v := .ty "tuple") (u := .type "tuple") (by rfl) mt (by decide +kernel) rfl) (pa_cons (pe_bltn (v := .ty "list") (u := .type "list") (by rfl) mli (by decide +kernel) rfl) pa_nil))) pa_nil)))
            (pe_callB call_isiT (by rfl) mi (by decide +kernel) (pa_cons (pv 5) (pa_cons (pe_tup (pa_cons (pe_bltn (v := .ty "tuple") (u := .type "tuple") (by rfl) mt (by decide +kernel) rfl) (pa_cons (pe_bltn (v := .ty "list") (u := .type "list") (by rfl) mli (by decide +kernel) rfl) pa_nil))) pa_nil))) (nomark _))
          (pss_one (ps_ret pe_bl)) pss_nil)
        (pss_one (ps_if (pt_val (pe_callB call_isiT (by rfl) mi (by decide +kernel) (pa_cons (pv 4) (pa_cons (pe_tup (pa_cons (pe_bltn (v := .ty "tuple") (u := .type "tuple") (by rfl) mt (by decide +kernel) rfl) (pa_cons (pe_bltn (v := .ty "list") (u := .type "list") (by rfl) mli (by decide +kernel) rfl) pa_nil))) pa_nil))))
          (pss_cons (ps_if (PW.pt (pw_or (pt_cmpR op_ne (pe_callB call_isi (by rfl) mi (by decide +kernel) (pa_cons (pv 4) (pa_cons (pe_bltn (v := .ty "tuple") (u := .type "tuple") (by rfl) mt (by decide +kernel) rfl) pa_nil))) (pe_callB call_isi (by rfl) mi (by decide +kernel) (pa_cons (pv 5) (pa_cons (pe_bltn (v := .ty "tuple") (u := .type "tuple") (by rfl) mt (by decide +kernel) rfl) pa_nil))) (nomark _))
              (pw_or1 (pt_cmpR op_ne (pe_callB call_len_seq (by rfl) ml PySem.boot_len (pa_cons (pv 4) pa_nil)) (pe_callB call_len_seq (by rfl) ml PySem.boot_len (pa_cons (pv 5) pa_nil)) (nomark _)))))
            (pss_one (ps_ret pe_bl)) pss_nil)
          (pss_one (ps_expr (pe_bm PySem.F.plainAttrs_list PySem.F.slot_list_extend PySem.F.type_list_extend mt_extend (pv 2) (pa_cons (pe_listZip rfl (pa_cons (pv 4) (pa_cons (pv 5) pa_nil)) (by rfl) mli (by rfl) mz) pa_nil)))))
          (pss_one (ps_if (pt_cmpR op_ne (pv 4) (pv 5) (nomark _)) (pss_one (ps_ret pe_bl)) pss_nil)))))))))
      (pss_one (ps_ret pe_bl))), ?_⟩
    refine ⟨_, rfl, _, rfl, by show 2 ≤ sizeLine; decide, fun t0 ht0 => ⟨by show 1 ≤ sizeLine; decide, fun pl hpl => ⟨_, _, rfl, ?_⟩⟩⟩
    have e1 : Ex T H (upd H t0 (.tup [x, y])) := (Ex.refl H).new ht0
    have e2 : Ex T H (upd (upd H t0 (.tup [x, y])) pl (.lst [.ref t0])) := e1.new hpl
    have ntl : t0 ≠ pl := fun z => by rw [← z, upd_same] at hpl; cases hpl
    have npl : H pl = none := by rw [upd_ne (Ne.symm ntl)] at hpl; exact hpl
    refine ⟨fun m σ H3 => ∃ (L : List Wt) (at' : Nat) (y4 y5 : Option V), σ = [some x, some y, some (.ref pl), some (.int (at' : Int)), y4, y5] ∧ Ex T H H3 ∧ H3 pl = some (.lst (L.map fun z => V.ref z.t)) ∧ (∀ z ∈ L, WtOk H H3 z) ∧ at' ≤ L.length ∧ m = sumN (L.drop at') ∧ at' + m ≤ nodes d,
      ⟨nodes d, [⟨t0, x, y, d⟩], 0, none, none, rfl, e2, upd_same, fun z hz => ?_, Nat.zero_le _, by simp [sumN], by omega⟩, fun m σ H3 p => ?_⟩
    · rw [List.mem_singleton.mp hz]
      exact ⟨by rw [upd_ne ntl]; exact upd_same, hx, hy⟩
    · obtain ⟨L, at', y4, y5, rfl, p2, p3, p4, p5, p6, p7⟩ := p
      refine ⟨_, rfl, _, rfl, pl, _, rfl, .inl (.inl (.inl p3)), _, _, rfl, rfl, _, rfl, ite2 (fun e => ?_) (fun e => q H3 p2)⟩
      have hlt : at' < L.length := by
        have := of_decide_eq_true e
        rw [List.length_map] at this
        omega
      obtain ⟨z1, y2, y3⟩ := p4 _ (List.getElem_mem hlt)
      refine ⟨fun σ' H' => ∃ m', m' < m ∧ ∃ (L : List Wt) (at' : Nat) (y4 y5 : Option V), σ' = [some x, some y, some (.ref pl), some (.int (at' : Int)), y4, y5] ∧ Ex T H H' ∧ H' pl = some (.lst (L.map fun z => V.ref z.t)) ∧ (∀ z ∈ L, WtOk H H' z) ∧ at' ≤ L.length ∧ m' = sumN (L.drop at') ∧ at' + m' ≤ nodes d, fun _ _ h => h, ?_⟩
      have hdrop : L.drop at' = L[at'] :: L.drop (at' + 1) := List.drop_eq_getElem_cons hlt
      have hsum : m = nodes L[at'].d + sumN (L.drop (at' + 1)) := by rw [p6, hdrop]; rfl
      generalize L[at'] = z at z1 y2 y3 hdrop hsum
      have hitem : (L.map fun z => V.ref z.t)[at']? = some (.ref z.t) := by
        rw [List.getElem?_map]
        have : L[at']? = some z := by
          have h := congrArg (fun l : List Wt => l[0]?) hdrop
          simpa using h
        rw [this]; rfl
      refine ⟨_, rfl, _, rfl, pl, _, _, .ref z.t, rfl, rfl, .inl (.inl p3), atI_nat hitem, z.t, _, rfl, .inl (.inl z1), rfl, _, _, rfl, _, _, rfl, rfl, ?_⟩
      refine ⟨_, rfl, _, _, rfl, rfl, ?_⟩
      have z2 := Rep.ex p2 z.d y2
      have z3 := Rep.ex p2 z.d y3
      refine ⟨_, rfl, _, _, _, _, false, rfl, .ty _, Rep.ty z2, kit_bool z.d, _, rfl, _, _, _, _, false, rfl, .ty _, Rep.ty z3, kit_bool z.d, rfl, _, rfl, if0 ne_same ?_⟩
      refine ⟨_, rfl, _, _, _, _, isStrD z.d, rfl, .ty _, Rep.ty z2, kit_str z.d, _, rfl, _, _, _, _, isStrD z.d, rfl, .ty _, Rep.ty z3, kit_str z.d, rfl, _, rfl, if0 ne_same ?_⟩
      refine ⟨_, rfl, by show 2 ≤ sizeLine; decide, fun a1 ha1 => ⟨_, a1, _, _, _, isConD z.d, rfl, upd_same, .cons (.ty _) (.cons (.ty _) .nil), Rep.ty (Rep.ex (T := T) ((Ex.refl H3).new ha1) z.d z2), kit_con z.d, ?_⟩⟩
      have f1 : Ex T H3 (upd H3 a1 (.tup [.ty "tuple", .ty "list"])) := (Ex.refl H3).new ha1
      refine ⟨_, rfl, by show 2 ≤ sizeLine; decide, fun a2 ha2 => ⟨_, a2, _, _, _, isConD z.d, rfl, upd_same, .cons (.ty _) (.cons (.ty _) .nil), Rep.ty (Rep.ex (f1.new ha2) z.d z3), kit_con z.d, rfl, _, rfl, if0 ne_same ?_⟩⟩
      have f2 := f1.new (o := .tup [.ty "tuple", .ty "list"]) ha2
      refine ⟨_, rfl, by show 2 ≤ sizeLine; decide, fun a3 ha3 => ⟨_, a3, _, _, _, isConD z.d, rfl, upd_same, .cons (.ty _) (.cons (.ty _) .nil), Rep.ty (Rep.ex (f2.new ha3) z.d z2), kit_con z.d, _, rfl, ?_⟩⟩
      have f3 := f2.new (o := .tup [.ty "tuple", .ty "list"]) ha3
      generalize upd (upd (upd H3 a1 (.tup [.ty "tuple", .ty "list"])) a2 (.tup [.ty "tuple", .ty "list"])) a3 (.tup [.ty "tuple", .ty "list"]) = H4 at f3 ⊢
      have g2 := Rep.ex f3 z.d z2
      have g3 := Rep.ex f3 z.d z3
      have leaf : nodes z.d = 1 → ∃ m', m' < m ∧ ∃ (L : List Wt) (at'' : Nat) (y4 y5 : Option V), [some x, some y, some (V.ref pl), some (.int ((at' : Int) + 1)), some z.x, some z.y] = [some x, some y, some (V.ref pl), some (.int (at'' : Int)), y4, y5] ∧ Ex T H H4 ∧ H4 pl = some (.lst (L.map fun z => V.ref z.t)) ∧ (∀ z ∈ L, WtOk H H4 z) ∧ at'' ≤ L.length ∧ m' = sumN (L.drop at'') ∧ at'' + m' ≤ nodes d := fun hn1 =>
        ⟨sumN (L.drop (at' + 1)), by omega, L, at' + 1, _, _, rfl, p2.trans f3, f3.at p3 loose_lst, fun z hz => ⟨f3.at (p4 z hz).1 loose_tup, (p4 z hz).2⟩, hlt, rfl, by omega⟩
      have grow : ∀ (a b : Addr) (xs ys : List V) (ds : List PyData), z.x = .ref a → z.y = .ref b → RepAll H xs ds → RepAll H ys ds → nodes z.d = nodesAll ds + 1 → ((SqL K H4 a xs ∧ SqL K H4 b ys) ∨ (SqT K H4 a xs ∧ SqT K H4 b ys)) →
          tListZip K (tCons (tVar 4) (tCons (tVar 5) tNil)) [some x, some y, some (.ref pl), some (.int ((at' : Int) + 1)), some z.x, some z.y] H4 (fun v H5 => rExtend (.ref pl) [v] H5 fun _ H6 =>
            ∃ m', m' < m ∧ ∃ (L : List Wt) (at'' : Nat) (y4 y5 : Option V), [some x, some y, some (V.ref pl), some (.int ((at' : Int) + 1)), some z.x, some z.y] = [some x, some y, some (V.ref pl), some (.int (at'' : Int)), y4, y5] ∧ Ex T H H6 ∧ H6 pl = some (.lst (L.map fun z => V.ref z.t)) ∧ (∀ z ∈ L, WtOk H H6 z) ∧ at'' ≤ L.length ∧ m' = sumN (L.drop at'') ∧ at'' + m' ≤ nodes d) := fun a b xs ys ds ea eb ra rb hnn hab => by
        refine ⟨_, rfl, _, rfl, a, b, xs, ys, by rw [ea, eb], hab, by rw [ra.len, rb.len], fun H5 pz ts sm npz hpz hts => ?_⟩
        have e5 : Ex T H4 H5 := Ex.same sm
        obtain ⟨L2, l1, l2, l3⟩ := wts_of ra rb hts
        have p35 := e5.at (f3.at p3 loose_lst) loose_lst
        have hL2 := sumN_len L2
        have hLd := sumN_len (L.drop (at' + 1))
        rw [List.length_drop] at hLd
        have hpp : pz ≠ pl := fun zz => by
          rw [zz, f3.at p3 loose_lst] at npz; cases npz
        refine ⟨pl, pz, _, _, rfl, rfl, p35, hpz, ?_, ?_⟩
        · rw [List.length_map, List.length_map, ← l1, List.length_map, sizeLine_eq]
          omega
        · have keep : ∀ w, WtOk H H5 w → WtOk H (upd H5 pl (.lst (L.map (fun z => V.ref z.t) ++ ts.map V.ref))) w := fun w hw =>
            ⟨by rw [upd_ne (ne_of hw.1 p35 (fun zz => by cases zz))]; exact hw.1, hw.2⟩
          refine ⟨sumN (L.drop (at' + 1)) + sumN L2, by omega, L ++ L2, at' + 1, _, _, rfl, ((p2.trans f3).trans e5).put npl p35 loose_lst, ?_, fun w hw => ?_, ?_, ?_, by omega⟩
          · rw [upd_same, List.map_append, ← l1, List.map_map]; rfl
          · rcases List.mem_append.mp hw with hw | hw
            · exact keep w ⟨e5.at (f3.at (p4 w hw).1 loose_tup) loose_tup, (p4 w hw).2⟩
            · exact keep w (l2 w hw)
          · rw [List.length_append]; omega
          · rw [List.drop_append_of_le_length (by omega), sumN_app]
      have ex4 : Ex T H H4 := p2.trans f3
      obtain ⟨zt, zx, zy, zd⟩ := z
      cases zd with
      | int i =>
        simp only [Rep] at y2 y3
        subst y2 y3
        exact if0 Bool.false_ne_true ⟨_, rfl, _, rfl, rfl, _, rfl, if0 ne_int (leaf (by simp [nodes]))⟩
      | str i =>
        simp only [Rep] at y2 y3
        subst y2 y3
        exact if0 Bool.false_ne_true ⟨_, rfl, _, rfl, rfl, _, rfl, if0 ne_str (leaf (by simp [nodes]))⟩
      | tuple ds =>
        have w2 := y2
        have w3 := y3
        simp only [Rep] at w2 w3
        obtain ⟨a, xs, ea, ha, ra⟩ := w2
        obtain ⟨b, ys, eb, hb, rb⟩ := w3
        have ha4 := ex4.at ha loose_tup
        have hb4 := ex4.at hb loose_tup
        refine if1 rfl ⟨_, rfl, _, _, _, _, true, rfl, .ty _, Rep.ty g2, kit_tup (.tuple ds), _, rfl, _, _, _, _, true, rfl, .ty _, Rep.ty g3, kit_tup (.tuple ds), rfl, _, rfl, if0 ne_same ?_⟩
        refine ⟨_, rfl, a, xs, by rw [ea], .inr (.inl (.inl ha4)), _, rfl, b, ys, by rw [eb], .inr (.inl (.inl hb4)), rfl, _, rfl, if0 (by rw [ra.len, rb.len]; exact ne_int) ?_⟩
        exact ⟨_, rfl, .inl ⟨rfl, _, .inl (.inl (f3.at p3 loose_lst))⟩, grow a b xs ys ds ea eb ra rb (by simp [nodes]) (.inr ⟨.inl (.inl ha4), .inl (.inl hb4)⟩)⟩
      | list ds =>
        have w2 := y2
        have w3 := y3
        simp only [Rep] at w2 w3
        obtain ⟨a, xs, ea, ha, ra⟩ := w2
        obtain ⟨b, ys, eb, hb, rb⟩ := w3
        have ha4 := ex4.at ha loose_lst
        have hb4 := ex4.at hb loose_lst
        refine if1 rfl ⟨_, rfl, _, _, _, _, false, rfl, .ty _, Rep.ty g2, kit_tup (.list ds), _, rfl, _, _, _, _, false, rfl, .ty _, Rep.ty g3, kit_tup (.list ds), rfl, _, rfl, if0 ne_same ?_⟩
        refine ⟨_, rfl, a, xs, by rw [ea], .inl (.inl (.inl ha4)), _, rfl, b, ys, by rw [eb], .inl (.inl (.inl hb4)), rfl, _, rfl, if0 (by rw [ra.len, rb.len]; exact ne_int) ?_⟩
        exact ⟨_, rfl, .inl ⟨rfl, _, .inl (.inl (f3.at p3 loose_lst))⟩, grow a b xs ys ds ea eb ra rb (by simp [nodes]) (.inl ⟨.inl (.inl ha4), .inl (.inl hb4)⟩)⟩
      | none => simp only [Rep] at y2
      | bool _ => simp only [Rep] at y2
      | dict _ => simp only [Rep] at y2
end
end KW

set_option Elab.async false
set_option linter.all false
set_option maxRecDepth 100000
namespace KW
open PySem PySem.Spec PyProof.Rows L2 LamX KR
section
variable {T : List (Addr × Str)} {H H1 : Hp} {b c : Addr} {cs : List Int}
theorem BagAt.ex (e : Ex T H H1) (h : BagAt H b c cs) : BagAt H1 b c cs := by
  obtain ⟨b0, b1, b2, g1, g2, g⟩ := h
  exact ⟨b0, b1, b2, e.at g1 loose_lst, e.at g2 loose_lst, g⟩
/-- a place of its own is written: the bag stays -/
theorem BagAt.put {D : Addr} {o o' : HO} (h : BagAt H b c cs) (hb : D ≠ b) (hc : D ≠ c) : BagAt (upd H D o') b c cs := by
  obtain ⟨b0, b1, b2, g1, g2, g⟩ := h
  exact ⟨b0, b1, b2, by rw [upd_ne (Ne.symm hb)]; exact g1, by rw [upd_ne (Ne.symm hc)]; exact g2, g⟩
theorem BagAt.nb (h : BagAt H b c cs) {a : Addr} {xs : List V} (ha : H a = some (.tup xs)) : a ≠ b := by
  obtain ⟨b0, b1, b2, g1, g2, g⟩ := h
  exact ne_of ha g1 (fun z => by cases z)
theorem BagAt.isl (h : BagAt H b c cs) : ∃ xs, H b = some (.lst xs) := by
  obtain ⟨b0, b1, b2, g1, _⟩ := h
  exact ⟨_, g1⟩
theorem BagAt.cells (h : BagAt H b c cs) : H c = some (.lst (cs.map V.int)) := by
  obtain ⟨b0, b1, b2, g1, g2, _⟩ := h
  exact g2
theorem IsW.exB {a : Addr} {u : Wd} (h : BagAt H b c cs) (e : ExB T b H H1) (ha : IsW H a u) : IsW H1 a u := e.at ha loose_tup (h.nb ha)
theorem IsPr.exB {a : Addr} {p : Wd × Int} (h : BagAt H b c cs) (e : ExB T b H H1) (ha : IsPr H a p) : IsPr H1 a p := by
  obtain ⟨q, h1, h2⟩ := ha
  exact ⟨q, e.at h1 loose_tup (h.nb h1), e.at h2 loose_tup (h.nb h2)⟩
theorem IsTm.exB {a : Addr} {ts : FS} (h : BagAt H b c cs) (e : ExB T b H H1) (ha : IsTm H a ts) : IsTm H1 a ts := by
  obtain ⟨as, h1, h2⟩ := ha
  exact ⟨as, e.at h1 loose_tup (h.nb h1), paired_mono (fun _ _ => IsPr.exB h e) h2⟩
end
section
variable {P : Program} {w : World} {K : PySem.W.Frag} {mg : Str → Option Value} {base : Heap} {T : List (Addr × Str)}
abbrev CalTake (P : Program) (w : World) (K : PySem.W.Frag) (mg : Str → Option Value) (base : Heap) (T : List (Addr × Str)) := Cal P w K mg base 1 "_law_take" ["bag", "many"] (spTake T)
/-! ### _law_some -/
theorem scSome : FnScope ["bag", "things"] ["bag", "things"] (defScope sSome) := ⟨rfl, rfl, rfl, by decide +kernel, rfl, by decide +kernel, by decide +kernel⟩
def spSome (T : List (Addr × Str)) : Sp := fun vs H Q _ => ∃ (b c l : Addr) (cs : List Int) (ws : List Str), vs = [.ref b, .ref l] ∧ BagAt H b c cs ∧ H l = some (.lst (ws.map V.str)) ∧ l ≠ b ∧ 1 ≤ ws.length ∧ ws.length ≤ 100 ∧
  ∀ H' x, ExB T b H H' → BagAt H' b c cs → x ∈ ws → Q (.str x) H'
theorem ok_some {f : Addr} {fd : FuncData} (F : Fun K "_law_some" "_law_some" sSome f fd) (GT : CalTake P w K mg base T) (ml : mg "len" = none) : FnOk P w K mg base CX0 2 f fd ["bag", "things"] (spSome T) := by
  obtain ⟨fT, fdT, FT, mT, kT, bT⟩ := GT
  refine F.ok (k := 1) scSome (fun vs H Q E h => ?_) (fun cdv A outer s H vs Q E hr h => ?_)
  · obtain ⟨b, c, l, cs, ws, rfl, _⟩ := h
    rfl
  · obtain ⟨b, c, l, cs, ws, rfl, hB, hl, hlb, h1, h2, q⟩ := h
    refine ⟨_, pss_one (ps_ret (pe_ix ix_list (pv 1) (pe_call FT hr (by rfl) mT kT bT .nil pass0 (pa_cons (pv 0) (pa_cons (pe_callB call_len_seq (by rfl) ml PySem.boot_len (pa_cons (pv 1) pa_nil)) pa_nil))) (fun _ _ => rfl))), ?_⟩
    refine ⟨_, rfl, _, rfl, _, rfl, l, _, rfl, .inl (.inl (.inl hl)), b, c, cs, ws.length, by rw [List.length_map]; rfl, hB, h1, h2, fun H' v e hB' hv => ?_⟩
    exact ⟨l, _, _, .str ws[v], rfl, rfl, .inl (.inl (e.at hl loose_lst hlb)), atI_nat (by rw [List.getElem?_map, List.getElem?_eq_getElem hv]; rfl), q H' _ e hB' (List.getElem_mem hv)⟩
/-! ### _law_bag -/
theorem scBag : FnScope ["script", "cell"] ["script"] (defScope sBag) := ⟨rfl, rfl, rfl, by decide +kernel, rfl, by decide +kernel, by decide +kernel⟩
def spBag (K : PySem.W.Frag) (T : List (Addr × Str)) : Sp := fun vs H Q _ => ∃ (a : Addr) (ns : List Int), vs = [.ref a] ∧ SqL K H a (ns.map V.int) ∧ ∀ H' b c cs, Ex T H H' → BagAt H' b c cs → Q (.ref b) H'
theorem ok_bag {f : Addr} {fd : FuncData} {k : Nat} (F : Fun K "_law_bag" "_law_bag" sBag f fd) (ma : mg "abs" = none) : FnOk P w K mg base CX0 (k + 1) f fd ["script"] (spBag K T) := by
  refine F.ok (k := k) scBag (fun vs H Q E h => ?_) (fun cdv A outer s H vs Q E hr h => ?_)
  · obtain ⟨a, ns, rfl, _⟩ := h
    rfl
  · obtain ⟨a, ns, rfl, hS, q⟩ := h
    have nd := scBag.nd
    refine ⟨_, pss_one (ps_ret (pe_lst (pa_cons pe_int (pa_cons pe_int (pa_cons pe_int (pa_cons
      (pe_lc (own := [("cell", 1)]) (g := gName 1) (tt := tYes) (by rfl) nd (pi_list (pe_slice sl_list (pv 0) po_none (po_some pe_int))) (blkOk_by (N := ["script", "cell"]) (sc := defScope sBag) (by decide +kernel))
        (fun _ _ _ _ _ => pg_name (i := 1) nd rfl (.inl rfl)) (fun _ _ _ _ _ => pts_nil) (fun _ _ _ _ _ => pe_callB call_abs (by rfl) ma (by decide +kernel) (pa_cons (pv 1) pa_nil))) pa_nil)))))), ?_⟩
    refine ⟨_, rfl, 63, rfl, a, _, rfl, hS, fun p hp => ⟨p, rfl, ⟨_, .inl (.inl upd_same)⟩, fun D hD => ?_⟩⟩
    have ecut : ∃ ms : List Int, cutV (ns.map V.int) none (some 63) = ms.map V.int ∧ ms.length ≤ 63 := by
      unfold cutV
      rw [← List.map_drop, ← List.map_take]
      refine ⟨_, rfl, ?_⟩
      have h63 : HT.sIx (ns.map V.int).length (ns.map V.int).length (some 63) ≤ 63 := by
        rw [show (some (63 : Int)) = some ((63 : Nat) : Int) from rfl, HT.sIx_nat]; omega
      rw [List.length_take]; omega
    obtain ⟨ms, hms, hlen⟩ := ecut
    rw [hms]
    have ep : Ex T H (upd H p (.lst (ms.map V.int))) := (Ex.refl H).new (by simpa using hp)
    rw [hms] at hD
    refine lc_list (xs := ms.map V.int) (fun i H3 => IntsAt T (upd H p (.lst (ms.map V.int))) D ((ms.take i).map fun x => if x < 0 then -x else x) H3) (IntsAt.nil hD) (fun i H3 _ p => .inl (.inl (p.1.at upd_same loose_lst))) (fun i x H3 hx p => ?_) (fun H3 p => ?_)
    · rw [List.getElem?_map] at hx
      obtain ⟨z, hz, rfl⟩ : ∃ z, ms[i]? = some z ∧ x = .int z := by
        cases e : ms[i]? with
        | none => rw [e] at hx; cases hx
        | some y => rw [e] at hx; exact ⟨y, rfl, (Option.some.inj hx).symm⟩
      refine ⟨rfl, ?_⟩
      unfold tYes
      obtain ⟨acc, a1, a2, a3⟩ := p.add (n := if z < 0 then -z else z) hD (Ex.refl H3)
      refine iteT ⟨_, rfl, _, rfl, acc, a1, ?_, ?_⟩
      · rw [a2, List.length_map, List.length_take, sizeLine_eq]; omega
      · rw [take_snoc hz, List.map_append]; exact a3
    · rw [List.length_map, List.take_length] at p
      refine ⟨by show 4 ≤ sizeLine; decide, fun bb hbb => ?_⟩
      have e3 : Ex T H3 (upd H3 bb (.lst [.int 0, .int 1234567891, .int 0, .ref D])) := (Ex.refl H3).new hbb
      refine q _ bb D _ ((ep.trans p.1).trans e3) ⟨0, 1234567891, 0, upd_same, e3.at p.2 loose_lst, by decide, by decide, by decide, fun x hx => ?_, by rw [List.length_map]; exact hlen, ne_of_none p.2 hbb⟩
      obtain ⟨y, _, rfl⟩ := List.mem_map.mp hx
      split <;> omega
abbrev CalSome (P : Program) (w : World) (K : PySem.W.Frag) (mg : Str → Option Value) (base : Heap) (T : List (Addr × Str)) := Cal P w K mg base 2 "_law_some" ["bag", "things"] (spSome T)
end
end KW

set_option Elab.async false
set_option linter.all false
set_option maxRecDepth 100000
namespace KW
open PySem PySem.Spec PyProof.Rows L2 LamX KR
/-! ### words and terms as trees -/
def tmD (ts : FS) : PyData := .tuple (ts.map fun p => .tuple [wD p.1, .int p.2])
def wsD (ws : List Wd) : PyData := .tuple (ws.map wD)
theorem repAll_strs {H : Hp} : ∀ u : Wd, RepAll H (u.map V.str) (u.map PyData.str)
  | [] => by simp only [List.map_nil, RepAll]
  | x :: u => by
    simp only [List.map_cons, RepAll, Rep]
    exact ⟨trivial, repAll_strs u⟩
theorem rep_w {H : Hp} {q : Addr} {u : Wd} (h : IsW H q u) : Rep H (.ref q) (wD u) := by
  simp only [wD, Rep]
  exact ⟨q, _, rfl, h, repAll_strs u⟩
theorem repAll_prs {H : Hp} : ∀ {as : List Addr} {ts : FS}, Paired (IsPr H) as ts → RepAll H (as.map V.ref) (ts.map fun p => .tuple [wD p.1, .int p.2])
  | _, _, .nil => by simp only [List.map_nil, RepAll]
  | _, _, .cons (a := t) (b := p) ⟨q, h1, h2⟩ h => by
    simp only [List.map_cons, RepAll]
    refine ⟨?_, repAll_prs h⟩
    have h3 := rep_w h2
    simp only [Rep]
    refine ⟨t, _, rfl, h1, ?_⟩
    simp only [RepAll]
    refine ⟨h3, ?_, trivial⟩
    simp only [Rep]
theorem rep_tm {H : Hp} {a : Addr} {ts : FS} (h : IsTm H a ts) : Rep H (.ref a) (tmD ts) := by
  obtain ⟨as, h1, h2⟩ := h
  simp only [tmD, Rep]
  exact ⟨a, _, rfl, h1, repAll_prs h2⟩
theorem repAll_ws {H : Hp} : ∀ {as : List Addr} {ws : List Wd}, Paired (IsW H) as ws → RepAll H (as.map V.ref) (ws.map wD)
  | _, _, .nil => by simp only [List.map_nil, RepAll]
  | _, _, .cons h t => by
    simp only [List.map_cons, RepAll]
    exact ⟨rep_w h, repAll_ws t⟩
theorem rep_ws {H : Hp} {a : Addr} {ws : List Wd} (h : IsWs H a ws) : Rep H (.ref a) (wsD ws) := by
  obtain ⟨as, h1, h2⟩ := h
  simp only [wsD, Rep]
  exact ⟨a, _, rfl, h1, repAll_ws h2⟩
theorem rep_two {H : Hp} {l : Addr} {x y : V} {d e : PyData} (h : H l = some (.lst [x, y])) (hx : Rep H x d) (hy : Rep H y e) : Rep H (.ref l) (.list [d, e]) := by
  simp only [Rep]
  refine ⟨l, _, rfl, h, ?_⟩
  simp only [RepAll]
  exact ⟨hx, hy, trivial⟩
theorem nodes_strs : ∀ u : Wd, nodesAll (u.map PyData.str) = u.length
  | [] => by simp [nodesAll]
  | x :: u => by simp only [List.map_cons, nodesAll, nodes, nodes_strs u, List.length_cons]; omega
theorem nodes_w (u : Wd) : nodes (wD u) = u.length + 1 := by simp only [wD, nodes, nodes_strs]
theorem nodes_tm {A M B : Nat} {ts : FS} (h : Sz A M B ts) : nodes (tmD ts) ≤ M * (A + 3) + 1 := by
  have hh : ∀ (l : FS), (∀ p ∈ l, p.1.length ≤ A) → nodesAll (l.map fun p => PyData.tuple [wD p.1, .int p.2]) ≤ l.length * (A + 3) := fun l => by
    induction l with
    | nil => intro _; simp [nodesAll]
    | cons p l ih =>
      intro hl
      have h1 := hl p (List.mem_cons_self ..)
      have h2 := ih fun q hq => hl q (List.mem_cons_of_mem _ hq)
      simp only [List.map_cons, nodesAll, nodes, nodes_w, List.length_cons, Nat.succ_mul]
      simp only [wD, nodes, nodes_strs] at *
      omega
  have h3 := hh ts fun p hp => (h.2 p hp).1
  have h4 := Nat.mul_le_mul_right (A + 3) h.1
  simp only [tmD, nodes]
  omega
theorem nodes_ws {n m : Nat} {ws : List Wd} (h : ∀ u ∈ ws, u.length ≤ n) (hl : ws.length ≤ m) : nodes (wsD ws) ≤ m * (n + 1) + 1 := by
  have hh : ∀ (l : List Wd), (∀ u ∈ l, u.length ≤ n) → nodesAll (l.map wD) ≤ l.length * (n + 1) := fun l => by
    induction l with
    | nil => intro _; simp [nodesAll]
    | cons p l ih =>
      intro hl
      have h1 := hl p (List.mem_cons_self ..)
      have h2 := ih fun q hq => hl q (List.mem_cons_of_mem _ hq)
      rw [List.map_cons, nodesAll, nodes_w, List.length_cons, Nat.succ_mul]
      omega
  have h3 := hh ws h
  have h4 := Nat.mul_le_mul_right (n + 1) hl
  simp only [wsD, nodes]
  omega
theorem nodes_two (d e : PyData) : nodes (.list [d, e]) = nodes d + nodes e + 1 := by simp only [nodes, nodesAll]; omega
/-! ### sizes of what terms come to -/
theorem lin_nat {A M B C : Nat} {f : Wd → Int} (hf : ∀ u, (f u).natAbs ≤ C) : ∀ {ts : FS}, Sz A M B ts → (KM.lin f ts).natAbs ≤ ts.length * (B * C)
  | [], _ => by simp [KM.lin]
  | (u, n) :: r, h => by
    have h2 := (h.2 (u, n) (List.mem_cons_self ..)).2
    have ih := lin_nat hf (ts := r) (A := A) (M := M) (B := B) ⟨by have := h.1; simp only [List.length_cons] at this; omega, fun p hp => h.2 p (List.mem_cons_of_mem _ hp)⟩
    have h3 : (n * f u).natAbs ≤ B * C := by rw [Int.natAbs_mul]; exact Nat.mul_le_mul h2 (hf u)
    simp only [KM.lin, List.length_cons, Nat.succ_mul]
    omega
theorem cnt_le {r : Wd} (h : r.length ≤ 9) (u : Wd) : (KM.cnt u r).natAbs ≤ 1024 := by
  have h1 := cnt_nat u r
  have h2 : 2 ^ (r.length + 1) ≤ 2 ^ 10 := Nat.pow_le_pow_right (by decide) (by omega)
  omega
theorem nb_of {A M B : Nat} {ts : FS} (h : Sz A M B ts) (hB : B < 2 ^ 200) : Nb 5000 ts := fun p hp =>
  Nat.lt_of_le_of_lt (h.2 p hp).2 (Nat.lt_of_lt_of_le hB (Nat.pow_le_pow_right (by decide) (by decide)))
/-! ### the laws of counts -/
theorem terms_nil : KM.terms wle ([] : FS) = [] := List.length_eq_zero_iff.mp (Nat.le_zero.mp (KM.terms_len (le := wle) ([] : FS)))
theorem both_eq (u v : Wd) : KM.terms wle (KM.mulF [(u, 1)] [(v, 1)]) = KM.terms wle (KM.FF u v) := by
  refine KM.terms_eq ord_wle fun w => ?_
  simp only [KM.mulF, List.flatMap_cons, List.flatMap_nil, List.append_nil]
  rw [KM.coef_scl]; simp
theorem both_lin (u v r : Wd) : KM.lin (fun w => KM.cnt w r) (KM.terms wle (KM.FF u v)) = KM.cnt u r * KM.cnt v r := by
  rw [KM.terms_lin, KM.FF_prod]
theorem far_lin (ts os : FS) (r : Wd) : KM.lin (fun w => KM.cnt w r) (KM.terms wle (KM.mulF ts os)) = KM.lin (fun w => KM.cnt w r) ts * KM.lin (fun w => KM.cnt w r) os := by
  rw [KM.terms_lin, KM.mulF_prod]
theorem lin_one (u r : Wd) : KM.lin (fun w => KM.cnt w r) [(u, 1)] = KM.cnt u r := by simp [KM.lin]
theorem pow_lin (p r : Wd) : ∀ k, KM.lin (fun w => KM.cnt w r) (powT p k) = KM.cnt p r ^ k
  | 0 => by rw [powT, lin_one, cnt_nil, Int.pow_zero]
  | k + 1 => by rw [powT, far_lin, pow_lin p r k, lin_one, Int.pow_succ]
theorem lin_neg (f : Wd → Int) (k : Int) : ∀ ts : FS, KM.lin f (ts.map fun x => (x.1, 0 - k * x.2)) = 0 - k * KM.lin f ts
  | [] => by simp [KM.lin]
  | (u, n) :: r => by
    simp only [List.map_cons, KM.lin, lin_neg f k r]
    grind
/-- the falling product -/
def fall (x : Int) : Nat → Int
  | 0 => 1
  | k + 1 => fall x k * (x - (k : Int))
theorem cho_lin (p r : Wd) : ∀ k, KM.lin (fun w => KM.cnt w r) (choT p k) = fall (KM.cnt p r) k
  | 0 => by rw [choT, lin_one, cnt_nil]; rfl
  | k + 1 => by
    rw [choT, lessT, KM.terms_lin, KM.lin_append, far_lin, lin_one, lin_neg, cho_lin p r k, fall]
    grind
theorem coef_neg (w : Wd) : ∀ ts : FS, KM.coef (ts.map fun x => (x.1, 0 - x.2)) w = 0 - KM.coef ts w
  | [] => rfl
  | (u, n) :: r => by
    simp only [List.map_cons, KM.coef, coef_neg w r]
    split <;> omega
theorem none_left (ts : FS) : KM.terms wle (ts ++ ts.map fun x => (x.1, 0 - x.2)) = [] := by
  rw [← terms_nil]
  refine KM.terms_eq ord_wle fun w => ?_
  rw [KM.coef_append, coef_neg]
  simp [KM.coef]
  omega
theorem mulF_nil (os : FS) : KM.terms wle (KM.mulF [] os) = [] := terms_nil
end KW

set_option Elab.async false
set_option linter.all false
set_option maxRecDepth 100000
namespace KW
open PySem PySem.Spec PyProof.Rows L2 LamX KR
/-! ### the law -/
abbrev NL : List Str := ["script", "bag", "turn", "letters", "words", "row", "one", "other", "third", "made", "terms", "others", "small", "many", "power", "choice", "step", "count", "due", "counts", "place", "some", "word", "often"]
theorem scLaw : FnScope NL ["script"] (defScope sLaw) := ⟨rfl, rfl, rfl, by decide +kernel, rfl, by decide +kernel, by decide +kernel⟩
def bodyL : List Stmt := match (defBody sLaw)[1]? with
  | some (Stmt.For _ _ b _ _) => b
  | _ => []
/-- the lambda of the law, by its text -/
def lamOf : Stmt → Option (Arguments × Expr × Scope)
  | .If (.Compare (.Call _ [_, .Lambda p b s _] _ _) _ _ _) _ _ _ => some (p, b, s)
  | _ => none
def lamL : Arguments × Expr × Scope := ((bodyL[11]?.bind lamOf).getD (defArgs sLaw, .Name "" ⟨0, 0, 0, 0⟩, defScope sLaw))
theorem lamTx : LamTx "counts" "word" lamL.1 lamL.2.1 lamL.2.2 := ⟨rfl, rfl, rfl, by decide +kernel, rfl, rfl, fun _ _ _ _ _ _ => rfl, ⟨_, _, _, rfl⟩, by decide, by decide, by decide⟩
structure Cals (P : Program) (w : World) (K : PySem.W.Frag) (mg : Str → Option Value) (base : Heap) (T : List (Addr × Str)) : Prop where
  take : Cal P w K mg base 1 "_law_take" ["bag", "many"] (spTake T)
  som : Cal P w K mg base 2 "_law_some" ["bag", "things"] (spSome T)
  terms : Cal P w K mg base 2 "_law_terms" ["told"] (spAsTerms T)
  shuffled : Cal P w K mg base 1 "_law_shuffled" ["one", "other"] (spShuffled T)
  alike : Cal P w K mg base 1 "_law_alike" ["found", "due"] (spAlike T)
  count : Cal P w K mg base 1 "_law_count" ["pattern", "word"] (spCount T)
  worth : Cal P w K mg base 2 "_law_worth" ["terms", "row"] (spWorth T)
  added : Cal P w K mg base 1 "_law_added_terms" ["terms", "others"] (spAddedTerms T)
  times : Cal P w K mg base 3 "_law_terms_times" ["one", "other"] (spTimes T)
  less : Cal P w K mg base 4 "_law_terms_less" ["terms", "word", "step"] (spTermsLess T)
  many : Cal P w K mg base 1 "_law_many_times" ["number", "many"] spManyTimes
  product : Cal P w K mg base 3 "product_of" ["one", "other"] (spProductOf T)
  termsProduct : Cal P w K mg base 4 "terms_product" ["terms", "others"] (spTimes T)
  termsSum : Cal P w K mg base 3 "terms_sum" ["terms", "others"] (spTermsSum T)
  wordsIn : Cal P w K mg base 1 "words_in" ["terms"] (spWordsIn T)
  termsAt : ∃ f fd, FnOk P w K mg base CX0 2 f fd ["terms", "counts"] (spTermsAt T "counts" "word" qG lamL.1 lamL.2.1 lamL.2.2) ∧ mg "terms_at" = some (.ref f) ∧ PySem.W.keepIn K (.ref f) = true ∧ Binds K fd ["terms", "counts"] []
  power : Cal P w K mg base 5 "power_of" ["pattern", "many"] (spPow T powT)
  choices : Cal P w K mg base 5 "choices_of" ["pattern", "many"] (spPow T choT)
  bag : Cal P w K mg base 1 "_law_bag" ["script"] (spBag K T)
  mt : mg "tuple" = none
  mr : mg "range" = none
  md : mg "dict" = none
/-- all tuples stay -/
def Tp (H H' : Hp) : Prop := ∀ a xs, H a = some (.tup xs) → H' a = some (.tup xs)
section
variable {T : List (Addr × Str)} {H H1 H2 : Hp} {b c : Addr} {cs : List Int}
theorem Tp.refl (H : Hp) : Tp H H := fun _ _ h => h
theorem Tp.trans (e : Tp H H1) (f : Tp H1 H2) : Tp H H2 := fun a xs h => f a xs (e a xs h)
theorem Ex.tp (e : Ex T H H1) : Tp H H1 := fun a xs h => e.at h loose_tup
theorem ExB.tp (hB : BagAt H b c cs) (e : ExB T b H H1) : Tp H H1 := fun a xs h => e.at h loose_tup (hB.nb h)
theorem IsW.tp (e : Tp H H1) {a : Addr} {u : Wd} (h : IsW H a u) : IsW H1 a u := e _ _ h
theorem IsPr.tp (e : Tp H H1) {a : Addr} {p : Wd × Int} (h : IsPr H a p) : IsPr H1 a p := by
  obtain ⟨q, h1, h2⟩ := h
  exact ⟨q, e _ _ h1, e _ _ h2⟩
theorem IsTm.tp (e : Tp H H1) {a : Addr} {ts : FS} (h : IsTm H a ts) : IsTm H1 a ts := by
  obtain ⟨as, h1, h2⟩ := h
  exact ⟨as, e _ _ h1, paired_mono (fun _ _ => IsPr.tp e) h2⟩
end
/-- what stands between two turns -/
def GoodL (T : List (Addr × Str)) (a b c : Addr) (cs : List Int) (σ : L2.St) (H : Hp) : Prop :=
  ∃ y2 y3 y4 y5 y6 y7 y8 y9 y10 y11 y12 y13 y14 y15 y16 y17 y18 y19 y20 y21 y22 y23, σ = [some (.ref a), some (.ref b), y2, y3, y4, y5, y6, y7, y8, y9, y10, y11, y12, y13, y14, y15, y16, y17, y18, y19, y20, y21, y22, y23] ∧ BagAt H b c cs ∧ Tabs T H
abbrev XL (P : Program) (w : World) (K : PySem.W.Frag) (mg : Str → Option Value) (base : Heap) (f cL : Addr) (A : Around) (outer : List Env) (s : Shared) (H0 : Hp) (E : XK) : Cx := (cxOf CX0 P w K mg base NL "law" (defScope sLaw) f (.ref cL) A outer s H0 E).nox
abbrev tLit : TE := tTup (tCons (tTup (tCons (tTup tNil) (tCons (tC (.int 1)) tNil))) tNil)
theorem one_two {T : List (Addr × Str)} {σ : L2.St} {H : Hp} {Q : VK} (h : ∀ r1 r2 t H', Ex T H H' → IsTm H' r1 [([], 1)] → IsTm H' r2 [([], 1)] → H' t = some (.tup [.ref r1, .ref r2]) → Q (.ref t) H') : tTup (tCons tLit (tCons tLit tNil)) σ H Q := by
  have k : ∀ (H : Hp) (Q1 : VK), (∀ r1 H1, Ex T H H1 → IsTm H1 r1 [([], 1)] → Q1 (.ref r1) H1) → tLit σ H Q1 := fun H Q1 hq => one_term (T := T) (u := []) (fun R h => nil_word R h) hq
  show tLit σ H fun x H1 => tLit σ H1 fun y H2 => 2 ≤ sizeLine ∧ ∀ p, H2 p = none → Q (.ref p) (upd H2 p (.tup [x, y]))
  refine k H (fun x H1 => tLit σ H1 fun y H2 => 2 ≤ sizeLine ∧ ∀ p, H2 p = none → Q (.ref p) (upd H2 p (.tup [x, y]))) fun r1 H1 e1 h1 => k H1 (fun y H2 => 2 ≤ sizeLine ∧ ∀ p, H2 p = none → Q (.ref p) (upd H2 p (.tup [.ref r1, y]))) fun r2 H2 e2 h2 => ⟨by decide, fun t ht => ?_⟩
  have e3 : Ex T H2 (upd H2 t (.tup [.ref r1, .ref r2])) := (Ex.refl H2).new ht
  exact h r1 r2 t _ ((e1.trans e2).trans e3) (IsTm.ex (e2.trans e3) h1) (IsTm.ex e3 h2) upd_same
theorem fall_nat {x : Int} (hx : x.natAbs ≤ 1024) : ∀ k : Nat, k ≤ 4 → (fall x k).natAbs < 2 ^ (12 * k + 1)
  | 0, _ => by simp [fall]
  | k + 1, h => by
    have h1 := fall_nat hx k (by omega)
    have h2 : (x - (k : Int)).natAbs < 2 ^ 12 := by
      have : (2 : Nat) ^ 12 = 4096 := by decide
      omega
    have h3 := wide_lt h1 h2
    rw [fall]
    refine Nat.lt_of_lt_of_le h3 (Nat.pow_le_pow_right (by decide) (by omega))
/-- two ints in a list -/
theorem dp_two {K : PySem.W.Frag} {H : Hp} {l : Addr} {x y : Int} (h : H l = some (.lst [.int x, .int y])) : Dp K H (.ref l) (.list [.int x, .int y]) := .lst (.inl (.inl h)) (.cons (.int x) (.cons (.int y) .nil))
theorem sh_two (x y : Int) : SeqAt.shaped (.list [.int x, .int y]) = true := by simp [SeqAt.shaped, PyData.canLay0, PyData.canLayAll0, PyData.depth, PyData.depthAll]
section
variable {P : Program} {w : World} {K : PySem.W.Frag} {mg : Str → Option Value} {base : Heap} {T : List (Addr × Str)} {f cL : Addr} {A : Around} {outer : List Env} {s : Shared} {H0 : Hp} {E : XK}
/-- small, many = ..; the tests of powers and choices -/
theorem chunkD (C : Cals P w K mg base T) (hr : Room 5 (XL P w K mg base f cL A outer s H0 E).A) : ∃ u : TS, PSs (XL P w K mg base f cL A outer s H0 E) (bodyL.drop 12) u ∧
    ∀ (D : Ends) (a b c : Addr) (cs : List Int) (q1 q3 : Addr) (v r : Wd) y2 y3 y4 y7 y8 y9 y10 y11 y12 y13 y14 y15 y16 y17 y18 y19 y20 y21 y22 y23 H, BagAt H b c cs → Tabs T H → IsW H q3 r → r.length ≤ 9 → IsW H q1 v →
      (∀ σ' H', GoodL T a b c cs σ' H' → D.nx σ' H') → u D [some (.ref a), some (.ref b), y2, y3, y4, some (.ref q3), some (.ref q1), y7, y8, y9, y10, y11, y12, y13, y14, y15, y16, y17, y18, y19, y20, y21, y22, y23] H := by
  obtain ⟨fK, fdK, FK, mK, kK, bK⟩ := C.take
  obtain ⟨fX, fdX, FX, mX, kX, bX⟩ := C.times
  obtain ⟨fL, fdL, FL, mL, kL, bL⟩ := C.less
  obtain ⟨fA, fdA, FA, mA, kA, bA⟩ := C.alike
  obtain ⟨fP, fdP, FP, mP, kP, bP⟩ := C.power
  obtain ⟨fO, fdO, FO, mO, kO, bO⟩ := C.choices
  obtain ⟨fC, fdC, FC, mC, kC, bC⟩ := C.count
  obtain ⟨fW, fdW, FW, mW, kW, bW⟩ := C.worth
  obtain ⟨fM, fdM, FM, mM, kM, bM⟩ := C.many
  have nd := scLaw.nd
  refine ⟨_, pss_cons (ps_par (i := 12) (j := 13) (by rfl) nd rfl rfl (by decide) rfl rfl (pa_cons (pe_slice sl_tupA (pv 6) po_none (po_some pe_int)) (pa_cons (pe_call FK (hr.mono (by decide)) (by rfl) mK kK bK .nil pass0 (pa_cons (pv 1) (pa_cons pe_int pa_nil))) pa_nil)) (by rfl))
    (pss_cons (ps_asg (pe_tup (pa_cons (pe_tup (pa_cons (pe_tup (pa_cons (pe_tup pa_nil) (pa_cons pe_int pa_nil))) pa_nil)) (pa_cons (pe_tup (pa_cons (pe_tup (pa_cons (pe_tup pa_nil) (pa_cons pe_int pa_nil))) pa_nil)) pa_nil)))
        (pg_tup rfl (pgs_cons (pg_name (i := 14) nd rfl (.inl rfl)) (pgs_cons (pg_name (i := 15) nd rfl (.inl rfl)) pgs_nil))))
    (pss_cons (ps_for PassesOwn.never rfl (pi_range1 rfl C.mr (pa_cons (pv 13) pa_nil)) (pg_name (i := 16) nd rfl (.inl rfl))
        (pss_cons (ps_set (i := 15) nd rfl (.inl rfl) (pe_call FL (hr.mono (by decide)) (by rfl) mL kL bL .nil pass0 (pa_cons (pv 15) (pa_cons (pv 12) (pa_cons (pv 16) pa_nil)))))
        (pss_one (ps_set (i := 14) nd rfl (.inl rfl) (pe_call FX (hr.mono (by decide)) (by rfl) mX kX bX .nil pass0 (pa_cons (pv 14) (pa_cons (pe_tup (pa_cons (pe_tup (pa_cons (pv 12) (pa_cons pe_int pa_nil))) pa_nil)) pa_nil)))))))
    (pss_cons (ps_if (pt_not (pt_val (pe_call FA (hr.mono (by decide)) (by rfl) mA kA bA .nil pass0 (pa_cons
        (pe_lst (pa_cons (pe_call FP hr (by rfl) mP kP bP .nil pass0 (pa_cons (pv 12) (pa_cons (pv 13) pa_nil))) (pa_cons (pe_call FO hr (by rfl) mO kO bO .nil pass0 (pa_cons (pv 12) (pa_cons (pv 13) pa_nil))) pa_nil)))
        (pa_cons (pe_lst (pa_cons (pv 14) (pa_cons (pv 15) pa_nil))) pa_nil)))))
      (pss_one (ps_ret pe_bl)) pss_nil)
    (pss_cons (ps_par (i := 17) (j := 18) (by rfl) nd rfl rfl (by decide) rfl rfl (pa_cons (pe_call FC (hr.mono (by decide)) (by rfl) mC kC bC .nil pass0 (pa_cons (pv 12) (pa_cons (pv 5) pa_nil))) (pa_cons pe_int pa_nil)) (by rfl))
    (pss_cons (ps_for PassesOwn.never rfl (pi_range1 rfl C.mr (pa_cons (pv 13) pa_nil)) (pg_name (i := 16) nd rfl (.inl rfl))
        (pss_one (ps_set (i := 18) nd rfl (.inl rfl) (pe_op op_mulW (pv 18) (pe_op op_sub (pv 17) (pv 16))))))
    (pss_one (ps_if (pt_cmpR (op_neD hr.units)
        (pe_lst (pa_cons (pe_call FW (hr.mono (by decide)) (by rfl) mW kW bW .nil pass0 (pa_cons (pv 14) (pa_cons (pv 5) pa_nil))) (pa_cons (pe_call FW (hr.mono (by decide)) (by rfl) mW kW bW .nil pass0 (pa_cons (pv 15) (pa_cons (pv 5) pa_nil))) pa_nil)))
        (pe_lst (pa_cons (pe_call FM (hr.mono (by decide)) (by rfl) mM kM bM .nil pass0 (pa_cons (pv 17) (pa_cons (pv 13) pa_nil))) (pa_cons (pv 18) pa_nil))) (nomark _))
      (pss_one (ps_ret pe_bl)) pss_nil))))))), ?_⟩
  intro D a b c cs q1 q3 v r y2 y3 y4 y7 y8 y9 y10 y11 y12 y13 y14 y15 y16 y17 y18 y19 y20 y21 y22 y23 H hB hT h3 hr9 h1 hD
  refine ⟨_, rfl, 2, rfl, slA_all (n := 2) h1 fun qp H1 sm hqp => ?_⟩
  have e1 : Ex T H H1 := Ex.same sm
  have hB1 := BagAt.ex e1 hB
  have hp2 : (v.take 2).length ≤ 2 := by rw [List.length_take]; omega
  generalize v.take 2 = p at hqp hp2
  refine ⟨_, rfl, b, c, cs, 4, rfl, hB1, by decide, by decide, fun H2 n e2 hB2 hn => ⟨_, _, rfl, ?_⟩⟩
  have T2 : Tabs T H2 := e2.2 (e1.tabs hT)
  have p2 : IsW H2 qp p := IsW.tp (e2.tp hB1) hqp
  have r2 : IsW H2 q3 r := IsW.tp (e2.tp hB1) (IsW.ex e1 h3)
  refine seq_asg (one_two (T := T) fun z1 z2 zt H3 e3 hz1 hz2 hzt => ⟨zt, _, rfl, .inl (.inl hzt), rfl, _, _, rfl, _, _, rfl, rfl, ?_⟩)
  -- the loop
  refine ⟨_, rfl, (n : Int), rfl, by omega, by omega, ?_⟩
  refine for_range (n := n) (fun i σ H4 => ∃ rp rq y16, σ = [some (.ref a), some (.ref b), y2, y3, y4, some (.ref q3), some (.ref q1), y7, y8, y9, y10, y11, some (.ref qp), some (.int (n : Int)), some (.ref rp), some (.ref rq), y16, y17, y18, y19, y20, y21, y22, y23] ∧ Ex T H2 H4 ∧ IsTm H4 rp (powT p i) ∧ IsTm H4 rq (choT p i))
    ⟨z1, z2, y16, rfl, e3, hz1, hz2⟩ (fun i σ H4 hi pv' => ?_) (fun σ H4 pv' => ?_)
  · obtain ⟨rp, rq, y16, rfl, e4, h5, h6⟩ := pv'
    rw [show (V.int (0 + (i : Int))) = .int (i : Nat) by rw [Int.zero_add]]
    obtain ⟨_, _, _, _, _, _, _, fit⟩ := pow_sz hp2 i (by omega)
    obtain ⟨A', M', B', hsz, _, hBB, hAA, hMM⟩ := cho_sz hp2 i (by omega)
    refine ⟨_, rfl, _, rfl, _, rfl, rq, qp, choT p i, p, i, rfl, h6, IsW.ex e4 p2, hp2, by omega, ⟨A', M', B', hsz, hAA, hMM (by omega), hBB⟩, e4.tabs T2, fun H5 r5 e5 hr5 => ?_⟩
    refine ⟨_, rfl, ?_⟩
    refine one_term (T := T) (u := p) (fun R h => ⟨_, rfl, h qp _ (Ex.refl _) (IsW.ex (e4.trans e5) p2)⟩) fun r1 H6 e6 hr1 => ?_
    have e46 := e5.trans e6
    exact ⟨rp, r1, powT p i, [(p, 1)], rfl, IsTm.ex e46 h5, hr1, fit (by omega), (e4.trans e46).tabs T2, fun H7 r7 e7 hr7 => ⟨r7, r5, _, rfl, (e4.trans e46).trans e7, hr7, IsTm.ex (e6.trans e7) hr5⟩⟩
  · obtain ⟨rp, rq, y16, rfl, e4, h5, h6⟩ := pv'
    obtain ⟨Ap, Mp, Bp, szp, hMp, hBp, hAp, _⟩ := pow_sz hp2 n (by omega)
    obtain ⟨Aq, Mq, Bq, szq, hMq, hBq, hAq, _⟩ := cho_sz hp2 n (by omega)
    -- the test of powers
    refine ⟨_, rfl, _, rfl, qp, p, n, rfl, IsW.ex e4 p2, hp2, by omega, e4.tabs T2, fun H5 r5 e5 hr5 => ?_⟩
    have e25 := e4.trans e5
    refine ⟨_, rfl, _, rfl, qp, p, n, rfl, IsW.ex e25 p2, hp2, by omega, e25.tabs T2, fun H6 r6 e6 hr6 => ?_⟩
    have e26 := e25.trans e6
    refine ⟨by show 2 ≤ sizeLine; decide, fun l1 hl1 => ⟨_, rfl, _, rfl, by show 2 ≤ sizeLine; decide, fun l2 hl2 => ?_⟩⟩
    have f1 : Ex T H6 (upd H6 l1 (.lst [.ref r5, .ref r6])) := (Ex.refl H6).new hl1
    have f2 : Ex T H6 (upd (upd H6 l1 (.lst [.ref r5, .ref r6])) l2 (.lst [.ref rp, .ref rq])) := f1.new hl2
    have g1 : upd (upd H6 l1 (.lst [.ref r5, .ref r6])) l2 (.lst [.ref rp, .ref rq]) l1 = some (.lst [.ref r5, .ref r6]) := by
      rw [upd_ne (ne_of_none upd_same hl2)]; exact upd_same
    refine ⟨.ref l1, .ref l2, .list [tmD (powT p n), tmD (choT p n)], rfl, rep_two g1 (rep_tm (IsTm.ex (e6.trans f2) hr5)) (rep_tm (IsTm.ex f2 hr6)), rep_two upd_same (rep_tm (IsTm.ex ((e5.trans e6).trans f2) h5)) (rep_tm (IsTm.ex ((e5.trans e6).trans f2) h6)), ?_, fun H7 e7 => ⟨_, rfl, if0 (by simp) ?_⟩⟩
    · have k1 := nodes_tm (szp.mono hAp hMp (Nat.le_refl _))
      have k2 := nodes_tm (szq.mono hAq hMq (Nat.le_refl _))
      rw [nodes_two]; omega
    have e27 : Ex T H2 H7 := (e26.trans f2).trans e7
    have e47 : Ex T H4 H7 := ((e5.trans e6).trans f2).trans e7
    -- count, due
    refine ⟨_, rfl, _, rfl, qp, q3, p, r, rfl, IsW.ex e27 p2, IsW.ex e27 r2, by omega, fun H8 e8 => ⟨_, _, rfl, ?_⟩⟩
    have e28 := e27.trans e8
    refine ⟨_, rfl, (n : Int), rfl, by omega, by omega, ?_⟩
    refine for_range (n := n) (fun i σ H9 => ∃ y16, σ = [some (.ref a), some (.ref b), y2, y3, y4, some (.ref q3), some (.ref q1), y7, y8, y9, y10, y11, some (.ref qp), some (.int (n : Int)), some (.ref rp), some (.ref rq), y16, some (.int (KM.cnt p r)), some (.int (fall (KM.cnt p r) i)), y19, y20, y21, y22, y23] ∧ H9 = H8)
      ⟨y16, rfl, rfl⟩ (fun i σ H9 hi pv' => ?_) (fun σ H9 pv' => ?_)
    · obtain ⟨y16, rfl, rfl⟩ := pv'
      rw [show (V.int (0 + (i : Int))) = .int (i : Nat) by rw [Int.zero_add]]
      have k1 := fall_nat (cnt_le hr9 p) i (by omega)
      have k2 : (KM.cnt p r - (i : Int)).natAbs < 2 ^ 12 := by
        have := cnt_le hr9 p
        have : (2 : Nat) ^ 12 = 4096 := by decide
        omega
      exact ⟨_, rfl, _, rfl, _, rfl, _, _, rfl, rfl, _, _, rfl, rfl, wide_mul k1 k2 (by omega) (by decide) (by omega), _, rfl, rfl⟩
    · obtain ⟨y16, rfl, rfl⟩ := pv'
      have e48 := e47.trans e8
      refine ⟨_, rfl, _, rfl, rp, q3, _, r, rfl, IsTm.ex e48 h5, IsW.ex e28 r2, by omega, Nat.le_trans szp.1 (by omega), nb_of szp (Nat.lt_of_lt_of_le hBp (Nat.pow_le_pow_right (by decide) (by decide))), fun H10 e10 => ?_⟩
      refine ⟨_, rfl, _, rfl, rq, q3, _, r, rfl, IsTm.ex (e48.trans e10) h6, IsW.ex (e28.trans e10) r2, by omega, Nat.le_trans szq.1 (by omega), nb_of szq hBq, fun H11 e11 => ⟨by show 2 ≤ sizeLine; decide, fun l3 hl3 => ?_⟩⟩
      rw [pow_lin, cho_lin] at *
      refine ⟨_, rfl, _, rfl, KM.cnt p r, n, rfl, by omega, ?_, _, rfl, by show 2 ≤ sizeLine; decide, fun l4 hl4 => ?_⟩
      · exact Nat.lt_of_le_of_lt (cnt_le hr9 p) (Nat.lt_of_lt_of_le (show 1024 < 2 ^ 11 by decide) (Nat.pow_le_pow_right (by decide) (by decide)))
      have eA : Ex T H2 (upd (upd H11 l3 (.lst [.int (KM.cnt p r ^ n), .int (fall (KM.cnt p r) n)])) l4 (.lst [.int (KM.cnt p r ^ n), .int (fall (KM.cnt p r) n)])) := ((((e28.trans e10).trans e11).new hl3)).new hl4
      refine ⟨_, _, dp_two (by rw [upd_ne (ne_of_none upd_same hl4)]; exact upd_same), dp_two upd_same, sh_two _ _, sh_two _ _, _, rfl, if0 ?_ ?_⟩
      · rw [SeqAt.eqv_refl _ (SeqAt.canLay_of_shaped (sh_two _ _))]; decide
      exact hD _ _ ⟨_, _, _, _, _, _, _, _, _, _, _, _, _, _, _, _, _, _, _, _, _, _, rfl, BagAt.ex eA hB2, eA.tabs T2⟩
end
end KW

set_option Elab.async false
set_option linter.all false
set_option maxRecDepth 100000
namespace KW
open PySem PySem.Spec PyProof.Rows L2 LamX KR
/-! ### words of plain letters -/
def OkW (u : Wd) : Prop := ∀ x ∈ u, PyData.canLay0 (.str x) = true
theorem F_letters (Pr : Str → Prop) : ∀ u v : Wd, (∀ x ∈ u, Pr x) → (∀ x ∈ v, Pr x) → ∀ p ∈ KM.F u v, ∀ x ∈ p.1, Pr x
  | [], v, _, h2 => by
    rw [KM.F_nil]
    intro p hp x hx
    rw [List.mem_singleton.mp hp] at hx
    exact h2 x (List.mem_reverse.mp hx)
  | a :: u, [], h1, _ => by
    rw [KM.F_nil2]
    intro p hp x hx
    rw [List.mem_singleton.mp hp] at hx
    exact h1 x (List.mem_reverse.mp hx)
  | a :: u, b :: v, h1, h2 => by
    have ha := h1 a (List.mem_cons_self ..)
    have hb := h2 b (List.mem_cons_self ..)
    have hu : ∀ x ∈ u, Pr x := fun x hx => h1 x (List.mem_cons_of_mem _ hx)
    have hv : ∀ x ∈ v, Pr x := fun x hx => h2 x (List.mem_cons_of_mem _ hx)
    have sn : ∀ (c : Str) (l : FS), Pr c → (∀ p ∈ l, ∀ x ∈ p.1, Pr x) → ∀ p ∈ KM.snocs c l, ∀ x ∈ p.1, Pr x := fun c l hc h p hp x hx => by
      obtain ⟨q, hq, rfl⟩ := List.mem_map.mp hp
      rcases List.mem_append.mp hx with hx | hx
      · exact h q hq x hx
      · rw [List.mem_singleton.mp hx]; exact hc
    intro p hp
    rw [KM.F_cons] at hp
    rcases List.mem_append.mp hp with hp | hp
    · exact sn a _ ha (F_letters Pr u (b :: v) hu h2) p hp
    rcases List.mem_append.mp hp with hp | hp
    · exact sn b _ hb (F_letters Pr (a :: u) v h1 hv) p hp
    · split at hp
      · exact sn a _ ha (F_letters Pr u v hu hv) p hp
      · cases hp
termination_by u v => u.length + v.length
theorem FF_ok {u v : Wd} (h1 : OkW u) (h2 : OkW v) : ∀ p ∈ KM.terms wle (KM.FF u v), OkW p.1 :=
  KM.terms_word (P := OkW) fun p hp => F_letters _ u.reverse v.reverse (fun x hx => h1 x (List.mem_reverse.mp hx)) (fun x hx => h2 x (List.mem_reverse.mp hx)) p hp
theorem lay_strs : ∀ {u : Wd}, OkW u → PyData.canLayAll0 (u.map PyData.str) = true
  | [], _ => by simp [PyData.canLayAll0]
  | x :: u, h => by
    simp only [List.map_cons, PyData.canLayAll0, Bool.and_eq_true]
    exact ⟨h x (List.mem_cons_self ..), lay_strs fun y hy => h y (List.mem_cons_of_mem _ hy)⟩
theorem lay_w {u : Wd} (h : OkW u) : PyData.canLay0 (wD u) = true := by
  show PyData.canLay0 (.tuple _) = true
  simp only [PyData.canLay0]
  exact lay_strs h
theorem depth_w (u : Wd) : PyData.depth (wD u) ≤ 2 := by
  have := depth_strs u
  show PyData.depth (.tuple _) ≤ 2
  simp only [PyData.depth]
  omega
theorem lay_ws : ∀ {ws : List Wd}, (∀ u ∈ ws, OkW u) → PyData.canLayAll0 (ws.map wD) = true
  | [], _ => by simp [PyData.canLayAll0]
  | u :: ws, h => by
    simp only [List.map_cons, PyData.canLayAll0, Bool.and_eq_true]
    exact ⟨lay_w (h u (List.mem_cons_self ..)), lay_ws fun y hy => h y (List.mem_cons_of_mem _ hy)⟩
theorem depth_ws : ∀ ws : List Wd, PyData.depthAll (ws.map wD) ≤ 2
  | [] => by simp [PyData.depthAll]
  | u :: ws => by
    have h1 := depth_ws ws
    have h2 := depth_w u
    simp only [List.map_cons, PyData.depthAll]
    omega
theorem sh_ws {ws : List Wd} (h : ∀ u ∈ ws, OkW u) : SeqAt.shaped (wsD ws) = true := by
  have := depth_ws ws
  simp only [SeqAt.shaped, wsD, PyData.canLay0, PyData.depth, lay_ws h, Bool.true_and, decide_eq_true_eq]
  omega
theorem lay_prs : ∀ {ts : FS}, (∀ p ∈ ts, OkW p.1) → PyData.canLayAll0 (ts.map fun p => PyData.tuple [wD p.1, .int p.2]) = true
  | [], _ => by simp [PyData.canLayAll0]
  | p :: ts, h => by
    have h1 := lay_w (h p (List.mem_cons_self ..))
    have h2 := lay_prs fun y hy => h y (List.mem_cons_of_mem _ hy)
    simp only [List.map_cons, PyData.canLayAll0, PyData.canLay0, Bool.and_eq_true] at h1 h2 ⊢
    exact ⟨⟨h1, trivial, trivial⟩, h2⟩
theorem depth_prs : ∀ ts : FS, PyData.depthAll (ts.map fun p => PyData.tuple [wD p.1, .int p.2]) ≤ 4
  | [] => by simp [PyData.depthAll]
  | p :: ts => by
    have h1 := depth_prs ts
    have h2 := depth_strs p.1
    simp only [List.map_cons, PyData.depthAll, PyData.depth] at h1 ⊢
    omega
theorem sh_tm {ts : FS} (h : ∀ p ∈ ts, OkW p.1) : SeqAt.shaped (tmD ts) = true := by
  have := depth_prs ts
  simp only [SeqAt.shaped, tmD, PyData.canLay0, PyData.depth, lay_prs h, Bool.true_and, decide_eq_true_eq]
  omega
mutual
theorem dp_rep {K : PySem.W.Frag} {H : Hp} : ∀ (d : PyData) {v : V}, Rep H v d → Dp K H v d
  | .int i, v, h => by simp only [Rep] at h; subst h; exact .int i
  | .str s, v, h => by simp only [Rep] at h; subst h; exact .str s
  | .tuple ds, v, h => by
    simp only [Rep] at h
    obtain ⟨a, xs, rfl, h2, h3⟩ := h
    exact .tup (.inl (.inl h2)) (dp_all ds h3)
  | .list ds, v, h => by
    simp only [Rep] at h
    obtain ⟨a, xs, rfl, h2, h3⟩ := h
    exact .lst (.inl (.inl h2)) (dp_all ds h3)
  | .none, v, h => by simp only [Rep] at h
  | .bool _, v, h => by simp only [Rep] at h
  | .dict _, v, h => by simp only [Rep] at h
theorem dp_all {K : PySem.W.Frag} {H : Hp} : ∀ (ds : List PyData) {xs : List V}, RepAll H xs ds → DpAll K H xs ds
  | [], [], _ => .nil
  | [], _ :: _, h => by simp only [RepAll] at h
  | d :: ds, [], h => by simp only [RepAll] at h
  | d :: ds, x :: xs, h => by
    simp only [RepAll] at h
    exact .cons (dp_rep d h.1) (dp_all ds h.2)
end
theorem one_termN {T : List (Addr × Str)} {tp tn : TE} {σ : L2.St} {H : Hp} {Q : VK} {u : Wd} {n : Int} (htp : ∀ R : VK, (∀ q H1, Ex T H H1 → IsW H1 q u → R (.ref q) H1) → tp σ H R) (htn : ∀ (H1 : Hp) (R : VK), R (.int n) H1 → tn σ H1 R) (hQ : ∀ r H', Ex T H H' → IsTm H' r [(u, n)] → Q (.ref r) H') :
    tTup (tCons (tTup (tCons tp (tCons tn tNil))) tNil) σ H Q := by
  refine htp _ fun q H1 e1 hq => htn H1 _ ⟨by show 2 ≤ sizeLine; decide, fun t ht => ⟨by show 1 ≤ sizeLine; decide, fun r hr => ?_⟩⟩
  have e2 : Ex T H1 (upd H1 t (.tup [.ref q, .int n])) := (Ex.refl H1).new ht
  have e3 : Ex T H1 (upd (upd H1 t (.tup [.ref q, .int n])) r (.tup [.ref t])) := e2.new hr
  refine hQ r _ (e1.trans e3) ⟨[t], upd_same, .cons ⟨q, ?_, IsW.ex e3 hq⟩ .nil⟩
  rw [upd_ne (fun z => by rw [← z, upd_same] at hr; cases hr), upd_same]
/-- the two terms that the law adds -/
def twoT (u v : Wd) : FS := KM.terms wle [(u, 2), (v, -1)]
theorem sz_two {u v : Wd} (hu : u.length ≤ 3) (hv : v.length ≤ 3) : Sz 3 2 4 (twoT u v) := by
  have h : Sz 3 2 2 [(u, (2 : Int)), (v, -1)] := ⟨by simp, fun p hp => by
    simp only [List.mem_cons, List.not_mem_nil, or_false] at hp
    rcases hp with rfl | rfl
    · exact ⟨hu, by show (2 : Int).natAbs ≤ 2; decide⟩
    · exact ⟨hv, by show (-1 : Int).natAbs ≤ 2; decide⟩⟩
  exact h.terms
theorem ok_two {u v : Wd} (hu : OkW u) (hv : OkW v) : ∀ p ∈ twoT u v, OkW p.1 := KM.terms_word (P := OkW) fun p hp => by
  simp only [List.mem_cons, List.not_mem_nil, or_false] at hp
  rcases hp with rfl | rfl
  · exact hu
  · exact hv
theorem sz_three {w : Wd} (hw : w.length ≤ 3) : Sz 3 1 3 [(w, (3 : Int))] := ⟨by simp, fun p hp => by
  rw [List.mem_singleton.mp hp]; exact ⟨hw, by show (3 : Int).natAbs ≤ 3; decide⟩⟩
theorem fit_two {u v w : Wd} (hu : u.length ≤ 3) (hv : v.length ≤ 3) (hw : w.length ≤ 3) : Fit (twoT u v) [(w, 3)] ∧ Sz 6 126 1512 (KM.terms wle (KM.mulF (twoT u v) [(w, 3)])) := by
  refine ⟨⟨3, 2, 4, 3, 1, 3, sz_two hu hv, sz_three hw, by decide, by decide, by rw [d33]; decide, by rw [d33]; decide, lt2000 (by decide), lt2000 (by decide)⟩, ?_⟩
  have := ((sz_two hu hv).mulF (sz_three hw)).terms
  rw [d33] at this
  exact this.mono (by decide) (by decide) (by decide)
end KW

set_option Elab.async false
set_option linter.all false
set_option maxRecDepth 100000
namespace KW
open PySem PySem.Spec PyProof.Rows L2 LamX KR
theorem nodup_enc : ∀ {l : List Wd}, l.Nodup → (l.map encW).Nodup
  | [], _ => List.Pairwise.nil
  | u :: l, h => by
    rw [List.nodup_cons] at h
    rw [List.map_cons, List.nodup_cons]
    refine ⟨fun z => ?_, nodup_enc h.2⟩
    obtain ⟨v, hv, e⟩ := List.mem_map.mp z
    exact h.1 (by rw [← encW_inj e]; exact hv)
theorem valV_all {j : List Key} : ∀ {L : List (List Key × Addr × V)} {acc : List (List Key × V)}, j ∉ L.map (·.1) → valV (KR.putAllT acc L) j = valV acc j
  | [], acc, _ => rfl
  | z :: r, acc, h => by
    simp only [List.map_cons, List.mem_cons, not_or] at h
    show valV (KR.putAllT (putK acc z.1 z.2.2) r) j = _
    rw [valV_all h.2, valV_put, if_neg h.1]
theorem valV_made : ∀ {L : List (List Key × Addr × V)} {acc : List (List Key × V)} {z : List Key × Addr × V}, (L.map (·.1)).Nodup → z ∈ L → valV (KR.putAllT acc L) z.1 = some z.2.2
  | [], acc, z, _, h => by cases h
  | y :: r, acc, z, hn, h => by
    simp only [List.map_cons, List.nodup_cons] at hn
    show valV (KR.putAllT (putK acc y.1 y.2.2) r) z.1 = _
    rcases List.mem_cons.mp h with rfl | h
    · rw [valV_all hn.1, valV_put, if_pos rfl]
    · exact valV_made hn.2 h
theorem lam_ne {G : Hp} {f d cc c' : Addr} {g x qual : Str} {params : Arguments} {body : Expr} {scope : Scope} {pm ctv : Value} {oc : Obj} (L : LamGet G f d g x qual params body scope cc c' pm ctv oc) : f ≠ cc := by
  rintro rfl
  have h1 := L.fn
  rw [L.cell] at h1
  have h3 := L.val
  have h4 := Option.some.inj h1
  injection h4 with h5 h6
  rw [h5] at h3
  cases h3
section
variable {T : List (Addr × Str)} {H2 H4 : Hp} {f cc : Addr} {of oc : Obj}
theorem Ex.del2 (nf : H2 f = none) (nc : H2 cc = none) (hne : f ≠ cc) (e : Ex T (frz2 H2 f cc of oc) H4) : Ex T H2 (del2 H4 f cc) := by
  have hf : H4 f = some (.frz of anyO) := e.at ((upd_ne hne).trans upd_same) loose_frz
  have hc : H4 cc = some (.frz oc anyO) := e.at upd_same loose_frz
  have off : ∀ {x : Addr} {o : HO}, H4 x = some o → (∀ o' u, o ≠ .frz o' u) → KR.del2 H4 f cc x = some o := fun {x o} h n => by
    refine (if_neg ?_).trans h
    rintro (z | z)
    · rw [z, hf] at h; exact n _ _ (Option.some.inj h).symm
    · rw [z, hc] at h; exact n _ _ (Option.some.inj h).symm
  refine ⟨fun b o hb n => ?_, fun t p hp => ?_⟩
  · refine (if_neg ?_).trans (e.1 b o (frz2_old nf nc hb) n)
    rintro (z | z)
    · rw [z, nf] at hb; cases hb
    · rw [z, nc] at hb; cases hb
  · obtain ⟨ps, h1, h2, h3⟩ := e.2 (t.ext fun b o h => frz2_old nf nc h) p hp
    refine ⟨ps, off h1 (fun _ _ z => by cases z), h2, fun pos cv hcv => ?_⟩
    obtain ⟨c', e1, e2⟩ := h3 pos cv hcv
    exact ⟨c', e1, off e2 (fun _ _ z => by cases z)⟩
end
theorem seq_par {ta : TA} {u : TS} {D : Ends} {σ : L2.St} {H : Hp} {i j : Nat} (h : ta σ H fun vs H1 => ∃ v w, vs = [v, w] ∧ u D ((σ.set i (some v)).set j (some w)) H1) : tSeq (tPar i j ta) u D σ H := h
theorem cons_head {ta : TE} {tr : TA} {σ : L2.St} {H : Hp} {Q : List V → Hp → Prop} (h : ta σ H fun x H1 => tr σ H1 fun xs H2 => Q (x :: xs) H2) : tCons ta tr σ H Q := h
theorem call_head {sp : Sp} {E : XK} {t : TA} {σ : L2.St} {H : Hp} {Q : VK} (h : t σ H fun vs H1 => sp (vs ++ []) H1 Q E) : tCall sp [] E t σ H Q := h
theorem if_head {c : TT} {t u v : TS} {D : Ends} {σ : L2.St} {H : Hp} (h : c σ H fun b H1 => if b = true then t { D with nx := v D } σ H1 else u { D with nx := v D } σ H1) : tSeq (tIfS c t u) v D σ H := h
theorem not_head {t : TT} {σ : L2.St} {H : Hp} {Q : Bool → Hp → Prop} (h : t σ H fun c H1 => Q (!c) H1) : tNot t σ H Q := h
theorem test_head {te : TE} {σ : L2.St} {H : Hp} {Q : Bool → Hp → Prop} (h : te σ H fun x H1 => ∃ k, x = .bl k ∧ Q k H1) : tTest te σ H Q := h
section
variable {P : Program} {w : World} {K : PySem.W.Frag} {mg : Str → Option Value} {base : Heap} {T : List (Addr × Str)} {f cL : Addr} {A : Around} {outer : List Env} {s : Shared} {H0 : Hp} {E : XK}
/-- counts = ..; the test of the terms at counts -/
theorem chunkC2 {PL : Addr} (C : Cals P w K mg base T) (TB : TabB base mg cL PL) (hTL : (PL, qG) ∈ T) (hUL : ∀ p ∈ T, p.1 = PL → p.2 = qG) (hr : Room 5 (XL P w K mg base f cL A outer s H0 E).A) : ∃ uT : TS, PSs (XL P w K mg base f cL A outer s H0 E) (bodyL.drop 10) uT ∧
    ∀ (D : Ends) (a b c : Addr) (cs : List Int) (q1 q3 rb : Addr) (u r : Wd) (ts : FS) y2 y3 y4 y7 y8 y10 y11 y12 y13 y14 y15 y16 y17 y18 y19 y20 y21 y22 y23 H, BagAt H b c cs → Tabs T H → IsW H q1 u → IsW H q3 r → r.length ≤ 9 → IsTm H rb ts → Sz 6 63 63 ts → (ts.map (·.1)).Nodup →
      (∀ σ' H', GoodL T a b c cs σ' H' → D.nx σ' H') → uT D [some (.ref a), some (.ref b), y2, y3, y4, some (.ref q3), some (.ref q1), y7, y8, some (.ref rb), y10, y11, y12, y13, y14, y15, y16, y17, y18, y19, y20, y21, y22, y23] H := by
  obtain ⟨uD, hUD, hRD⟩ := chunkD C hr
  obtain ⟨fC, fdC, FC, mC, kC, bC⟩ := C.count
  obtain ⟨fW, fdW, FW, mW, kW, bW⟩ := C.worth
  obtain ⟨fY, fdY, FY, mY, kY, bY⟩ := C.termsAt
  have nd := scLaw.nd
  have hu3 : (XL P w K mg base f cL A outer s H0 E).A.units + 3 < cLine := by have := hr.un; omega
  refine ⟨_, pss_cons (ps_set (i := 19) nd rfl (.inr rfl) (pe_callTy (call_dictT rfl hu3) (by rfl) C.md (by decide +kernel) (pa_cons
            (pe_lc (own := [("word", 22), ("often", 23)]) (g := gTup K 2 (gCons (gName 22) (gCons (gName 23) gNil))) (tt := tYes) (by rfl) nd (pi_tup (pv 9)) (blkOk_by (N := NL) (sc := defScope sLaw) (by decide +kernel))
            (fun _ _ _ _ _ => pg_tup rfl (pgs_cons (pg_name (i := 22) nd rfl (.inl rfl)) (pgs_cons (pg_name (i := 23) nd rfl (.inl rfl)) pgs_nil))) (fun _ _ _ _ _ => pts_nil)
            (fun _ _ _ _ _ => pe_tup (pa_cons (pv 22) (pa_cons (pe_call FC (hr.mono (by decide)) (by rfl) mC kC bC .nil pass0 (pa_cons (pv 22) (pa_cons (pv 5) pa_nil))) pa_nil)))) pa_nil)))
    (pss_cons (ps_if (pt_cmpR op_ne (pe_callFz (T := T) (c := cL) (P := PL) (g := "counts") (x := "word") (i := 19) FY (hr.mono (by decide)) (by rfl) mY kY bY rfl (pv 9) TB rfl hTL hUL rfl
          (fun cc hcc => by
            show cloFrom (XL P w K mg base f cL A outer s H0 E).env.cells [(("word" : Str), .local), ("counts", .free)] [] = _
            simp only [cloFrom, hcc]
            rfl)
          (fun y hy e => by
            rcases List.mem_cons.mp hy with rfl | hy
            · cases e
            · obtain rfl := List.mem_singleton.mp hy
              rfl) rfl rfl rfl)
        (pe_call FW (hr.mono (by decide)) (by rfl) mW kW bW .nil pass0 (pa_cons (pv 9) (pa_cons (pv 5) pa_nil))) (nomark _))
      (pss_one (ps_ret pe_bl)) pss_nil) hUD), ?_⟩
  intro D a b c cs q1 q3 rb u r ts y2 y3 y4 y7 y8 y10 y11 y12 y13 y14 y15 y16 y17 y18 y19 y20 y21 y22 y23 H hB hT h1 h3 hr9 hb sb ndk hD
  have l63 := sb.1
  have r13 := h3
  obtain ⟨as2, hc1, hc2⟩ := id hb
  have la2 := IsTm.len hc2
  refine ⟨_, rfl, rb, rfl, ⟨_, .inl (.inl hc1)⟩, fun D2 hD2 => ?_⟩
  refine lc_tup (xs := as2.map V.ref) (fun i H14 => SomeAt T H D2 ((ts.take i).map fun x => (x.1, KM.cnt x.1 r)) H14) (SomeAt.nil hD2) (fun i H14 _ p => .inl (.inl (p.1.at hc1 loose_tup))) (fun i x H14 hx p => ?_) (fun H14 p => ?_)
  · obtain ⟨t1, pr, rfl, hp', _, qq, hq1, hq2⟩ := IsTm.nth hc2 hx
    refine ⟨t1, _, rfl, .inl (.inl (p.1.at hq1 loose_tup)), rfl, _, _, rfl, _, _, rfl, rfl, rfl, ?_⟩
    unfold tYes
    refine iteT ⟨_, rfl, _, rfl, _, rfl, qq, q3, pr.1, r, rfl, IsW.ex p.1 hq2, IsW.ex p.1 r13, by omega, fun H15 e15 => ⟨by show 2 ≤ sizeLine; decide, fun t2 ht2 => ?_⟩⟩
    obtain ⟨acc, a1, a2, a3⟩ := p.add (n := KM.cnt pr.1 r) hD2 e15 (IsW.ex e15 (IsW.ex p.1 hq2)) ht2
    refine ⟨acc, a1, ?_, ?_⟩
    · rw [a2, List.length_map, List.length_take, sizeLine_eq]; omega
    · rw [map_take_snoc (f := fun x => (x.1, KM.cnt x.1 r)) hp']; exact a3
  · rw [List.length_map, la2, List.take_length] at p
    obtain ⟨p1, bs, p2, p3, p4⟩ := p
    refine ⟨D2, bs.map fun z => (z.1, encW z.2.1, z.2.2.1, V.int z.2.2.2), rfl, .inl (.inl (by rw [List.map_map]; exact p2)), fun z hz => ?_, fun pd hpd => ?_⟩
    · obtain ⟨y, hy, rfl⟩ := List.mem_map.mp hz
      obtain ⟨k1, k2⟩ := p3 y hy
      exact ⟨k1, IsW.key k2⟩
    -- the test of the terms at counts
    have f5 : ∀ o, Ex T H14 (upd H14 pd o) := fun o => (Ex.refl H14).new hpd
    generalize hkv : KR.putAllT [] ((bs.map fun z : SI => (z.1, encW z.2.1, z.2.2.1, V.int z.2.2.2)).map fun x : Addr × List Key × Addr × V => x.2) = kvs
    have g5 : upd H14 pd (.dT kvs) pd = some (.dT kvs) := upd_same
    have f5' := f5 (.dT kvs)
    generalize upd H14 pd (.dT kvs) = H16 at g5 f5'
    have e416 : Ex T H H16 := p1.trans f5'
    have hval : ∀ q ∈ ts, valV kvs (encW q.1) = some (.int (KM.cnt q.1 r)) := fun q hq => by
      rw [← hkv, List.map_map]
      have hmem : (q.1, KM.cnt q.1 r) ∈ ts.map (fun x => (x.1, KM.cnt x.1 r)) := List.mem_map.mpr ⟨q, hq, rfl⟩
      rw [← p4] at hmem
      obtain ⟨y, hy, ey⟩ := List.mem_map.mp hmem
      have e1 : y.2.1 = q.1 := congrArg Prod.fst ey
      have e2 : y.2.2.2 = KM.cnt q.1 r := congrArg Prod.snd ey
      have hin : (encW q.1, y.2.2.1, V.int (KM.cnt q.1 r)) ∈ bs.map ((fun x : Addr × List Key × Addr × V => x.2) ∘ fun z : SI => (z.1, encW z.2.1, z.2.2.1, V.int z.2.2.2)) := List.mem_map.mpr ⟨y, hy, by show (encW y.2.1, y.2.2.1, V.int y.2.2.2) = _; rw [e1, e2]⟩
      refine valV_made (z := (encW q.1, y.2.2.1, V.int (KM.cnt q.1 r))) ?_ hin
      have hk : (bs.map ((fun x : Addr × List Key × Addr × V => x.2) ∘ fun z : SI => (z.1, encW z.2.1, z.2.2.1, V.int z.2.2.2))).map (·.1) = ((bs.map fun b => (b.2.1, b.2.2.2)).map (·.1)).map encW := by
        rw [List.map_map, List.map_map, List.map_map]; rfl
      rw [hk, p4, List.map_map]
      have hk2 := nodup_enc ndk
      rw [List.map_map] at hk2 ⊢
      exact hk2
    have b16 := IsTm.ex e416 hb
    have r16 := IsW.ex e416 h3
    refine ⟨_, rfl, e416.tabs hT, pd, rfl, fun H17 e17 T17 fl cc c' pm ctv oc nf nc L => ?_⟩
    have e17' : Ex T H16 H17 := ⟨e17, fun _ => T17⟩
    refine ⟨rb, fl, pd, cc, c', pm, ctv, oc, ts, kvs, fun w => KM.cnt w r, rfl, IsTm.tp (fun x xs hx => frz2_old nf nc hx) (IsTm.ex e17' b16), L, frz2_old nf nc (e17'.at g5 loose_dT), hval, by omega, nb_of sb (by decide), fun q _ => ?_, fun H18 e18 => ?_⟩
    · exact Nat.lt_of_le_of_lt (cnt_le hr9 q.1) (Nat.lt_of_lt_of_le (show 1024 < 2 ^ 11 by decide) (Nat.pow_le_pow_right (by decide) (by decide)))
    have hne : fl ≠ cc := lam_ne L
    have e418 : Ex T H (KR.del2 H18 fl cc) := (e416.trans e17').trans (Ex.del2 nf nc hne e18)
    refine ⟨_, rfl, _, rfl, rb, q3, ts, r, rfl, IsTm.ex e418 hb, IsW.ex e418 h3, by omega, by omega, nb_of sb (by decide), fun H20 e20 => ⟨rfl, _, rfl, if0 ne_int ?_⟩⟩
    have e420 := e418.trans e20
    exact hRD D a b c cs q1 q3 u r _ _ _ _ _ _ _ _ _ _ _ _ _ _ _ _ _ _ _ _ H20 (BagAt.ex e420 hB) (e420.tabs hT) (IsW.ex e420 h3) hr9 (IsW.ex e420 h1) hD
/-- terms, others = ..; the tests of sums, products, of the terms at counts -/
theorem chunkC {PL : Addr} (C : Cals P w K mg base T) (TB : TabB base mg cL PL) (hTL : (PL, qG) ∈ T) (hUL : ∀ p ∈ T, p.1 = PL → p.2 = qG) (hr : Room 5 (XL P w K mg base f cL A outer s H0 E).A) : ∃ uT : TS, PSs (XL P w K mg base f cL A outer s H0 E) (bodyL.drop 7) uT ∧
    ∀ (D : Ends) (a b c : Addr) (cs : List Int) (q1 q2 q3 q4 rb : Addr) (u v x r : Wd) (ts : FS) y2 y3 y4 y10 y11 y12 y13 y14 y15 y16 y17 y18 y19 y20 y21 y22 y23 H, BagAt H b c cs → Tabs T H → IsW H q1 u → IsW H q2 v → IsW H q4 x → IsW H q3 r → u.length ≤ 3 → v.length ≤ 3 → x.length ≤ 3 → r.length ≤ 9 → OkW u → OkW v →
      IsTm H rb ts → Sz 6 63 63 ts → (ts.map (·.1)).Nodup →
      (∀ σ' H', GoodL T a b c cs σ' H' → D.nx σ' H') → uT D [some (.ref a), some (.ref b), y2, y3, y4, some (.ref q3), some (.ref q1), some (.ref q2), some (.ref q4), some (.ref rb), y10, y11, y12, y13, y14, y15, y16, y17, y18, y19, y20, y21, y22, y23] H := by
  obtain ⟨u2, hU2, hR2⟩ := chunkC2 C TB hTL hUL hr
  obtain ⟨fT, fdT, FT, mT, kT, bT⟩ := C.terms
  obtain ⟨fA, fdA, FA, mA, kA, bA⟩ := C.alike
  obtain ⟨fS, fdS, FS', mS, kS, bS⟩ := C.termsSum
  obtain ⟨fD, fdD, FD, mD, kD, bD⟩ := C.added
  obtain ⟨fP, fdP, FP, mP, kP, bP⟩ := C.termsProduct
  obtain ⟨fX, fdX, FX, mX, kX, bX⟩ := C.times
  obtain ⟨fC, fdC, FC, mC, kC, bC⟩ := C.count
  obtain ⟨fW, fdW, FW, mW, kW, bW⟩ := C.worth
  obtain ⟨fY, fdY, FY, mY, kY, bY⟩ := C.termsAt
  have nd := scLaw.nd
  have hu3 : (XL P w K mg base f cL A outer s H0 E).A.units + 3 < cLine := by have := hr.un; omega
  refine ⟨_, pss_cons (ps_par (i := 10) (j := 11) (by rfl) nd rfl rfl (by decide) rfl rfl (pa_cons
        (pe_call FT (hr.mono (by decide)) (by rfl) mT kT bT .nil pass0 (pa_cons (pe_call FD (hr.mono (by decide)) (by rfl) mD kD bD .nil pass0 (pa_cons (pe_tup (pa_cons (pe_tup (pa_cons (pv 6) (pa_cons pe_int pa_nil))) pa_nil)) (pa_cons (pe_tup (pa_cons (pe_tup (pa_cons (pv 7) (pa_cons (pe_un un_neg pe_int) pa_nil))) pa_nil)) pa_nil))) pa_nil))
        (pa_cons (pe_tup (pa_cons (pe_tup (pa_cons (pv 8) (pa_cons pe_int pa_nil))) pa_nil)) pa_nil)) (by rfl))
    (pss_cons (ps_if (pt_not (pt_val (pe_call FA (hr.mono (by decide)) (by rfl) mA kA bA .nil pass0 (pa_cons
        (pe_call FS' (hr.mono (by decide)) (by rfl) mS kS bS .nil pass0 (pa_cons (pe_tup (pa_cons (pe_tup (pa_cons (pv 6) (pa_cons pe_int pa_nil))) pa_nil)) (pa_cons (pe_tup (pa_cons (pe_tup (pa_cons (pv 7) (pa_cons (pe_un un_neg pe_int) pa_nil))) pa_nil)) pa_nil)))
        (pa_cons (pv 10) pa_nil)))))
      (pss_one (ps_ret pe_bl)) pss_nil)
    (pss_cons (ps_if (PW.pt (pw_and (pt_cmpR (op_neD hr.units) (pv 10) (pe_tup pa_nil) (nomark _)) (pw_and1 (pt_not (pt_val (pe_call FA (hr.mono (by decide)) (by rfl) mA kA bA .nil pass0 (pa_cons
        (pe_call FP (hr.mono (by decide)) (by rfl) mP kP bP .nil pass0 (pa_cons (pv 10) (pa_cons (pv 11) pa_nil))) (pa_cons (pe_call FX (hr.mono (by decide)) (by rfl) mX kX bX .nil pass0 (pa_cons (pv 10) (pa_cons (pv 11) pa_nil))) pa_nil))))))))
      (pss_one (ps_ret pe_bl)) pss_nil) hU2)), ?_⟩
  intro D a b c cs q1 q2 q3 q4 rb u v x r ts y2 y3 y4 y10 y11 y12 y13 y14 y15 y16 y17 y18 y19 y20 y21 y22 y23 H hB hT h1 h2 h4 h3 hu hv hx hr9 ou ov hb sb ndk hD
  have l63 := sb.1
  -- terms, others = ..
  refine seq_par (cons_head (call_head (cons_head (call_head (cons_head (one_termN (T := T) (u := u) (n := 2) (fun R h => ⟨_, rfl, h q1 _ (Ex.refl _) h1⟩) (fun H1 R h => h) fun r1 G1 e1 k1 => ?_))))))
  refine cons_head (one_termN (T := T) (u := v) (n := -1) (fun R h => ⟨_, rfl, h q2 _ (Ex.refl _) (IsW.ex e1 h2)⟩) (fun H1 R h => ⟨1, rfl, h⟩) fun r2 G2 e2 k2 => ?_)
  have e12 := e1.trans e2
  refine ⟨r1, r2, [(u, 2)], [(v, -1)], rfl, IsTm.ex e2 k1, k2, by show 1 + 1 ≤ 1000000; decide, fun G3 d3 m3 e3 g3 a3 => ?_⟩
  have e13 := e12.trans e3
  refine ⟨d3, m3, rfl, g3, a3.nd, Nat.le_trans a3.le (by show 2 ≤ 1000000; decide), e13.tabs hT, fun G4 rt e4 hrt => ?_⟩
  have e14 := e13.trans e4
  have hrt : IsTm G4 rt (twoT u v) := by
    have := a3.terms
    rw [this] at hrt
    exact hrt
  refine cons_head (one_termN (T := T) (u := x) (n := 3) (fun R h => ⟨_, rfl, h q4 _ (Ex.refl _) (IsW.ex e14 h4)⟩) (fun H1 R h => h) fun ro G5 e5 hro => ⟨_, _, rfl, ?_⟩)
  have e15 := e14.trans e5
  have rt5 := IsTm.ex e5 hrt
  have szt := sz_two hu hv
  obtain ⟨fit, szp⟩ := fit_two hu hv hx
  -- the test of sums
  refine if_head (not_head (test_head (call_head (cons_head (call_head (cons_head (one_termN (T := T) (u := u) (n := 2) (fun R h => ⟨_, rfl, h q1 _ (Ex.refl _) (IsW.ex e15 h1)⟩) (fun H1 R h => h) fun r6 G6 e6 k6 => ?_)))))))
  have e16 := e15.trans e6
  refine cons_head (one_termN (T := T) (u := v) (n := -1) (fun R h => ⟨_, rfl, h q2 _ (Ex.refl _) (IsW.ex e16 h2)⟩) (fun H1 R h => ⟨1, rfl, h⟩) fun r7 G7 e7 k7 => ?_)
  have e17 := e16.trans e7
  refine ⟨r6, r7, [(u, 2)], [(v, -1)], rfl, IsTm.ex e7 k6, k7, by show 1 + 1 ≤ 1000000; decide, e17.tabs hT, fun G8 r8 e8 k8 => ?_⟩
  have e58 := (e6.trans e7).trans e8
  have e18 := e15.trans e58
  have nt := nodes_tm szt
  refine ⟨_, rfl, .ref r8, .ref rt, tmD (twoT u v), rfl, rep_tm k8, rep_tm (IsTm.ex e58 rt5), by omega, fun G9 e9 => ⟨_, rfl, if0 (by simp) ?_⟩⟩
  have e59 := e58.trans e9
  have e19 := e15.trans e59
  -- the test of products
  have rt9 := IsTm.ex e59 rt5
  have ro9 := IsTm.ex e59 hro
  refine ⟨_, rfl, Nat.zero_le _, fun em hem => ?_⟩
  have fm : Ex T G9 (upd G9 em (.tup [])) := (Ex.refl G9).new hem
  refine ⟨tmD (twoT u v), wD [], dp_rep _ (rep_tm (IsTm.ex fm rt9)), dp_rep _ (rep_w (u := []) upd_same), sh_tm (ok_two ou ov), by simp [SeqAt.shaped, PyData.canLay0, PyData.canLayAll0, PyData.depth, PyData.depthAll], _, rfl, ite2 (fun e => ?_) (fun e => if0 Bool.false_ne_true ?_)⟩
  · have e1m := e19.trans fm
    refine ⟨_, rfl, _, rfl, rt, ro, twoT u v, [(x, 3)], rfl, IsTm.ex fm rt9, IsTm.ex fm ro9, fit, e1m.tabs hT, fun G10 r10 e10 k10 => ?_⟩
    have e110 := e1m.trans e10
    refine ⟨_, rfl, _, rfl, rt, ro, twoT u v, [(x, 3)], rfl, IsTm.ex (fm.trans e10) rt9, IsTm.ex (fm.trans e10) ro9, fit, e110.tabs hT, fun G11 r11 e11 k11 => ?_⟩
    have e111 := e110.trans e11
    have np := nodes_tm szp
    refine ⟨.ref r10, .ref r11, tmD (KM.terms wle (KM.mulF (twoT u v) [(x, 3)])), rfl, rep_tm (IsTm.ex e11 k10), rep_tm k11, by omega, fun G12 e12' => ⟨_, rfl, if0 (by simp) ?_⟩⟩
    have eF := e111.trans e12'
    exact hR2 D a b c cs q1 q3 rb u r ts _ _ _ _ _ _ _ _ _ _ _ _ _ _ _ _ _ _ _ G12 (BagAt.ex eF hB) (eF.tabs hT) (IsW.ex eF h1) (IsW.ex eF h3) hr9 (IsTm.ex eF hb) sb ndk hD
  · have eF := e19.trans fm
    exact hR2 D a b c cs q1 q3 rb u r ts _ _ _ _ _ _ _ _ _ _ _ _ _ _ _ _ _ _ _ _ (BagAt.ex eF hB) (eF.tabs hT) (IsW.ex eF h1) (IsW.ex eF h3) hr9 (IsTm.ex eF hb) sb ndk hD
end
end KW

set_option Elab.async false
set_option linter.all false
set_option maxRecDepth 100000
namespace KW
open PySem PySem.Spec PyProof.Rows L2 LamX KR
section
variable {P : Program} {w : World} {K : PySem.W.Frag} {mg : Str → Option Value} {base : Heap} {T : List (Addr × Str)} {f cL : Addr} {A : Around} {outer : List Env} {s : Shared} {H0 : Hp} {E : XK}
/-- one, other, third = words; made = ..; the tests of products and counts -/
theorem chunkB {PL : Addr} (C : Cals P w K mg base T) (TB : TabB base mg cL PL) (hTL : (PL, qG) ∈ T) (hUL : ∀ p ∈ T, p.1 = PL → p.2 = qG) (hr : Room 5 (XL P w K mg base f cL A outer s H0 E).A) : ∃ uB : TS, PSs (XL P w K mg base f cL A outer s H0 E) (bodyL.drop 3) uB ∧
    ∀ (D : Ends) (a b c : Addr) (cs : List Int) (wl q1 q2 q4 q3 : Addr) (u v x r : Wd) y2 y3 y6 y7 y8 y9 y10 y11 y12 y13 y14 y15 y16 y17 y18 y19 y20 y21 y22 y23 H, BagAt H b c cs → Tabs T H → H wl = some (.lst [.ref q1, .ref q2, .ref q4]) → IsW H q1 u → IsW H q2 v → IsW H q4 x → IsW H q3 r → u.length ≤ 3 → v.length ≤ 3 → x.length ≤ 3 → r.length ≤ 9 → OkW u → OkW v →
      (∀ σ' H', GoodL T a b c cs σ' H' → D.nx σ' H') → uB D [some (.ref a), some (.ref b), y2, y3, some (.ref wl), some (.ref q3), y6, y7, y8, y9, y10, y11, y12, y13, y14, y15, y16, y17, y18, y19, y20, y21, y22, y23] H := by
  obtain ⟨uC, hUC, hRC⟩ := chunkC C TB hTL hUL hr
  obtain ⟨fT, fdT, FT, mT, kT, bT⟩ := C.terms
  obtain ⟨fS, fdS, FS', mS, kS, bS⟩ := C.shuffled
  obtain ⟨fA, fdA, FA, mA, kA, bA⟩ := C.alike
  obtain ⟨fP, fdP, FP, mP, kP, bP⟩ := C.product
  obtain ⟨fI, fdI, FI, mI, kI, bI⟩ := C.wordsIn
  obtain ⟨fC, fdC, FC, mC, kC, bC⟩ := C.count
  obtain ⟨fW, fdW, FW, mW, kW, bW⟩ := C.worth
  have nd := scLaw.nd
  refine ⟨_, pss_cons (ps_asg (pv 4) (pg_lst rfl (pgs_cons (pg_name (i := 6) nd rfl (.inl rfl)) (pgs_cons (pg_name (i := 7) nd rfl (.inl rfl)) (pgs_cons (pg_name (i := 8) nd rfl (.inl rfl)) pgs_nil)))))
    (pss_cons (ps_set (i := 9) nd rfl (.inl rfl) (pe_call FT (hr.mono (by decide)) (by rfl) mT kT bT .nil pass0 (pa_cons (pe_call FS' (hr.mono (by decide)) (by rfl) mS kS bS .nil pass0 (pa_cons (pv 6) (pa_cons (pv 7) pa_nil))) pa_nil)))
    (pss_cons (ps_if (PW.pt (pw_or (pt_not (pt_val (pe_call FA (hr.mono (by decide)) (by rfl) mA kA bA .nil pass0 (pa_cons (pe_call FP (hr.mono (by decide)) (by rfl) mP kP bP .nil pass0 (pa_cons (pv 6) (pa_cons (pv 7) pa_nil))) (pa_cons (pv 9) pa_nil)))))
        (pw_or1 (pt_cmpR (op_neD hr.units) (pe_call FI (hr.mono (by decide)) (by rfl) mI kI bI .nil pass0 (pa_cons (pv 9) pa_nil)) (pe_callTy call_tuple_of (by rfl) C.mt (by decide +kernel) (pa_cons
            (pe_lc (own := [("word", 22), ("often", 23)]) (g := gTup K 2 (gCons (gName 22) (gCons (gName 23) gNil))) (tt := tYes) (by rfl) nd (pi_tup (pv 9)) (blkOk_by (N := NL) (sc := defScope sLaw) (by decide +kernel))
            (fun _ _ _ _ _ => pg_tup rfl (pgs_cons (pg_name (i := 22) nd rfl (.inl rfl)) (pgs_cons (pg_name (i := 23) nd rfl (.inl rfl)) pgs_nil))) (fun _ _ _ _ _ => pts_nil)
            (fun _ _ _ _ _ => pv 22)) pa_nil)) (nomark _)))))
      (pss_one (ps_ret pe_bl)) pss_nil)
    (pss_cons (ps_if (pt_cmpR op_ne (pe_call FW (hr.mono (by decide)) (by rfl) mW kW bW .nil pass0 (pa_cons (pv 9) (pa_cons (pv 5) pa_nil)))
        (pe_op op_mulW (pe_call FC (hr.mono (by decide)) (by rfl) mC kC bC .nil pass0 (pa_cons (pv 6) (pa_cons (pv 5) pa_nil))) (pe_call FC (hr.mono (by decide)) (by rfl) mC kC bC .nil pass0 (pa_cons (pv 7) (pa_cons (pv 5) pa_nil)))) (nomark _))
      (pss_one (ps_ret pe_bl)) pss_nil) hUC))), ?_⟩
  intro D a b c cs wl q1 q2 q4 q3 u v x r y2 y3 y6 y7 y8 y9 y10 y11 y12 y13 y14 y15 y16 y17 y18 y19 y20 y21 y22 y23 H hB hT hwl h1 h2 h4 h3 hu hv hx hr9 ou ov hD
  refine ⟨_, rfl, wl, _, rfl, .inl (.inl hwl), rfl, _, _, rfl, _, _, rfl, _, _, rfl, rfl, ?_⟩
  have hdl := dl_mono hu hv
  rw [d33] at hdl
  have sb : Sz 6 63 63 (KM.terms wle (KM.FF u v)) := (Sz.FF u v).terms.mono (by omega) hdl (by omega)
  have okb := FF_ok ou ov
  have ndk : ((KM.terms wle (KM.FF u v)).map (·.1)).Nodup := KM.terms_nodup _
  have blin := both_lin u v r
  have l63 := sb.1
  -- made
  refine ⟨_, rfl, _, rfl, q1, q2, u, v, rfl, h1, h2, by omega, by omega, by omega, fun H5 d m e5 _ g5 a5 => ?_⟩
  refine ⟨d, m, rfl, g5, a5.nd, ?_, e5.tabs hT, fun H6 rb e6 hrb => ?_⟩
  · have h1 := a5.le
    have h2 := FF_len u v
    omega
  rw [a5.terms] at hrb
  have e06 := e5.trans e6
  -- the test of products
  refine ⟨_, rfl, _, rfl, q1, q2, u, v, rfl, IsW.ex e06 h1, IsW.ex e06 h2, by omega, by omega, by omega, e06.tabs hT, fun H9 r9 e9 hr9' => ?_⟩
  have e09 := e06.trans e9
  have nt := nodes_tm sb
  refine ⟨_, rfl, .ref r9, .ref rb, tmD (KM.terms wle (KM.FF u v)), rfl, rep_tm hr9', rep_tm (IsTm.ex e9 hrb), by omega, fun H10 e10 => ⟨_, rfl, if0 (by simp) ?_⟩⟩
  have e010 := e09.trans e10
  have e610 := e9.trans e10
  generalize KM.terms wle (KM.FF u v) = ts at hrb sb okb ndk blin l63 nt hr9'
  refine ⟨_, rfl, rb, ts, rfl, IsTm.ex e610 hrb, by omega, fun H11 r11 e11 hr11 => ?_⟩
  have e611 := e610.trans e11
  have b11 := IsTm.ex e611 hrb
  obtain ⟨as, ha1, ha2⟩ := id b11
  have la := IsTm.len ha2
  refine ⟨_, rfl, rb, rfl, ⟨_, .inl (.inl ha1)⟩, fun Dl hDl => ?_⟩
  refine lc_tup (xs := as.map V.ref) (fun i H12 => WsAt T H11 Dl ((ts.take i).map (·.1)) H12) (WsAt.nil hDl) (fun i H12 _ p => .inl (.inl (p.1.at ha1 loose_tup))) (fun i z H12 hz p => ?_) (fun H12 p => ?_)
  · obtain ⟨t1, pr, rfl, hp', _, qq, hq1, hq2⟩ := IsTm.nth ha2 hz
    refine ⟨t1, _, rfl, .inl (.inl (p.1.at hq1 loose_tup)), rfl, _, _, rfl, _, _, rfl, rfl, rfl, ?_⟩
    unfold tYes
    refine iteT ⟨_, rfl, ?_⟩
    obtain ⟨acc, a1, a2, a3⟩ := p.add hDl (Ex.refl H12) (IsW.ex p.1 hq2)
    refine ⟨acc, a1, ?_, ?_⟩
    · rw [a2, List.length_map, List.length_take, sizeLine_eq]; omega
    · rw [take_snoc hp', List.map_append]; exact a3
  · rw [List.length_map, la, List.take_length] at p
    obtain ⟨p1, qs, p2, p3⟩ := p
    refine ⟨Dl, _, rfl, .inl ⟨.inl (.inl p2), fun rw' hrw => ?_⟩⟩
    have f2 : Ex T H12 (upd H12 rw' (.tup (qs.map V.ref))) := (Ex.refl H12).new hrw
    have hws : IsWs (upd H12 rw' (.tup (qs.map V.ref))) rw' (ts.map (·.1)) := ⟨qs, upd_same, paired_mono (fun _ _ => IsW.ex f2) p3⟩
    have eE := (e611.trans p1).trans f2
    have okl : ∀ w ∈ ts.map (·.1), OkW w := fun w hw => by
      obtain ⟨z, hz, rfl⟩ := List.mem_map.mp hw
      exact okb z hz
    refine ⟨wsD (ts.map (·.1)), wsD (ts.map (·.1)), dp_rep _ (rep_ws (IsWs.ex (p1.trans f2) hr11)), dp_rep _ (rep_ws hws), sh_ws okl, sh_ws okl, _, rfl, if0 ?_ ?_⟩
    · rw [SeqAt.eqv_refl _ (SeqAt.canLay_of_shaped (sh_ws okl))]; decide
    have e0E := e06.trans eE
    generalize upd H12 rw' (.tup (qs.map V.ref)) = H13 at eE e0E
    -- the test of counts
    refine ⟨_, rfl, _, rfl, rb, q3, _, r, rfl, IsTm.ex eE hrb, IsW.ex e0E h3, by omega, by omega, nb_of sb (by decide), fun H14 e14 => ?_⟩
    have e014 := e0E.trans e14
    refine ⟨_, rfl, _, rfl, q1, q3, u, r, rfl, IsW.ex e014 h1, IsW.ex e014 h3, by omega, fun H15 e15 => ?_⟩
    have e015 := e014.trans e15
    refine ⟨_, rfl, _, rfl, q2, q3, v, r, rfl, IsW.ex e015 h2, IsW.ex e015 h3, by omega, fun H16 e16 => ?_⟩
    have e016 := e015.trans e16
    refine ⟨_, _, rfl, rfl, wide_mul (cnt_nat u r) (cnt_nat v r) (by omega) (by omega) (by omega), rfl, _, rfl, if0 ?_ ?_⟩
    · rw [blin]; exact ne_int
    have e616 := ((eE.trans e14).trans e15).trans e16
    exact hRC D a b c cs q1 q2 q3 q4 rb u v x r ts _ _ _ _ _ _ _ _ _ _ _ _ _ _ _ _ _ H16 (BagAt.ex e016 hB) (e016.tabs hT) (IsW.ex e016 h1) (IsW.ex e016 h2) (IsW.ex e016 h4) (IsW.ex e016 h3) hu hv hx hr9 ou ov (IsTm.ex e616 hrb) sb ndk hD
end
end KW

set_option Elab.async false
set_option linter.all false
set_option maxRecDepth 100000
namespace KW
open PySem PySem.Spec PyProof.Rows L2 LamX KR
/-- the scope of the comprehension of words, as it stands within it -/
def scO : Scope := match bodyL[1]? with
  | some (Stmt.Assign _ (.ListComp _ _ sc _) _) => sc
  | _ => defScope sLaw
/-- tuple([_law_some(bag, letters) for place in range(_law_take(bag, n))]) -/
def tDraw (K : PySem.W.Frag) (T : List (Addr × Str)) (n : Int) : TE := tCB (fun xs H Q => ∃ p ys, xs = [.ref p] ∧ ((SqL K H p ys ∧ ∀ l, H l = none → Q (.ref l) (upd H l (.tup ys))) ∨ (SqT K H p ys ∧ Q (.ref p) H)))
  (tCons (tLc (iRng1 (tCons (tCall (spTake T) [] E0 (tCons (tVar 1) (tCons (tC (.int n)) tNil))) tNil)) (gName 20) tYes (tCall (spSome T) [] E0 (tCons (tVar 1) (tCons (tVar 3) tNil))) [20]) tNil)
theorem lay_a : PyData.canLay0 (.str "a") = true := by simp only [PyData.canLay0]; decide +kernel
theorem lay_b : PyData.canLay0 (.str "b") = true := by simp only [PyData.canLay0]; decide +kernel
theorem lay_c : PyData.canLay0 (.str "c") = true := by simp only [PyData.canLay0]; decide +kernel
theorem ok_letters : OkW ["a", "b", "c"] := fun x hx => by
  simp only [List.mem_cons, List.not_mem_nil, or_false] at hx
  rcases hx with rfl | rfl | rfl
  · exact lay_a
  · exact lay_b
  · exact lay_c
theorem draw {K : PySem.W.Frag} {T : List (Addr × Str)} {σ : L2.St} {H : Hp} {Q : VK} {b c l : Addr} {cs : List Int} {ws : List Str} {n : Nat} (h1 : σ[1]? = some (some (.ref b))) (g1 : ∀ v, ((wipe σ [20]).set 20 v)[1]? = some (some (.ref b))) (g3 : ∀ v, ((wipe σ [20]).set 20 v)[3]? = some (some (.ref l)))
    (gw : ∀ v, wipe ((wipe σ [20]).set 20 v) [20] = wipe σ [20]) (hB : BagAt H b c cs) (hl : H l = some (.lst (ws.map V.str))) (hlb : l ≠ b) (w1 : 1 ≤ ws.length) (w2 : ws.length ≤ 100) (n1 : 1 ≤ n) (n2 : n ≤ 50)
    (q : ∀ H' r u, ExB T b H H' → BagAt H' b c cs → IsW H' r u → u.length < n → (∀ x ∈ u, x ∈ ws) → Q (.ref r) H') : tDraw K T (n : Int) σ H Q := by
  refine ⟨_, h1, b, c, cs, n, rfl, hB, n1, by omega, fun H1 v e1 hB1 hv => ?_⟩
  refine ⟨(v : Int), rfl, by omega, by omega, fun D hD => ?_⟩
  obtain ⟨bl, hbl⟩ := hB1.isl
  have nDb : D ≠ b := fun z => by rw [z, hbl] at hD; cases hD
  have nDc : D ≠ c := fun z => by rw [z, hB1.cells] at hD; cases hD
  have hl1 : H1 l = some (.lst (ws.map V.str)) := e1.at hl loose_lst hlb
  refine lc_range (lo := 0) (n := v) (fun i H3 => ExB T b H1 H3 ∧ BagAt H3 b c cs ∧ ∃ us : List Str, H3 D = some (.lst (us.map V.str)) ∧ us.length = i ∧ ∀ x ∈ us, x ∈ ws) ⟨ExB.of ((Ex.refl H1).new hD), BagAt.ex (T := T) ((Ex.refl H1).new hD) hB1, [], upd_same, rfl, fun x hx => by cases hx⟩ (fun i H3 hi p => ?_) (fun H3 p => ?_)
  · obtain ⟨p1, p2, us, p3, p4, p5⟩ := p
    refine ⟨gw _, ?_⟩
    unfold tYes
    refine iteT ⟨_, g1 _, _, g3 _, b, c, l, cs, ws, rfl, p2, p1.at hl1 loose_lst hlb, hlb, w1, w2, fun H5 x e5 hB5 hx => ?_⟩
    have hD5 : H5 D = some (.lst (us.map V.str)) := e5.at p3 loose_lst nDb
    have eH : ExB T b H1 H5 := p1.trans e5
    refine ⟨_, hD5, by rw [List.length_map, sizeLine_eq]; omega, ⟨fun y o hy n m => ?_, fun t => tabs_upd (eH.2 t) hD5 loose_lst⟩, BagAt.put (o := .lst (us.map V.str)) hB5 nDb nDc, us ++ [x], by rw [upd_same, List.map_append]; rfl, by rw [List.length_append, p4]; rfl, fun y hy => ?_⟩
    · rw [upd_ne (ne_of_none hy hD)]
      exact eH.1 y o hy n m
    · rcases List.mem_append.mp hy with hy | hy
      · exact p5 y hy
      · rw [List.mem_singleton.mp hy]; exact hx
  · obtain ⟨p1, p2, us, p3, p4, p5⟩ := p
    refine ⟨D, _, rfl, .inl ⟨.inl (.inl p3), fun r hr2 => ?_⟩⟩
    have e3 : Ex T H3 (upd H3 r (.tup (us.map V.str))) := (Ex.refl H3).new hr2
    exact q _ r us ((e1.trans p1).trans (ExB.of e3)) (BagAt.ex e3 p2) upd_same (by omega) p5
section
variable {P : Program} {w : World} {K : PySem.W.Frag} {mg : Str → Option Value} {base : Heap} {T : List (Addr × Str)} {f cL : Addr} {A : Around} {outer : List Env} {s : Shared} {H0 : Hp} {E : XK}
theorem chunkA {PL : Addr} (C : Cals P w K mg base T) (TB : TabB base mg cL PL) (hTL : (PL, qG) ∈ T) (hUL : ∀ p ∈ T, p.1 = PL → p.2 = qG) (hr : Room 5 (XL P w K mg base f cL A outer s H0 E).A) (uB : TS) (hUB : PSs (XL P w K mg base f cL A outer s H0 E) (bodyL.drop 3) uB)
    (hRB : ∀ (D : Ends) (a b c : Addr) (cs : List Int) (wl q1 q2 q4 q3 : Addr) (u v x r : Wd) y2 y3 y6 y7 y8 y9 y10 y11 y12 y13 y14 y15 y16 y17 y18 y19 y20 y21 y22 y23 H, BagAt H b c cs → Tabs T H → H wl = some (.lst [.ref q1, .ref q2, .ref q4]) → IsW H q1 u → IsW H q2 v → IsW H q4 x → IsW H q3 r → u.length ≤ 3 → v.length ≤ 3 → x.length ≤ 3 → r.length ≤ 9 → OkW u → OkW v →
      (∀ σ' H', GoodL T a b c cs σ' H' → D.nx σ' H') → uB D [some (.ref a), some (.ref b), y2, y3, some (.ref wl), some (.ref q3), y6, y7, y8, y9, y10, y11, y12, y13, y14, y15, y16, y17, y18, y19, y20, y21, y22, y23] H) : ∃ uT : TS, PSs (XL P w K mg base f cL A outer s H0 E) bodyL uT ∧
    ∀ (D : Ends) (a b c : Addr) (cs : List Int) σ H, GoodL T a b c cs σ H → (∀ σ' H', GoodL T a b c cs σ' H' → D.nx σ' H') → uT D σ H := by
  obtain ⟨fK, fdK, FK, mK, kK, bK⟩ := C.take
  obtain ⟨fS, fdS, FS', mS, kS, bS⟩ := C.som
  have nd := scLaw.nd
  refine ⟨_, pss_cons (ps_set (i := 3) nd rfl (.inr rfl) (pe_slice sl_list (pe_lst (pa_cons pe_str (pa_cons pe_str (pa_cons pe_str pa_nil)))) po_none (po_some (pe_op op_add pe_int (pe_call FK (hr.mono (by decide)) (by rfl) mK kK bK .nil pass0 (pa_cons (pv 1) (pa_cons pe_int pa_nil)))))))
    (pss_cons (ps_setLc (i := 4) (own := [("some", 21)]) (g := gName 21) (tt := tYes) (te := tDraw K T 4) (by rfl) nd rfl rfl (sw_true rfl rfl rfl (by decide +kernel)) (pi_range1 rfl C.mr (pa_cons pe_int pa_nil)) (blkOk_by (N := NL) (sc := defScope sLaw) (by decide +kernel))
        (fun _ _ _ _ _ => pg_name (i := 21) nd rfl (.inl rfl)) (fun _ _ _ _ _ => pts_nil)
        (fun _ _ _ _ _ => pe_callTy call_tuple_of (by rfl) C.mt (by decide +kernel) (pa_cons
          (pe_lc (own := [("place", 20)]) (g := gName 20) (tt := tYes) (by rfl) nd (pi_range1 rfl C.mr (pa_cons (pe_call FK (hr.mono (by decide)) (by rfl) mK kK bK .nil pass0 (pa_cons (pv 1) (pa_cons pe_int pa_nil))) pa_nil)) (blkOk_by (N := NL) (sc := relS scO (defScope sLaw)) (by decide +kernel))
            (fun _ _ _ _ _ => pg_name (i := 20) nd rfl (.inl rfl)) (fun _ _ _ _ _ => pts_nil) (fun _ _ _ _ _ => pe_call FS' (hr.mono (by decide)) (by rfl) mS kS bS .nil pass0 (pa_cons (pv 1) (pa_cons (pv 3) pa_nil)))) pa_nil)))
    (pss_cons (ps_set (i := 5) nd rfl (.inr rfl) (pe_callTy call_tuple_of (by rfl) C.mt (by decide +kernel) (pa_cons
          (pe_lc (own := [("place", 20)]) (g := gName 20) (tt := tYes) (by rfl) nd (pi_range1 rfl C.mr (pa_cons (pe_call FK (hr.mono (by decide)) (by rfl) mK kK bK .nil pass0 (pa_cons (pv 1) (pa_cons pe_int pa_nil))) pa_nil)) (blkOk_by (N := NL) (sc := defScope sLaw) (by decide +kernel))
            (fun _ _ _ _ _ => pg_name (i := 20) nd rfl (.inl rfl)) (fun _ _ _ _ _ => pts_nil) (fun _ _ _ _ _ => pe_call FS' (hr.mono (by decide)) (by rfl) mS kS bS .nil pass0 (pa_cons (pv 1) (pa_cons (pv 3) pa_nil)))) pa_nil))) hUB)), ?_⟩
  intro D a b c cs σ H hG hD
  obtain ⟨y2, y3, y4, y5, y6, y7, y8, y9, y10, y11, y12, y13, y14, y15, y16, y17, y18, y19, y20, y21, y22, y23, rfl, hB, hT⟩ := hG
  -- letters
  refine ⟨by show 3 ≤ sizeLine; decide, fun l0 hl0 => ?_⟩
  have e0 : Ex T H (upd H l0 (.lst [.str "a", .str "b", .str "c"])) := (Ex.refl H).new hl0
  have hB0 := BagAt.ex e0 hB
  have nl0b : l0 ≠ b := fun z => by
    obtain ⟨bl, hbl⟩ := hB.isl
    rw [z, hbl] at hl0; cases hl0
  refine ⟨_, rfl, b, c, cs, 3, rfl, hB0, by decide, by decide, fun H1 v0 e1 hB1 hv0 => ⟨_, _, rfl, rfl, _, rfl, l0, _, rfl, .inl (.inl (e1.at upd_same loose_lst nl0b)), fun l hl => ?_⟩⟩
  have hws : ∃ ws : List Str, cutV [V.str "a", V.str "b", V.str "c"] none (some (1 + (v0 : Int))) = ws.map V.str ∧ 1 ≤ ws.length ∧ ws.length ≤ 100 ∧ OkW ws := by
    have hv0' : v0 = 0 ∨ v0 = 1 ∨ v0 = 2 := by omega
    rcases hv0' with rfl | rfl | rfl
    · exact ⟨["a"], rfl, by decide, by decide, fun x hx => ok_letters x (by simp only [List.mem_cons, List.not_mem_nil, or_false] at hx ⊢; exact .inl hx)⟩
    · exact ⟨["a", "b"], rfl, by decide, by decide, fun x hx => ok_letters x (by simp only [List.mem_cons, List.not_mem_nil, or_false] at hx ⊢; exact hx.elim .inl fun h => .inr (.inl h))⟩
    · exact ⟨["a", "b", "c"], rfl, by decide, by decide, ok_letters⟩
  obtain ⟨ws, hcut, w1, w2, okws⟩ := hws
  rw [hcut]
  have e2 : Ex T H1 (upd H1 l (.lst (ws.map V.str))) := (Ex.refl H1).new hl
  have hB2 := BagAt.ex e2 hB1
  have hlb : l ≠ b := fun z => by
    obtain ⟨bl, hbl⟩ := hB1.isl
    rw [z, hbl] at hl; cases hl
  have T2 : Tabs T (upd H1 l (.lst (ws.map V.str))) := e2.tabs (e1.2 (e0.tabs hT))
  have g2 : upd H1 l (.lst (ws.map V.str)) l = some (.lst (ws.map V.str)) := upd_same
  generalize upd H1 l (.lst (ws.map V.str)) = H2 at hB2 T2 g2
  -- words
  refine ⟨3, rfl, by decide, by decide, fun D1 hD1 => ?_⟩
  obtain ⟨bl2, hbl2⟩ := hB2.isl
  have nDb : D1 ≠ b := fun z => by rw [z, hbl2] at hD1; cases hD1
  have nDc : D1 ≠ c := fun z => by rw [z, hB2.cells] at hD1; cases hD1
  refine lc_range (lo := 0) (n := 3) (fun i H3 => ExB T b H2 H3 ∧ BagAt H3 b c cs ∧ ∃ (rs : List Addr) (us : List Wd), H3 D1 = some (.lst (rs.map V.ref)) ∧ Paired (IsW H3) rs us ∧ us.length = i ∧ ∀ u ∈ us, u.length ≤ 3 ∧ ∀ x ∈ u, x ∈ ws)
    ⟨ExB.of ((Ex.refl H2).new hD1), BagAt.ex (T := T) ((Ex.refl H2).new hD1) hB2, [], [], upd_same, .nil, rfl, fun u hu => by cases hu⟩ (fun i H3 hi p => ?_) (fun H3 p => ?_)
  · obtain ⟨p1, p2, rs, us, p3, p4, p5, p6⟩ := p
    refine ⟨rfl, ?_⟩
    unfold tYes
    refine iteT (draw (n := 4) rfl (fun _ => rfl) (fun _ => rfl) (fun _ => rfl) p2 (p1.at g2 loose_lst hlb) hlb w1 w2 (by decide) (by decide) fun H4 r u e4 hB4 hu hlen hmem => ?_)
    have hD4 : H4 D1 = some (.lst (rs.map V.ref)) := e4.at p3 loose_lst nDb
    have eH : ExB T b H2 H4 := p1.trans e4
    have tpu : Tp H4 (upd H4 D1 (.lst (rs.map V.ref ++ [.ref r]))) := fun a' xs h => by rw [upd_ne (ne_of h hD4 (fun z => by cases z))]; exact h
    have lrs : rs.length = us.length := Paired.length p4
    refine ⟨_, hD4, by rw [List.length_map, sizeLine_eq]; omega, ⟨fun y o hy n m => ?_, fun t => tabs_upd (eH.2 t) hD4 loose_lst⟩, BagAt.put (o := .lst (rs.map V.ref)) hB4 nDb nDc, rs ++ [r], us ++ [u], by rw [upd_same, List.map_append]; rfl, paired_app (paired_mono (fun _ _ h => IsW.tp ((e4.tp p2).trans tpu) h) p4) (.cons (IsW.tp tpu hu) .nil), by rw [List.length_append, p5]; rfl, fun y hy => ?_⟩
    · rw [upd_ne (ne_of_none hy hD1)]
      exact eH.1 y o hy n m
    · rcases List.mem_append.mp hy with hy | hy
      · exact p6 y hy
      · rw [List.mem_singleton.mp hy]; exact ⟨by omega, hmem⟩
  · obtain ⟨p1, p2, rs, us, p3, p4, p5, p6⟩ := p
    refine seq_asg (draw (n := 9) rfl (fun _ => rfl) (fun _ => rfl) (fun _ => rfl) p2 (p1.at g2 loose_lst hlb) hlb w1 w2 (by decide) (by decide) fun H5 q3 r e5 hB5 hr hlen _ => ?_)
    match us, p5, rs, p4, p3, p6 with
    | [u, v, x], _, [q1, q2, q4], .cons k1 (.cons k2 (.cons k3 .nil)), p3, p6 =>
      have z1 := p6 u (by simp)
      have z2 := p6 v (by simp)
      have z3 := p6 x (by simp)
      have tp := e5.tp p2
      exact hRB D a b c cs D1 q1 q2 q4 q3 u v x r _ _ _ _ _ _ _ _ _ _ _ _ _ _ _ _ _ _ _ _ H5 hB5 ((p1.trans e5).2 T2) (e5.at p3 loose_lst nDb) (IsW.tp tp k1) (IsW.tp tp k2) (IsW.tp tp k3) hr z1.1 z2.1 z3.1 (by omega) (fun y hy => okws y (z1.2 y hy)) (fun y hy => okws y (z2.2 y hy)) hD
end
end KW

set_option Elab.async false
set_option linter.all false
set_option maxRecDepth 100000
namespace KW
open PySem PySem.Spec PyProof.Rows L2 LamX KR
section
variable {P : Program} {w : World} {K : PySem.W.Frag} {mg : Str → Option Value} {base : Heap} {T : List (Addr × Str)}
def spLaw (K : PySem.W.Frag) (T : List (Addr × Str)) : Sp := fun vs H Q _ => ∃ (a : Addr) (ns : List Int), vs = [.ref a] ∧ SqL K H a (ns.map V.int) ∧ Tabs T H ∧ ∀ H', Q (.bl true) H'
theorem ok_law {f : Addr} {fd : FuncData} {cL PL : Addr} (F : FunC K "law" "law" sLaw f fd cL) (C : Cals P w K mg base T) (TB : TabB base mg cL PL) (hTL : (PL, qG) ∈ T) (hUL : ∀ p ∈ T, p.1 = PL → p.2 = qG) : FnOk P w K mg base CX0 6 f fd ["script"] (spLaw K T) := by
  obtain ⟨fB, fdB, FB, mB, kB, bB⟩ := C.bag
  refine F.ok (k := 5) scLaw (fun vs H Q E h => ?_) (fun A outer s H vs Q E hr h => ?_)
  · obtain ⟨a, ns, rfl, _⟩ := h
    rfl
  · obtain ⟨a, ns, rfl, hS, hT, q⟩ := h
    have nd := scLaw.nd
    obtain ⟨uB, hUB, hRB⟩ := chunkB (f := f) (cL := cL) (A := A) (outer := outer) (s := s) (H0 := H) (E := E) C TB hTL hUL hr
    obtain ⟨uA, hUA, hRA⟩ := chunkA (f := f) (cL := cL) (A := A) (outer := outer) (s := s) (H0 := H) (E := E) C TB hTL hUL hr uB hUB hRB
    refine ⟨_, pss_cons (ps_set (i := 1) nd rfl (.inr rfl) (pe_call FB (hr.mono (by decide)) (by rfl) mB kB bB .nil pass0 (pa_cons (pv 0) pa_nil)))
      (pss_cons (ps_for PassesOwn.never rfl (pi_range1 rfl C.mr (pa_cons pe_int pa_nil)) (pg_name (i := 2) nd rfl (.inl rfl)) hUA)
      (pss_one (ps_ret pe_bl))), ?_⟩
    refine ⟨_, rfl, a, ns, rfl, hS, fun H1 b c cs e1 hB => ?_⟩
    refine ⟨6, rfl, by decide, by decide, ?_⟩
    refine for_range (n := 6) (fun i σ H3 => GoodL T a b c cs σ H3) ⟨_, _, _, _, _, _, _, _, _, _, _, _, _, _, _, _, _, _, _, _, _, _, rfl, hB, e1.tabs hT⟩ (fun i σ H3 hi p => ?_) (fun σ H3 p => q H3)
    obtain ⟨y2, y3, y4, y5, y6, y7, y8, y9, y10, y11, y12, y13, y14, y15, y16, y17, y18, y19, y20, y21, y22, y23, rfl, hB3, hT3⟩ := p
    exact hRA _ a b c cs _ H3 ⟨_, _, _, _, _, _, _, _, _, _, _, _, _, _, _, _, _, _, _, _, _, _, rfl, hB3, hT3⟩ fun _ _ h => h
end
end KW

set_option Elab.async false
set_option linter.all false
set_option maxRecDepth 100000
namespace KW
open PySem PySem.Spec PyProof.Rows L2 LamX KR
theorem tabIn_mk {K : PySem.W.Frag} {x : Str} {f c P : Addr} {o1 c1 : Value} {o2 c2 : Option Addr} {o4 c4 : Array (Option Value)} {fd : FuncData} {vs : Array Value} (a : PySem.W.nsIn K mainGlobals x = some (some (.ref f))) (l : K.lookup f = some ⟨o1, o2, .func fd, o4⟩) (hc : fd.code = .ref c)
    (lc : K.lookup c = some ⟨c1, c2, .fields vs, c4⟩) (hv : vs[11]? = some (.ref P)) : PySem.W.tabIn K x = some (c, P) := by
  unfold PySem.W.tabIn
  simp only [a, l, hc, lc, hv]
/-- the end of a law row, told with the top -/
theorem walk_ofTT {l : PySem.W.OpenLaw} {n k : Nat} {q : Program} {loose : List Str} {XP : (Str → Option Value) → Heap → Prop} {YP : World → Heap → Prop} {d : DefRec} {K : Params → PySem.W.Frag} {CX : World → CXT} {x : Str}
    (hn : l.most = some n) (hn2 : n ≤ sizeLine) (hdf : d.params.defaults = []) (hr : Room k callerA) (hY : ∀ (w : World) (h : Heap), YP w h → (K w.params).In h)
    (F : ∀ (w : World) (lo : List Str) (mean : ExcName → Option Value) (mg mb : Str → Option Value) (fa : Addr) (h : Heap), (K w.params).In h → Top q lo mean mg mb h → mg d.name = some (.ref fa) → LawAtS l w (K w.params) (CX w) k n x mg fa h)
    (hCX : ∀ (w : World) (H : Hp) (s : Shared) (e : Value) (s' : Shared), CX w [] H s (fun _ _ _ => False) e s' → False) :
    PySem.W.WalkO q loose XP YP l.row.toRowW d [] (fun f vs => PySem.call f vs) := by
  refine Att.attach_callB hn hdf fun w s₀ s₁ mg mb fa o pm cd doc a vs ns G Y ho hd hcd hmg hobj hints hlen hbits hg => ?_
  have KX := hY w _ Y
  obtain ⟨fd, cs, sp, hT, nT, C, hb, hsp, hF⟩ := F w _ _ mg mb fa _ KX G.T hmg
  exact law_callTs KX G.T.g G.T.b G.T.builtins G.T.nolimit hg hT nT C G.T.bmain hobj hints (Nat.le_trans hlen hn2) hr hF hb (fun H hH hS => hsp H a ns hlen hbits hH hS) fun H e s' => hCX w H s₁ e s'

theorem all_mk {l : PySem.W.OpenLaw} {w : World} {K : PySem.W.Frag} {q : Program} {lo : List Str} {mean : ExcName → Option Value} {mg mb : Str → Option Value} {h : Heap} {fa : Addr} (X : K.In h) (Tq : Top q lo mean mg mb h) (hfa : mg "law" = some (.ref fa))
    {fAd : Addr} {odAd anAd : Option Addr} {slAd : Array (Option Value)} {ocAd kVAd dcAd pmAd ctAd : Value} {cdAd : Value}
    (aAd : PySem.W.nsIn K mainGlobals "added" = some (some (.ref fAd))) (lAd : K.lookup fAd = some ⟨ocAd, odAd, .func (PySem.W.fnOf "added" "added" (defArgs sAdded) (defBody sAdded) (defScope sAdded) .none kVAd dcAd pmAd anAd cdAd ctAd), slAd⟩) (qAd : PySem.W.codeIn K cdAd "added" = true) (kAd : PySem.W.keepIn K (.ref fAd) = true)
    {fAt : Addr} {odAt anAt : Option Addr} {slAt : Array (Option Value)} {ocAt kVAt dcAt pmAt ctAt : Value} {cAt PAt : Addr} {coAt : Value} {cqAt : Option Addr} {vsAt : Array Value} {crAt : Array (Option Value)} {dAt : DefRec}
    (aAt : PySem.W.nsIn K mainGlobals "as_terms" = some (some (.ref fAt))) (lAt : K.lookup fAt = some ⟨ocAt, odAt, .func (PySem.W.fnOf "as_terms" "as_terms" (defArgs sAsTerms) (defBody sAsTerms) (defScope sAsTerms) .none kVAt dcAt pmAt anAt (.ref cAt) ctAt), slAt⟩) (qAt : PySem.W.codeIn K (.ref cAt) "as_terms" = true) (kAt : PySem.W.keepIn K (.ref fAt) = true)
    (mAt : K.lookup cAt = some ⟨coAt, cqAt, .fields vsAt, crAt⟩) (vAt : vsAt[11]? = some (.ref PAt)) (nAt : K.lookup PAt = none) (rAt : (recsOf q).find? (fun e => e.name == ("as_terms" : Str)) = some dAt)
    {fPo : Addr} {odPo anPo : Option Addr} {slPo : Array (Option Value)} {ocPo kVPo dcPo pmPo ctPo : Value} {cdPo : Value}
    (aPo : PySem.W.nsIn K mainGlobals "product_of" = some (some (.ref fPo))) (lPo : K.lookup fPo = some ⟨ocPo, odPo, .func (PySem.W.fnOf "product_of" "product_of" (defArgs sProductOf) (defBody sProductOf) (defScope sProductOf) .none kVPo dcPo pmPo anPo cdPo ctPo), slPo⟩) (qPo : PySem.W.codeIn K cdPo "product_of" = true) (kPo : PySem.W.keepIn K (.ref fPo) = true)
    {fTp : Addr} {odTp anTp : Option Addr} {slTp : Array (Option Value)} {ocTp kVTp dcTp pmTp ctTp : Value} {cdTp : Value}
    (aTp : PySem.W.nsIn K mainGlobals "terms_product" = some (some (.ref fTp))) (lTp : K.lookup fTp = some ⟨ocTp, odTp, .func (PySem.W.fnOf "terms_product" "terms_product" (defArgs sTermsProduct) (defBody sTermsProduct) (defScope sTermsProduct) .none kVTp dcTp pmTp anTp cdTp ctTp), slTp⟩) (qTp : PySem.W.codeIn K cdTp "terms_product" = true) (kTp : PySem.W.keepIn K (.ref fTp) = true)
    {fTs : Addr} {odTs anTs : Option Addr} {slTs : Array (Option Value)} {ocTs kVTs dcTs pmTs ctTs : Value} {cdTs : Value}
    (aTs : PySem.W.nsIn K mainGlobals "terms_sum" = some (some (.ref fTs))) (lTs : K.lookup fTs = some ⟨ocTs, odTs, .func (PySem.W.fnOf "terms_sum" "terms_sum" (defArgs sTermsSum) (defBody sTermsSum) (defScope sTermsSum) .none kVTs dcTs pmTs anTs cdTs ctTs), slTs⟩) (qTs : PySem.W.codeIn K cdTs "terms_sum" = true) (kTs : PySem.W.keepIn K (.ref fTs) = true)
    {fPw : Addr} {odPw anPw : Option Addr} {slPw : Array (Option Value)} {ocPw kVPw dcPw pmPw ctPw : Value} {cdPw : Value}
    (aPw : PySem.W.nsIn K mainGlobals "power_of" = some (some (.ref fPw))) (lPw : K.lookup fPw = some ⟨ocPw, odPw, .func (PySem.W.fnOf "power_of" "power_of" (defArgs sPowerOf) (defBody sPowerOf) (defScope sPowerOf) .none kVPw dcPw pmPw anPw cdPw ctPw), slPw⟩) (qPw : PySem.W.codeIn K cdPw "power_of" = true) (kPw : PySem.W.keepIn K (.ref fPw) = true)
    {fCh : Addr} {odCh anCh : Option Addr} {slCh : Array (Option Value)} {ocCh kVCh dcCh pmCh ctCh : Value} {cdCh : Value}
    (aCh : PySem.W.nsIn K mainGlobals "choices_of" = some (some (.ref fCh))) (lCh : K.lookup fCh = some ⟨ocCh, odCh, .func (PySem.W.fnOf "choices_of" "choices_of" (defArgs sChoicesOf) (defBody sChoicesOf) (defScope sChoicesOf) .none kVCh dcCh pmCh anCh cdCh ctCh), slCh⟩) (qCh : PySem.W.codeIn K cdCh "choices_of" = true) (kCh : PySem.W.keepIn K (.ref fCh) = true)
    {fTa : Addr} {odTa anTa : Option Addr} {slTa : Array (Option Value)} {ocTa kVTa dcTa pmTa ctTa : Value} {cdTa : Value}
    (aTa : PySem.W.nsIn K mainGlobals "terms_at" = some (some (.ref fTa))) (lTa : K.lookup fTa = some ⟨ocTa, odTa, .func (PySem.W.fnOf "terms_at" "terms_at" (defArgs sTermsAt) (defBody sTermsAt) (defScope sTermsAt) .none kVTa dcTa pmTa anTa cdTa ctTa), slTa⟩) (qTa : PySem.W.codeIn K cdTa "terms_at" = true) (kTa : PySem.W.keepIn K (.ref fTa) = true)
    {fWi : Addr} {odWi anWi : Option Addr} {slWi : Array (Option Value)} {ocWi kVWi dcWi pmWi ctWi : Value} {cdWi : Value}
    (aWi : PySem.W.nsIn K mainGlobals "words_in" = some (some (.ref fWi))) (lWi : K.lookup fWi = some ⟨ocWi, odWi, .func (PySem.W.fnOf "words_in" "words_in" (defArgs sWordsIn) (defBody sWordsIn) (defScope sWordsIn) .none kVWi dcWi pmWi anWi cdWi ctWi), slWi⟩) (qWi : PySem.W.codeIn K cdWi "words_in" = true) (kWi : PySem.W.keepIn K (.ref fWi) = true)
    {fTk : Addr} {odTk anTk : Option Addr} {slTk : Array (Option Value)} {ocTk kVTk dcTk pmTk ctTk : Value} {cdTk : Value}
    (aTk : PySem.W.nsIn K mainGlobals "_law_take" = some (some (.ref fTk))) (lTk : K.lookup fTk = some ⟨ocTk, odTk, .func (PySem.W.fnOf "_law_take" "_law_take" (defArgs sTake) (defBody sTake) (defScope sTake) .none kVTk dcTk pmTk anTk cdTk ctTk), slTk⟩) (qTk : PySem.W.codeIn K cdTk "_law_take" = true) (kTk : PySem.W.keepIn K (.ref fTk) = true)
    {fSo : Addr} {odSo anSo : Option Addr} {slSo : Array (Option Value)} {ocSo kVSo dcSo pmSo ctSo : Value} {cdSo : Value}
    (aSo : PySem.W.nsIn K mainGlobals "_law_some" = some (some (.ref fSo))) (lSo : K.lookup fSo = some ⟨ocSo, odSo, .func (PySem.W.fnOf "_law_some" "_law_some" (defArgs sSome) (defBody sSome) (defScope sSome) .none kVSo dcSo pmSo anSo cdSo ctSo), slSo⟩) (qSo : PySem.W.codeIn K cdSo "_law_some" = true) (kSo : PySem.W.keepIn K (.ref fSo) = true)
    {fBg : Addr} {odBg anBg : Option Addr} {slBg : Array (Option Value)} {ocBg kVBg dcBg pmBg ctBg : Value} {cdBg : Value}
    (aBg : PySem.W.nsIn K mainGlobals "_law_bag" = some (some (.ref fBg))) (lBg : K.lookup fBg = some ⟨ocBg, odBg, .func (PySem.W.fnOf "_law_bag" "_law_bag" (defArgs sBag) (defBody sBag) (defScope sBag) .none kVBg dcBg pmBg anBg cdBg ctBg), slBg⟩) (qBg : PySem.W.codeIn K cdBg "_law_bag" = true) (kBg : PySem.W.keepIn K (.ref fBg) = true)
    {fLt : Addr} {odLt anLt : Option Addr} {slLt : Array (Option Value)} {ocLt kVLt dcLt pmLt ctLt : Value} {cLt PLt : Addr} {coLt : Value} {cqLt : Option Addr} {vsLt : Array Value} {crLt : Array (Option Value)} {dLt : DefRec}
    (aLt : PySem.W.nsIn K mainGlobals "_law_terms" = some (some (.ref fLt))) (lLt : K.lookup fLt = some ⟨ocLt, odLt, .func (PySem.W.fnOf "_law_terms" "_law_terms" (defArgs sTerms) (defBody sTerms) (defScope sTerms) .none kVLt dcLt pmLt anLt (.ref cLt) ctLt), slLt⟩) (qLt : PySem.W.codeIn K (.ref cLt) "_law_terms" = true) (kLt : PySem.W.keepIn K (.ref fLt) = true)
    (mLt : K.lookup cLt = some ⟨coLt, cqLt, .fields vsLt, crLt⟩) (vLt : vsLt[11]? = some (.ref PLt)) (nLt : K.lookup PLt = none) (rLt : (recsOf q).find? (fun e => e.name == ("_law_terms" : Str)) = some dLt)
    {fSh : Addr} {odSh anSh : Option Addr} {slSh : Array (Option Value)} {ocSh kVSh dcSh pmSh ctSh : Value} {cdSh : Value}
    (aSh : PySem.W.nsIn K mainGlobals "_law_shuffled" = some (some (.ref fSh))) (lSh : K.lookup fSh = some ⟨ocSh, odSh, .func (PySem.W.fnOf "_law_shuffled" "_law_shuffled" (defArgs sShuffled) (defBody sShuffled) (defScope sShuffled) .none kVSh dcSh pmSh anSh cdSh ctSh), slSh⟩) (qSh : PySem.W.codeIn K cdSh "_law_shuffled" = true) (kSh : PySem.W.keepIn K (.ref fSh) = true)
    {fAl : Addr} {odAl anAl : Option Addr} {slAl : Array (Option Value)} {ocAl kVAl dcAl pmAl ctAl : Value} {cdAl : Value}
    (aAl : PySem.W.nsIn K mainGlobals "_law_alike" = some (some (.ref fAl))) (lAl : K.lookup fAl = some ⟨ocAl, odAl, .func (PySem.W.fnOf "_law_alike" "_law_alike" (defArgs sAlike) (defBody sAlike) (defScope sAlike) .none kVAl dcAl pmAl anAl cdAl ctAl), slAl⟩) (qAl : PySem.W.codeIn K cdAl "_law_alike" = true) (kAl : PySem.W.keepIn K (.ref fAl) = true)
    {fCt : Addr} {odCt anCt : Option Addr} {slCt : Array (Option Value)} {ocCt kVCt dcCt pmCt ctCt : Value} {cdCt : Value}
    (aCt : PySem.W.nsIn K mainGlobals "_law_count" = some (some (.ref fCt))) (lCt : K.lookup fCt = some ⟨ocCt, odCt, .func (PySem.W.fnOf "_law_count" "_law_count" (defArgs sCount) (defBody sCount) (defScope sCount) .none kVCt dcCt pmCt anCt cdCt ctCt), slCt⟩) (qCt : PySem.W.codeIn K cdCt "_law_count" = true) (kCt : PySem.W.keepIn K (.ref fCt) = true)
    {fWo : Addr} {odWo anWo : Option Addr} {slWo : Array (Option Value)} {ocWo kVWo dcWo pmWo ctWo : Value} {cdWo : Value}
    (aWo : PySem.W.nsIn K mainGlobals "_law_worth" = some (some (.ref fWo))) (lWo : K.lookup fWo = some ⟨ocWo, odWo, .func (PySem.W.fnOf "_law_worth" "_law_worth" (defArgs sWorth) (defBody sWorth) (defScope sWorth) .none kVWo dcWo pmWo anWo cdWo ctWo), slWo⟩) (qWo : PySem.W.codeIn K cdWo "_law_worth" = true) (kWo : PySem.W.keepIn K (.ref fWo) = true)
    {fDt : Addr} {odDt anDt : Option Addr} {slDt : Array (Option Value)} {ocDt kVDt dcDt pmDt ctDt : Value} {cdDt : Value}
    (aDt : PySem.W.nsIn K mainGlobals "_law_added_terms" = some (some (.ref fDt))) (lDt : K.lookup fDt = some ⟨ocDt, odDt, .func (PySem.W.fnOf "_law_added_terms" "_law_added_terms" (defArgs sAddedTerms) (defBody sAddedTerms) (defScope sAddedTerms) .none kVDt dcDt pmDt anDt cdDt ctDt), slDt⟩) (qDt : PySem.W.codeIn K cdDt "_law_added_terms" = true) (kDt : PySem.W.keepIn K (.ref fDt) = true)
    {fTt : Addr} {odTt anTt : Option Addr} {slTt : Array (Option Value)} {ocTt kVTt dcTt pmTt ctTt : Value} {cdTt : Value}
    (aTt : PySem.W.nsIn K mainGlobals "_law_terms_times" = some (some (.ref fTt))) (lTt : K.lookup fTt = some ⟨ocTt, odTt, .func (PySem.W.fnOf "_law_terms_times" "_law_terms_times" (defArgs sTermsTimes) (defBody sTermsTimes) (defScope sTermsTimes) .none kVTt dcTt pmTt anTt cdTt ctTt), slTt⟩) (qTt : PySem.W.codeIn K cdTt "_law_terms_times" = true) (kTt : PySem.W.keepIn K (.ref fTt) = true)
    {fTl : Addr} {odTl anTl : Option Addr} {slTl : Array (Option Value)} {ocTl kVTl dcTl pmTl ctTl : Value} {cdTl : Value}
    (aTl : PySem.W.nsIn K mainGlobals "_law_terms_less" = some (some (.ref fTl))) (lTl : K.lookup fTl = some ⟨ocTl, odTl, .func (PySem.W.fnOf "_law_terms_less" "_law_terms_less" (defArgs sTermsLess) (defBody sTermsLess) (defScope sTermsLess) .none kVTl dcTl pmTl anTl cdTl ctTl), slTl⟩) (qTl : PySem.W.codeIn K cdTl "_law_terms_less" = true) (kTl : PySem.W.keepIn K (.ref fTl) = true)
    {fMt : Addr} {odMt anMt : Option Addr} {slMt : Array (Option Value)} {ocMt kVMt dcMt pmMt ctMt : Value} {cdMt : Value}
    (aMt : PySem.W.nsIn K mainGlobals "_law_many_times" = some (some (.ref fMt))) (lMt : K.lookup fMt = some ⟨ocMt, odMt, .func (PySem.W.fnOf "_law_many_times" "_law_many_times" (defArgs sManyTimes) (defBody sManyTimes) (defScope sManyTimes) .none kVMt dcMt pmMt anMt cdMt ctMt), slMt⟩) (qMt : PySem.W.codeIn K cdMt "_law_many_times" = true) (kMt : PySem.W.keepIn K (.ref fMt) = true)
    {fLw : Addr} {odLw anLw : Option Addr} {slLw : Array (Option Value)} {ocLw kVLw dcLw pmLw ctLw : Value} {cLw PLw : Addr} {coLw : Value} {cqLw : Option Addr} {vsLw : Array Value} {crLw : Array (Option Value)} {dLw : DefRec}
    (aLw : PySem.W.nsIn K mainGlobals "law" = some (some (.ref fLw))) (lLw : K.lookup fLw = some ⟨ocLw, odLw, .func (PySem.W.fnOf "law" "law" (defArgs sLaw) (defBody sLaw) (defScope sLaw) .none kVLw dcLw pmLw anLw (.ref cLw) ctLw), slLw⟩) (qLw : PySem.W.codeIn K (.ref cLw) "law" = true) (kLw : PySem.W.keepIn K (.ref fLw) = true)
    (mLw : K.lookup cLw = some ⟨coLw, cqLw, .fields vsLw, crLw⟩) (vLw : vsLw[11]? = some (.ref PLw)) (nLw : K.lookup PLw = none) (rLw : (recsOf q).find? (fun e => e.name == ("law" : Str)) = some dLw)
    (p1 : PAt ≠ PLt) (p2 : PAt ≠ PLw) (p3 : PLt ≠ PLw)
    (z_len : PySem.W.nsIn K mainGlobals "len" = some none)
    (z_range : PySem.W.nsIn K mainGlobals "range" = some none)
    (z_tuple : PySem.W.nsIn K mainGlobals "tuple" = some none)
    (z_sorted : PySem.W.nsIn K mainGlobals "sorted" = some none)
    (z_sum : PySem.W.nsIn K mainGlobals "sum" = some none)
    (z_int : PySem.W.nsIn K mainGlobals "int" = some none)
    (z_abs : PySem.W.nsIn K mainGlobals "abs" = some none)
    (z_enumerate : PySem.W.nsIn K mainGlobals "enumerate" = some none)
    (z_isinstance : PySem.W.nsIn K mainGlobals "isinstance" = some none)
    (z_bool : PySem.W.nsIn K mainGlobals "bool" = some none)
    (z_str : PySem.W.nsIn K mainGlobals "str" = some none)
    (z_list : PySem.W.nsIn K mainGlobals "list" = some none)
    (z_zip : PySem.W.nsIn K mainGlobals "zip" = some none)
    (z_dict : PySem.W.nsIn K mainGlobals "dict" = some none)
    : LawAtS l w K CX0 6 63 "script" mg fa h := by
  have G := Tq.g
  have e := hfa.symm.trans (PySem.W.mg_of X G aLw)
  cases e
  have y_len := PySem.W.mg_none_of X G z_len
  have y_range := PySem.W.mg_none_of X G z_range
  have y_tuple := PySem.W.mg_none_of X G z_tuple
  have y_sorted := PySem.W.mg_none_of X G z_sorted
  have y_sum := PySem.W.mg_none_of X G z_sum
  have y_int := PySem.W.mg_none_of X G z_int
  have y_abs := PySem.W.mg_none_of X G z_abs
  have y_enumerate := PySem.W.mg_none_of X G z_enumerate
  have y_isinstance := PySem.W.mg_none_of X G z_isinstance
  have y_bool := PySem.W.mg_none_of X G z_bool
  have y_str := PySem.W.mg_none_of X G z_str
  have y_list := PySem.W.mg_none_of X G z_list
  have y_zip := PySem.W.mg_none_of X G z_zip
  have y_dict := PySem.W.mg_none_of X G z_dict
  have FAd := fun_mk (st := sAdded) lAd qAd kAd
  have bAd := FAd.binds (ps := ["found", "word", "many"]) fun _ _ _ _ _ _ us hl => match us, hl with | [_, _, _], _ => rfl
  have gAd := PySem.W.mg_of X G aAd
  have FAt := fun_mk (st := sAsTerms) lAt qAt kAt
  have bAt := FAt.binds (ps := ["found"]) fun _ _ _ _ _ _ us hl => match us, hl with | [_], _ => rfl
  have gAt := PySem.W.mg_of X G aAt
  obtain ⟨hAt, tAt⟩ := PySem.W.tab_of Tq X rAt (tabIn_mk aAt lAt rfl mAt vAt)
  have FPo := fun_mk (st := sProductOf) lPo qPo kPo
  have bPo := FPo.binds (ps := ["one", "other"]) fun _ _ _ _ _ _ us hl => match us, hl with | [_, _], _ => rfl
  have gPo := PySem.W.mg_of X G aPo
  have FTp := fun_mk (st := sTermsProduct) lTp qTp kTp
  have bTp := FTp.binds (ps := ["terms", "others"]) fun _ _ _ _ _ _ us hl => match us, hl with | [_, _], _ => rfl
  have gTp := PySem.W.mg_of X G aTp
  have FTs := fun_mk (st := sTermsSum) lTs qTs kTs
  have bTs := FTs.binds (ps := ["terms", "others"]) fun _ _ _ _ _ _ us hl => match us, hl with | [_, _], _ => rfl
  have gTs := PySem.W.mg_of X G aTs
  have FPw := fun_mk (st := sPowerOf) lPw qPw kPw
  have bPw := FPw.binds (ps := ["pattern", "many"]) fun _ _ _ _ _ _ us hl => match us, hl with | [_, _], _ => rfl
  have gPw := PySem.W.mg_of X G aPw
  have FCh := fun_mk (st := sChoicesOf) lCh qCh kCh
  have bCh := FCh.binds (ps := ["pattern", "many"]) fun _ _ _ _ _ _ us hl => match us, hl with | [_, _], _ => rfl
  have gCh := PySem.W.mg_of X G aCh
  have FTa := fun_mk (st := sTermsAt) lTa qTa kTa
  have bTa := FTa.binds (ps := ["terms", "counts"]) fun _ _ _ _ _ _ us hl => match us, hl with | [_, _], _ => rfl
  have gTa := PySem.W.mg_of X G aTa
  have FWi := fun_mk (st := sWordsIn) lWi qWi kWi
  have bWi := FWi.binds (ps := ["terms"]) fun _ _ _ _ _ _ us hl => match us, hl with | [_], _ => rfl
  have gWi := PySem.W.mg_of X G aWi
  have FTk := fun_mk (st := sTake) lTk qTk kTk
  have bTk := FTk.binds (ps := ["bag", "many"]) fun _ _ _ _ _ _ us hl => match us, hl with | [_, _], _ => rfl
  have gTk := PySem.W.mg_of X G aTk
  have FSo := fun_mk (st := sSome) lSo qSo kSo
  have bSo := FSo.binds (ps := ["bag", "things"]) fun _ _ _ _ _ _ us hl => match us, hl with | [_, _], _ => rfl
  have gSo := PySem.W.mg_of X G aSo
  have FBg := fun_mk (st := sBag) lBg qBg kBg
  have bBg := FBg.binds (ps := ["script"]) fun _ _ _ _ _ _ us hl => match us, hl with | [_], _ => rfl
  have gBg := PySem.W.mg_of X G aBg
  have FLt := fun_mk (st := sTerms) lLt qLt kLt
  have bLt := FLt.binds (ps := ["told"]) fun _ _ _ _ _ _ us hl => match us, hl with | [_], _ => rfl
  have gLt := PySem.W.mg_of X G aLt
  obtain ⟨hLt, tLt⟩ := PySem.W.tab_of Tq X rLt (tabIn_mk aLt lLt rfl mLt vLt)
  have FSh := fun_mk (st := sShuffled) lSh qSh kSh
  have bSh := FSh.binds (ps := ["one", "other"]) fun _ _ _ _ _ _ us hl => match us, hl with | [_, _], _ => rfl
  have gSh := PySem.W.mg_of X G aSh
  have FAl := fun_mk (st := sAlike) lAl qAl kAl
  have bAl := FAl.binds (ps := ["found", "due"]) fun _ _ _ _ _ _ us hl => match us, hl with | [_, _], _ => rfl
  have gAl := PySem.W.mg_of X G aAl
  have FCt := fun_mk (st := sCount) lCt qCt kCt
  have bCt := FCt.binds (ps := ["pattern", "word"]) fun _ _ _ _ _ _ us hl => match us, hl with | [_, _], _ => rfl
  have gCt := PySem.W.mg_of X G aCt
  have FWo := fun_mk (st := sWorth) lWo qWo kWo
  have bWo := FWo.binds (ps := ["terms", "row"]) fun _ _ _ _ _ _ us hl => match us, hl with | [_, _], _ => rfl
  have gWo := PySem.W.mg_of X G aWo
  have FDt := fun_mk (st := sAddedTerms) lDt qDt kDt
  have bDt := FDt.binds (ps := ["terms", "others"]) fun _ _ _ _ _ _ us hl => match us, hl with | [_, _], _ => rfl
  have gDt := PySem.W.mg_of X G aDt
  have FTt := fun_mk (st := sTermsTimes) lTt qTt kTt
  have bTt := FTt.binds (ps := ["one", "other"]) fun _ _ _ _ _ _ us hl => match us, hl with | [_, _], _ => rfl
  have gTt := PySem.W.mg_of X G aTt
  have FTl := fun_mk (st := sTermsLess) lTl qTl kTl
  have bTl := FTl.binds (ps := ["terms", "word", "step"]) fun _ _ _ _ _ _ us hl => match us, hl with | [_, _, _], _ => rfl
  have gTl := PySem.W.mg_of X G aTl
  have FMt := fun_mk (st := sManyTimes) lMt qMt kMt
  have bMt := FMt.binds (ps := ["number", "many"]) fun _ _ _ _ _ _ us hl => match us, hl with | [_, _], _ => rfl
  have gMt := PySem.W.mg_of X G aMt
  have FLw := fun_mk (st := sLaw) lLw qLw kLw
  have bLw := FLw.binds (ps := ["script"]) fun _ _ _ _ _ _ us hl => match us, hl with | [_], _ => rfl
  have gLw := PySem.W.mg_of X G aLw
  obtain ⟨hLw, tLw⟩ := PySem.W.tab_of Tq X rLw (tabIn_mk aLw lLw rfl mLw vLw)
  have uA : ∀ p ∈ [(PAt, qA), (PLt, qL), (PLw, qG)], p.1 = PAt → p.2 = qA := fun p hp e => by
    simp only [List.mem_cons, List.not_mem_nil, or_false] at hp
    rcases hp with rfl | rfl | rfl
    · rfl
    · exact absurd e.symm p1
    · exact absurd e.symm p2
  have uL : ∀ p ∈ [(PAt, qA), (PLt, qL), (PLw, qG)], p.1 = PLt → p.2 = qL := fun p hp e => by
    simp only [List.mem_cons, List.not_mem_nil, or_false] at hp
    rcases hp with rfl | rfl | rfl
    · exact absurd e p1
    · rfl
    · exact absurd e.symm p3
  have uG : ∀ p ∈ [(PAt, qA), (PLt, qL), (PLw, qG)], p.1 = PLw → p.2 = qG := fun p hp e => by
    simp only [List.mem_cons, List.not_mem_nil, or_false] at hp
    rcases hp with rfl | rfl | rfl
    · exact absurd e p2
    · exact absurd e p3
    · rfl
  refine ⟨PySem.W.fnOf "law" "law" (defArgs sLaw) (defBody sLaw) (defScope sLaw) .none kVLw dcLw pmLw anLw (.ref cLw) ctLw, [(cAt, PAt), (cLt, PLt), (cLw, PLw)], spLaw K [(PAt, qA), (PLt, qL), (PLw, qG)], fun p hp => ?_, fun p hp => ?_, fun p hp => ?_, fun s v => .of_eq rfl, fun H a ns hl _ hH hS => ⟨a, ns, rfl, hS, fun p hp => ?_, fun _ => rfl⟩, fun base _ _ TBs => ?_⟩
  · simp only [List.mem_cons, List.not_mem_nil, or_false] at hp
    rcases hp with rfl | rfl | rfl
    · exact tAt
    · exact tLt
    · exact tLw
  · simp only [List.mem_cons, List.not_mem_nil, or_false] at hp
    rcases hp with rfl | rfl | rfl
    · exact nAt
    · exact nLt
    · exact nLw
  · simp only [List.mem_cons, List.not_mem_nil, or_false] at hp
    rcases hp with rfl | rfl | rfl
    · exact hAt
    · exact hLt
    · exact hLw
  · simp only [List.mem_cons, List.not_mem_nil, or_false] at hp
    rcases hp with rfl | rfl | rfl
    · exact TabS.nil (hH (cAt, PAt) (by simp))
    · exact TabS.nil (hH (cLt, PLt) (by simp))
    · exact TabS.nil (hH (cLw, PLw) (by simp))
  have TA := TBs (cAt, PAt) (by simp)
  have TL := TBs (cLt, PLt) (by simp)
  have TG := TBs (cLw, PLw) (by simp)
  have mA : (PAt, qA) ∈ [(PAt, qA), (PLt, qL), (PLw, qG)] := by simp
  have mL : (PLt, qL) ∈ [(PAt, qA), (PLt, qL), (PLw, qG)] := by simp
  have mG : (PLw, qG) ∈ [(PAt, qA), (PLt, qL), (PLw, qG)] := by simp
  have UAt : FunC K "as_terms" "as_terms" sAsTerms fAt _ cAt := ⟨⟨ocAt, odAt, kVAt, dcAt, pmAt, anAt, ctAt, slAt, rfl, lAt, qAt⟩, kAt⟩
  have ULt : FunC K "_law_terms" "_law_terms" sTerms fLt _ cLt := ⟨⟨ocLt, odLt, kVLt, dcLt, pmLt, anLt, ctLt, slLt, rfl, lLt, qLt⟩, kLt⟩
  have ULw : FunC K "law" "law" sLaw fa _ cLw := ⟨⟨ocLw, odLw, kVLw, dcLw, pmLw, anLw, ctLw, slLw, rfl, lLw, qLw⟩, kLw⟩
  have CAd : CalAdded l.prog w K mg base := ⟨fAd, _, ok_added FAd, gAd, kAd, bAd⟩
  have CAt : CalAsTerms l.prog w K mg base _ := ⟨fAt, _, ok_asTerms (T := [(PAt, qA), (PLt, qL), (PLw, qG)]) UAt TA mA uA y_len y_tuple y_sorted, gAt, kAt, bAt⟩
  have CLt : CalTerms l.prog w K mg base _ := ⟨fLt, _, ok_terms (T := [(PAt, qA), (PLt, qL), (PLw, qG)]) ULt TL mL uL y_len y_tuple y_sorted, gLt, kLt, bLt⟩
  have CPo : CalProductOf l.prog w K mg base _ := ⟨fPo, _, ok_productOf FPo CAd CAt y_len y_range, gPo, kPo, bPo⟩
  have CTp : CalTermsProduct l.prog w K mg base _ := ⟨fTp, _, ok_termsProduct FTp CAd CAt CPo, gTp, kTp, bTp⟩
  have CTs : CalTermsSum l.prog w K mg base _ := ⟨fTs, _, ok_termsSum FTs CAd CAt, gTs, kTs, bTs⟩
  have CSh : CalShuffled l.prog w K mg base [(PAt, qA), (PLt, qL), (PLw, qG)] := ⟨fSh, _, ok_shuffled FSh y_len y_range, gSh, kSh, bSh⟩
  have CTt : CalTermsTimes l.prog w K mg base _ := ⟨fTt, _, ok_termsTimes FTt CLt CSh, gTt, kTt, bTt⟩
  have CDt : CalAddedTerms l.prog w K mg base [(PAt, qA), (PLt, qL), (PLw, qG)] := ⟨fDt, _, ok_addedTerms FDt, gDt, kDt, bDt⟩
  have CCt : CalCount l.prog w K mg base [(PAt, qA), (PLt, qL), (PLw, qG)] := ⟨fCt, _, ok_count FCt y_len y_enumerate, gCt, kCt, bCt⟩
  have CTk : CalTake l.prog w K mg base [(PAt, qA), (PLt, qL), (PLw, qG)] := ⟨fTk, _, ok_take FTk y_int, gTk, kTk, bTk⟩
  have CSo : CalSome l.prog w K mg base [(PAt, qA), (PLt, qL), (PLw, qG)] := ⟨fSo, _, ok_some FSo CTk y_len, gSo, kSo, bSo⟩
  have C : Cals l.prog w K mg base [(PAt, qA), (PLt, qL), (PLw, qG)] := {
    take := CTk
    som := CSo
    terms := CLt
    shuffled := CSh
    alike := ⟨fAl, _, ok_alike FAl y_len y_isinstance y_bool y_str y_tuple y_list y_zip, gAl, kAl, bAl⟩
    count := CCt
    worth := ⟨fWo, _, ok_worth FWo CCt y_sum, gWo, kWo, bWo⟩
    added := CDt
    times := CTt
    less := ⟨fTl, _, ok_termsLess FTl CLt CDt CTt y_tuple, gTl, kTl, bTl⟩
    many := ⟨fMt, _, ok_manyTimes FMt y_range, gMt, kMt, bMt⟩
    product := CPo
    termsProduct := CTp
    termsSum := CTs
    wordsIn := ⟨fWi, _, ok_wordsIn FWi y_tuple, gWi, kWi, bWi⟩
    termsAt := ⟨fTa, _, ok_termsAt lamTx FTa y_sum, gTa, kTa, bTa⟩
    power := ⟨fPw, _, ok_powerOf FPw CTp y_range, gPw, kPw, bPw⟩
    choices := ⟨fCh, _, ok_choicesOf FCh CTp CTs y_range y_tuple, gCh, kCh, bCh⟩
    bag := ⟨fBg, _, ok_bag FBg y_abs, gBg, kBg, bBg⟩
    mt := y_tuple
    mr := y_range
    md := y_dict }
  exact ok_law ULw C TG mG uG
end KW
open PySem PySem.W PyProof.Rows
set_option maxHeartbeats 0 in
theorem PySem.Challenge.cw_stillsums_k49_products_of_counts_as_sums_holds : PySem.Challenge.rw_stillsums_k49_products_of_counts_as_sums.Holds := by
  w_on; o_law; k_head; (case hw => w_witness2)
  k_fill
  refine KW.walk_ofTT (l := PySem.Challenge.rw_stillsums_k49_products_of_counts_as_sums) (n := 63) (k := 6) (x := "script") (CX := fun _ => L2.CX0) rfl (by decide) rfl ⟨rfl, by decide, by decide⟩ (fun w h Y => PySem.W.km_in_of Y) ?F (fun _ _ _ _ _ h => h)
  case F =>
    intro w lo mean mg mb fa h KX Tq hmg
    refine' KW.all_mk KX Tq hmg ?aAd ?lAd ?qAd ?kAd ?aAt ?lAt ?qAt ?kAt ?mAt ?vAt ?nAt ?rAt ?aPo ?lPo ?qPo ?kPo ?aTp ?lTp ?qTp ?kTp ?aTs ?lTs ?qTs ?kTs ?aPw ?lPw ?qPw ?kPw ?aCh ?lCh ?qCh ?kCh ?aTa ?lTa ?qTa ?kTa ?aWi ?lWi ?qWi ?kWi ?aTk ?lTk ?qTk ?kTk ?aSo ?lSo ?qSo ?kSo ?aBg ?lBg ?qBg ?kBg ?aLt ?lLt ?qLt ?kLt ?mLt ?vLt ?nLt ?rLt ?aSh ?lSh ?qSh ?kSh ?aAl ?lAl ?qAl ?kAl ?aCt ?lCt ?qCt ?kCt ?aWo ?lWo ?qWo ?kWo ?aDt ?lDt ?qDt ?kDt ?aTt ?lTt ?qTt ?kTt ?aTl ?lTl ?qTl ?kTl ?aMt ?lMt ?qMt ?kMt ?aLw ?lLw ?qLw ?kLw ?mLw ?vLw ?nLw ?rLw ?p1 ?p2 ?p3 ?z_len ?z_range ?z_tuple ?z_sorted ?z_sum ?z_int ?z_abs ?z_enumerate ?z_isinstance ?z_bool ?z_str ?z_list ?z_zip ?z_dict
    (case aAd => k_is)
    (case lAd => k_is)
    (case qAd => k_is)
    (case kAd => k_is)
    (case aAt => k_is)
    (case lAt => k_is)
    (case qAt => k_is)
    (case kAt => k_is)
    (case mAt => k_is)
    (case vAt => exact rfl)
    (case nAt => kernel_rfl)
    (case rAt => exact rfl)
    (case aPo => k_is)
    (case lPo => k_is)
    (case qPo => k_is)
    (case kPo => k_is)
    (case aTp => k_is)
    (case lTp => k_is)
    (case qTp => k_is)
    (case kTp => k_is)
    (case aTs => k_is)
    (case lTs => k_is)
    (case qTs => k_is)
    (case kTs => k_is)
    (case aPw => k_is)
    (case lPw => k_is)
    (case qPw => k_is)
    (case kPw => k_is)
    (case aCh => k_is)
    (case lCh => k_is)
    (case qCh => k_is)
    (case kCh => k_is)
    (case aTa => k_is)
    (case lTa => k_is)
    (case qTa => k_is)
    (case kTa => k_is)
    (case aWi => k_is)
    (case lWi => k_is)
    (case qWi => k_is)
    (case kWi => k_is)
    (case aTk => k_is)
    (case lTk => k_is)
    (case qTk => k_is)
    (case kTk => k_is)
    (case aSo => k_is)
    (case lSo => k_is)
    (case qSo => k_is)
    (case kSo => k_is)
    (case aBg => k_is)
    (case lBg => k_is)
    (case qBg => k_is)
    (case kBg => k_is)
    (case aLt => k_is)
    (case lLt => k_is)
    (case qLt => k_is)
    (case kLt => k_is)
    (case mLt => k_is)
    (case vLt => exact rfl)
    (case nLt => kernel_rfl)
    (case rLt => exact rfl)
    (case aSh => k_is)
    (case lSh => k_is)
    (case qSh => k_is)
    (case kSh => k_is)
    (case aAl => k_is)
    (case lAl => k_is)
    (case qAl => k_is)
    (case kAl => k_is)
    (case aCt => k_is)
    (case lCt => k_is)
    (case qCt => k_is)
    (case kCt => k_is)
    (case aWo => k_is)
    (case lWo => k_is)
    (case qWo => k_is)
    (case kWo => k_is)
    (case aDt => k_is)
    (case lDt => k_is)
    (case qDt => k_is)
    (case kDt => k_is)
    (case aTt => k_is)
    (case lTt => k_is)
    (case qTt => k_is)
    (case kTt => k_is)
    (case aTl => k_is)
    (case lTl => k_is)
    (case qTl => k_is)
    (case kTl => k_is)
    (case aMt => k_is)
    (case lMt => k_is)
    (case qMt => k_is)
    (case kMt => k_is)
    (case aLw => k_is)
    (case lLw => k_is)
    (case qLw => k_is)
    (case kLw => k_is)
    (case mLw => k_is)
    (case vLw => exact rfl)
    (case nLw => kernel_rfl)
    (case rLw => exact rfl)
    (case p1 => decide)
    (case p2 => decide)
    (case p3 => decide)
    (case z_len => k_is)
    (case z_range => k_is)
    (case z_tuple => k_is)
    (case z_sorted => k_is)
    (case z_sum => k_is)
    (case z_int => k_is)
    (case z_abs => k_is)
    (case z_enumerate => k_is)
    (case z_isinstance => k_is)
    (case z_bool => k_is)
    (case z_str => k_is)
    (case z_list => k_is)
    (case z_zip => k_is)
    (case z_dict => k_is)
