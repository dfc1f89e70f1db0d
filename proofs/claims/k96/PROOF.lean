import PyProof.Rows.All
import Wide.All
import OpenK.AllK
import Wide.FinOn
import HandS.ForMost
import HandS.TupSets
import HandS.SetFor
import KE.KeyNested
import KE.SortData
import HandS.Deep
import HandS.Strs
import KE.KIndexOf
import KE.DataMinMax
import KE.DatumOrd
import HandS.DictComp
import HandS.WordsDict
import KE.KDictKeyed
import HandS.Words
import HandS.Conv
import HandS.TupMul
import HandS.Star
import HandS.IsInst
import HandS.Defaults
import HandS.Style
import HandS.SortInts
import KE.GoesMore
import KE.GoesEnum
import HandS.Iter
import HandS.WordsExc
import PySem.Challenge.RW_wokeas_k96_whole_settled_machines_replac
import HandS.MakeKwOnly
import HandS.Head0
import HandS.Head1
import HandS.Head2
import HandS.HeadEnd
import HandS.HeadHook1
import HandS.HeadHook2
section
set_option autoImplicit false
namespace Wk
/-! ### numbers by first places -/
section
variable {κ : Type} [DecidableEq κ]
def firstsA : List κ → List κ → List κ
  | acc, [] => acc
  | acc, k :: r => firstsA (if k ∈ acc then acc else acc ++ [k]) r
def firsts (ks : List κ) : List κ := firstsA [] ks
def numb (ks : List κ) : List Nat := ks.map fun k => (firsts ks).idxOf k

theorem firstsA_mem : ∀ (ks acc : List κ) (x : κ), x ∈ firstsA acc ks ↔ x ∈ acc ∨ x ∈ ks
  | [], acc, x => by simp [firstsA]
  | k :: r, acc, x => by
    rw [firstsA, firstsA_mem r]
    by_cases h : k ∈ acc
    · rw [if_pos h]
      simp only [List.mem_cons]
      constructor
      · rintro (h1 | h1)
        · exact .inl h1
        · exact .inr (.inr h1)
      · rintro (h1 | rfl | h1)
        · exact .inl h1
        · exact .inl h
        · exact .inr h1
    · rw [if_neg h]
      simp only [List.mem_append, List.mem_cons, List.not_mem_nil, or_false]
      constructor
      · rintro ((h1 | h1) | h1)
        · exact .inl h1
        · exact .inr (.inl h1)
        · exact .inr (.inr h1)
      · rintro (h1 | h1 | h1)
        · exact .inl (.inl h1)
        · exact .inl (.inr h1)
        · exact .inr h1
theorem firsts_mem (ks : List κ) (x : κ) : x ∈ firsts ks ↔ x ∈ ks := by
  unfold firsts
  rw [firstsA_mem]
  simp
theorem firstsA_nodup : ∀ (ks acc : List κ), acc.Nodup → (firstsA acc ks).Nodup
  | [], _, h => h
  | k :: r, acc, h => by
    rw [firstsA]
    apply firstsA_nodup r
    by_cases hk : k ∈ acc
    · rw [if_pos hk]
      exact h
    · rw [if_neg hk, List.nodup_append]
      refine ⟨h, by simp, ?_⟩
      intro a ha b hb
      simp only [List.mem_singleton] at hb
      subst hb
      rintro rfl
      exact hk ha
theorem firsts_nodup (ks : List κ) : (firsts ks).Nodup := firstsA_nodup ks [] List.nodup_nil
theorem firstsA_len : ∀ (ks acc : List κ), (firstsA acc ks).length ≤ acc.length + ks.length
  | [], acc => by simp [firstsA]
  | k :: r, acc => by
    rw [firstsA]
    have h := firstsA_len r (if k ∈ acc then acc else acc ++ [k])
    have h2 : (if k ∈ acc then acc else acc ++ [k]).length ≤ acc.length + 1 := by
      split <;> simp
    simp only [List.length_cons]
    omega
theorem firsts_len (ks : List κ) : (firsts ks).length ≤ ks.length := by
  have h := firstsA_len ks []
  simpa [firsts] using h
theorem numb_len (ks : List κ) : (numb ks).length = ks.length := by simp [numb]
theorem numb_at (ks : List κ) {i : Nat} (h : i < ks.length) : (numb ks)[i]'(by rw [numb_len]; exact h) = (firsts ks).idxOf ks[i] := by
  simp [numb]
theorem idxOf_inj {l : List κ} {x y : κ} (hx : x ∈ l) (h : l.idxOf x = l.idxOf y) : x = y := by
  have h1 : l.idxOf x < l.length := List.idxOf_lt_length_iff.mpr hx
  have h2 : l.idxOf y < l.length := by rw [← h]; exact h1
  have e1 := List.getElem_idxOf h1
  have e2 := List.getElem_idxOf h2
  rw [← e1, ← e2]
  simp only [h]
theorem numb_iff (ks : List κ) {i j : Nat} (hi : i < ks.length) (hj : j < ks.length) :
    (numb ks)[i]'(by rw [numb_len]; exact hi) = (numb ks)[j]'(by rw [numb_len]; exact hj) ↔ ks[i] = ks[j] := by
  rw [numb_at ks hi, numb_at ks hj]
  constructor
  · exact idxOf_inj ((firsts_mem ks _).mpr (List.getElem_mem hi))
  · intro h
    rw [h]
theorem numb_lt (ks : List κ) {v : Nat} (h : v ∈ numb ks) : v < (firsts ks).length := by
  unfold numb at h
  obtain ⟨k, hk, rfl⟩ := List.mem_map.mp h
  exact List.idxOf_lt_length_iff.mpr ((firsts_mem ks k).mpr hk)
theorem idxOf_at {l : List κ} (hn : l.Nodup) {i : Nat} (h : i < l.length) : l.idxOf l[i] = i := by
  have h1 : l.idxOf l[i] < l.length := List.idxOf_lt_length_iff.mpr (List.getElem_mem h)
  exact (List.getElem_inj hn).mp (List.getElem_idxOf h1)
theorem numb_all (ks : List κ) {v : Nat} (h : v < (firsts ks).length) : v ∈ numb ks := by
  unfold numb
  exact List.mem_map.mpr ⟨(firsts ks)[v], (firsts_mem ks _).mp (List.getElem_mem h), idxOf_at (firsts_nodup ks) h⟩
end
/-! ### the same kernel, the same numbers -/
section
variable {α β : Type} [DecidableEq α] [DecidableEq β]
theorem firstsA_map (f : α → β) : ∀ (ks acc : List α), (∀ x ∈ acc ++ ks, ∀ y ∈ acc ++ ks, f x = f y → x = y) → firstsA (acc.map f) (ks.map f) = (firstsA acc ks).map f
  | [], _, _ => rfl
  | k :: r, acc, h => by
    rw [List.map_cons, firstsA, firstsA]
    have e : f k ∈ acc.map f ↔ k ∈ acc := by
      constructor
      · intro hk
        obtain ⟨x, hx, e⟩ := List.mem_map.mp hk
        have := h x (by simp [hx]) k (by simp) e
        rw [← this]
        exact hx
      · exact List.mem_map_of_mem
    by_cases hk : k ∈ acc
    · rw [if_pos hk, if_pos (e.mpr hk)]
      exact firstsA_map f r acc fun x hx y hy => h x (by
        rcases List.mem_append.mp hx with q | q
        · simp [q]
        · simp [q]) y (by
        rcases List.mem_append.mp hy with q | q
        · simp [q]
        · simp [q])
    · rw [if_neg hk, if_neg (fun q => hk (e.mp q))]
      have := firstsA_map f r (acc ++ [k]) fun x hx y hy => h x (by simpa using hx) y (by simpa using hy)
      rw [List.map_append] at this
      exact this
theorem idxOf_map (f : α → β) : ∀ (l : List α) (k : α), (∀ x ∈ l, f x = f k → x = k) → (l.map f).idxOf (f k) = l.idxOf k
  | [], _, _ => rfl
  | a :: r, k, h => by
    rw [List.map_cons, List.idxOf_cons, List.idxOf_cons]
    by_cases e : a = k
    · subst e
      simp
    · have e2 : ¬ f a = f k := fun q => e (h a (by simp) q)
      have b1 : (f a == f k) = false := by simp [e2]
      have b2 : (a == k) = false := by simp [e]
      rw [b1, b2]
      simp only [cond_false]
      rw [idxOf_map f r k fun x hx => h x (by simp [hx])]
theorem numb_map (f : α → β) (ks : List α) (h : ∀ x ∈ ks, ∀ y ∈ ks, f x = f y → x = y) : numb (ks.map f) = numb ks := by
  unfold numb
  rw [List.map_map]
  apply List.map_congr_left
  intro k hk
  show (firsts (ks.map f)).idxOf (f k) = (firsts ks).idxOf k
  have e : firsts (ks.map f) = (firsts ks).map f := firstsA_map f ks [] (by simpa using h)
  rw [e]
  exact idxOf_map f _ k fun x hx e => h x ((firsts_mem ks x).mp hx) k hk e
theorem numb_congr {as : List α} {bs : List β} (hl : as.length = bs.length) (h : ∀ (i j : Nat) (hi : i < as.length) (hj : j < as.length), as[i] = as[j] ↔ bs[i] = bs[j]) : numb as = numb bs := by
  have ha : (as.zip bs).map Prod.fst = as := List.map_fst_zip (by omega)
  have hb : (as.zip bs).map Prod.snd = bs := List.map_snd_zip (by omega)
  have k1 : ∀ x ∈ as.zip bs, ∀ y ∈ as.zip bs, (x.1 = y.1 ↔ x.2 = y.2) := by
    intro x hx y hy
    obtain ⟨i, hi, rfl⟩ := List.getElem_of_mem hx
    obtain ⟨j, hj, rfl⟩ := List.getElem_of_mem hy
    have hi2 : i < as.length := by rw [List.length_zip] at hi; omega
    have hj2 : j < as.length := by rw [List.length_zip] at hj; omega
    simp only [List.getElem_zip]
    exact h i j hi2 hj2
  have e1 : numb ((as.zip bs).map Prod.fst) = numb (as.zip bs) := numb_map Prod.fst _ fun x hx y hy e => Prod.ext e ((k1 x hx y hy).mp e)
  have e2 : numb ((as.zip bs).map Prod.snd) = numb (as.zip bs) := numb_map Prod.snd _ fun x hx y hy e => Prod.ext ((k1 x hx y hy).mpr e) e
  rw [ha] at e1
  rw [hb] at e2
  rw [e1, e2]
theorem numb_numb (ks : List α) : numb (numb ks) = numb ks := by
  refine numb_congr (numb_len ks) fun i j hi hj => ?_
  rw [numb_len] at hi hj
  exact numb_iff ks hi hj
end
/-- a list of numbers by first places -/
def Can (L : List Nat) : Prop := numb L = L
theorem Can.lt {L : List Nat} (c : Can L) {v : Nat} : v ∈ L ↔ v < (firsts L).length := by
  constructor
  · intro h
    rw [← c] at h
    exact numb_lt L h
  · intro h
    rw [← c]
    exact numb_all L h
theorem Can.eq {A B : List Nat} (a : Can A) (b : Can B) (hl : A.length = B.length) (h : ∀ (i j : Nat) (_ : i < A.length) (_ : j < A.length), A[i] = A[j] ↔ B[i] = B[j]) : A = B := by
  rw [← a, ← b]
  exact numb_congr hl h
theorem firsts_self {α : Type} [DecidableEq α] (ks : List α) (h : ks ≠ []) : 0 < (firsts ks).length := by
  cases ks with
  | nil => exact absurd rfl h
  | cons a r => exact List.length_pos_of_mem ((firsts_mem (a :: r) a).mpr (by simp))
end Wk
end

section
set_option autoImplicit false
set_option linter.all false
namespace Wk
/-! ### lists without repeats -/
theorem nodup_len_le {α : Type} [DecidableEq α] : ∀ (N M : List α), N.Nodup → (∀ x ∈ N, x ∈ M) → N.length ≤ M.length
  | [], _, _, _ => Nat.zero_le _
  | x :: N, M, hn, hs => by
    obtain ⟨h1, h2⟩ := List.nodup_cons.mp hn
    have hx : x ∈ M := hs x List.mem_cons_self
    have ih := nodup_len_le N (M.erase x) h2 fun y hy => by
      have hne : y ≠ x := fun e => h1 (e ▸ hy)
      exact (List.mem_erase_of_ne hne).2 (hs y (List.mem_cons_of_mem _ hy))
    have e := List.length_erase_of_mem hx
    have hp : 0 < M.length := List.length_pos_of_mem hx
    rw [List.length_cons]
    omega
theorem nodup_of_len {α : Type} [DecidableEq α] : ∀ (N M : List α), N.Nodup → (∀ x ∈ N, x ∈ M) → M.length ≤ N.length → M.Nodup
  | [], M, _, _, hl => by
    have : M = [] := List.eq_nil_of_length_eq_zero (by simpa using hl)
    subst this
    exact List.nodup_nil
  | x :: N, M, hn, hs, hl => by
    obtain ⟨h1, h2⟩ := List.nodup_cons.mp hn
    have hx : x ∈ M := hs x List.mem_cons_self
    have e := List.length_erase_of_mem hx
    have hp : 0 < M.length := List.length_pos_of_mem hx
    have sub : ∀ y ∈ N, y ∈ M.erase x := fun y hy => by
      have hne : y ≠ x := fun e => h1 (e ▸ hy)
      exact (List.mem_erase_of_ne hne).2 (hs y (List.mem_cons_of_mem _ hy))
    have hl2 : (M.erase x).length ≤ N.length := by
      rw [List.length_cons] at hl
      omega
    have ih := nodup_of_len N (M.erase x) h2 sub hl2
    have hx2 : x ∉ M.erase x := fun q => by
      have := nodup_len_le (x :: N) (M.erase x) hn fun y hy => by
        rcases List.mem_cons.mp hy with rfl | hy
        · exact q
        · exact sub y hy
      rw [List.length_cons] at this
      omega
    exact (List.perm_cons_erase hx).nodup_iff.mpr (List.nodup_cons.mpr ⟨hx2, ih⟩)
/-- finer lists of numbers have more of them -/
theorem firsts_le {A B : List Nat} (hl : A.length = B.length) (h : ∀ (i j : Nat) (_ : i < A.length) (_ : j < A.length), B[i] = B[j] → A[i] = A[j]) :
    (firsts A).length ≤ (firsts B).length ∧ ((firsts B).length ≤ (firsts A).length → ∀ (i j : Nat) (_ : i < A.length) (_ : j < A.length), A[i] = A[j] → B[i] = B[j]) := by
  let g : Nat → Nat := fun v => A.getD (B.idxOf v) 0
  have gB : ∀ (i : Nat) (hi : i < A.length), g (B[i]'(by omega)) = A[i] := fun i hi => by
    have hb : B[i]'(by omega) ∈ B := List.getElem_mem _
    have h1 : B.idxOf (B[i]'(by omega)) < B.length := List.idxOf_lt_length_iff.mpr hb
    have e1 := List.getElem_idxOf h1
    show A.getD (B.idxOf (B[i]'(by omega))) 0 = A[i]
    rw [List.getD_eq_getElem?_getD, List.getElem?_eq_getElem (by omega)]
    exact h _ _ (by omega) hi e1
  have sub : ∀ x ∈ firsts A, x ∈ (firsts B).map g := fun x hx => by
    obtain ⟨i, hi, rfl⟩ := List.getElem_of_mem ((firsts_mem A x).mp hx)
    exact List.mem_map.mpr ⟨B[i]'(by omega), (firsts_mem B _).mpr (List.getElem_mem _), gB i hi⟩
  constructor
  · have := nodup_len_le (firsts A) ((firsts B).map g) (firsts_nodup A) sub
    rwa [List.length_map] at this
  · intro hle i j hi hj e
    have hn : ((firsts B).map g).Nodup := nodup_of_len (firsts A) _ (firsts_nodup A) sub (by rw [List.length_map]; exact hle)
    have m1 : B[i]'(by omega) ∈ firsts B := (firsts_mem B _).mpr (List.getElem_mem _)
    have m2 : B[j]'(by omega) ∈ firsts B := (firsts_mem B _).mpr (List.getElem_mem _)
    obtain ⟨a, ha, ea⟩ := List.getElem_of_mem m1
    obtain ⟨b, hb, eb⟩ := List.getElem_of_mem m2
    have e2 : ((firsts B).map g)[a]'(by rw [List.length_map]; exact ha) = ((firsts B).map g)[b]'(by rw [List.length_map]; exact hb) := by
      rw [List.getElem_map, List.getElem_map, ea, eb, gB i hi, gB j hj, e]
    have := (List.getElem_inj hn).mp e2
    subst this
    rw [← ea, ← eb]

/-! ### machines -/
abbrev Mc := List (List (Nat × Nat))
def row (m : Mc) (s : Nat) : List (Nat × Nat) := m.getD s []
def nx (m : Mc) (s x : Nat) : Nat := ((row m s).getD x (0, 0)).1
def an (m : Mc) (s x : Nat) : Nat := ((row m s).getD x (0, 0)).2
structure Ok (m : Mc) (w : Nat) : Prop where
  ne : 0 < m.length
  wp : 0 < w
  wid : ∀ r ∈ m, r.length = w
  nxt : ∀ r ∈ m, ∀ p ∈ r, p.1 < m.length
  small : m.length ≤ 5
  wsmall : w ≤ 4
theorem row_at {m : Mc} {s : Nat} (h : s < m.length) : row m s = m[s] := by
  simp [row, List.getD_eq_getElem?_getD, List.getElem?_eq_getElem h]
theorem row_mem {m : Mc} {s : Nat} (h : s < m.length) : row m s ∈ m := by
  rw [row_at h]
  exact List.getElem_mem h
section
variable {m : Mc} {w : Nat}
theorem Ok.row_len (o : Ok m w) {s : Nat} (h : s < m.length) : (row m s).length = w := o.wid _ (row_mem h)
theorem Ok.pair (o : Ok m w) {s x : Nat} (h : s < m.length) (hx : x < w) : (row m s)[x]'(by rw [o.row_len h]; exact hx) = (nx m s x, an m s x) := by
  have hl : x < (row m s).length := by rw [o.row_len h]; exact hx
  simp [nx, an, List.getD_eq_getElem?_getD, List.getElem?_eq_getElem hl]
theorem Ok.nx_lt (o : Ok m w) {s x : Nat} (h : s < m.length) (hx : x < w) : nx m s x < m.length := by
  have e := o.pair h hx
  have hm : (row m s)[x]'(by rw [o.row_len h]; exact hx) ∈ row m s := List.getElem_mem _
  have := o.nxt _ (row_mem h) _ hm
  rw [e] at this
  exact this
theorem Ok.row_eq (o : Ok m w) {s : Nat} (h : s < m.length) : row m s = (List.range w).map fun x => (nx m s x, an m s x) := by
  apply List.ext_getElem
  · simp [o.row_len h]
  · intro x h1 h2
    rw [List.getElem_map, List.getElem_range]
    exact o.pair h (by rw [o.row_len h] at h1; exact h1)
theorem Ok.mem_row (o : Ok m w) {s : Nat} (h : s < m.length) {p : Nat × Nat} : p ∈ row m s ↔ ∃ x, x < w ∧ p = (nx m s x, an m s x) := by
  rw [o.row_eq h]
  simp only [List.mem_map, List.mem_range]
  constructor
  · rintro ⟨x, hx, rfl⟩
    exact ⟨x, hx, rfl⟩
  · rintro ⟨x, hx, rfl⟩
    exact ⟨x, hx, rfl⟩
end
/-- the answers of a row, where it ends -/
def outs (m : Mc) : Nat → List Nat → List Nat
  | _, [] => []
  | s, x :: r => an m s x :: outs m (nx m s x) r
def ends (m : Mc) : Nat → List Nat → Nat
  | s, [] => s
  | s, x :: r => ends m (nx m s x) r
def Lets (w : Nat) (r : List Nat) : Prop := ∀ x ∈ r, x < w
theorem Lets.cons {w x : Nat} {r : List Nat} : Lets w (x :: r) ↔ x < w ∧ Lets w r := by simp [Lets]
theorem Lets.nil {w : Nat} : Lets w [] := fun _ h => by simp at h
theorem Lets.app {w : Nat} {r q : List Nat} (a : Lets w r) (b : Lets w q) : Lets w (r ++ q) := fun x hx => by
  rcases List.mem_append.mp hx with h | h
  · exact a x h
  · exact b x h
theorem ends_lt {m : Mc} {w : Nat} (o : Ok m w) : ∀ (r : List Nat) (s : Nat), s < m.length → Lets w r → ends m s r < m.length
  | [], _, h, _ => h
  | x :: r, s, h, l => ends_lt o r _ (o.nx_lt h (Lets.cons.mp l).1) (Lets.cons.mp l).2
theorem outs_len (m : Mc) : ∀ (r : List Nat) (s : Nat), (outs m s r).length = r.length
  | [], _ => rfl
  | x :: r, s => by simp [outs, outs_len m r]
theorem outs_app (m : Mc) : ∀ (r q : List Nat) (s : Nat), outs m s (r ++ q) = outs m s r ++ outs m (ends m s r) q
  | [], _, _ => rfl
  | x :: r, q, s => by simp [outs, ends, outs_app m r q]
theorem ends_app (m : Mc) : ∀ (r q : List Nat) (s : Nat), ends m s (r ++ q) = ends m (ends m s r) q
  | [], _, _ => rfl
  | x :: r, q, s => by simp [ends, ends_app m r q]
/-- two standings are alike -/
def Alike (w : Nat) (m : Mc) (s : Nat) (m' : Mc) (t : Nat) : Prop := ∀ r, Lets w r → outs m s r = outs m' t r
theorem Alike.refl {w : Nat} {m : Mc} {s : Nat} : Alike w m s m s := fun _ _ => rfl
theorem Alike.symm {w : Nat} {m m' : Mc} {s t : Nat} (h : Alike w m s m' t) : Alike w m' t m s := fun r l => (h r l).symm
theorem Alike.trans {w : Nat} {m m' m'' : Mc} {s t u : Nat} (h : Alike w m s m' t) (g : Alike w m' t m'' u) : Alike w m s m'' u := fun r l => (h r l).trans (g r l)
theorem Alike.an {w : Nat} {m m' : Mc} {s t x : Nat} (h : Alike w m s m' t) (hx : x < w) : an m s x = an m' t x := by
  have := h [x] (Lets.cons.mpr ⟨hx, Lets.nil⟩)
  simpa [outs] using this
theorem Alike.nx {w : Nat} {m m' : Mc} {s t x : Nat} (h : Alike w m s m' t) (hx : x < w) : Alike w m (nx m s x) m' (nx m' t x) := fun r l => by
  have := h (x :: r) (Lets.cons.mpr ⟨hx, l⟩)
  simp only [outs, List.cons.injEq] at this
  exact this.2
theorem alike_ends {w : Nat} {m m' : Mc} : ∀ (r : List Nat) (s t : Nat), Alike w m s m' t → Lets w r → Alike w m (ends m s r) m' (ends m' t r)
  | [], _, _, h, _ => h
  | _ :: r, _, _, h, l => alike_ends r _ _ (h.nx (Lets.cons.mp l).1) (Lets.cons.mp l).2
/-! ### classes: the law's labels -/
def keysL (m : Mc) (L : List Nat) : List (Nat × List (Nat × Nat)) := (List.range m.length).map fun s => (L.getD s 0, (row m s).map fun p => (L.getD p.1 0, p.2))
def stepL (m : Mc) (L : List Nat) : List Nat := numb (keysL m L)
def iter {α : Type} (f : α → α) : Nat → α → α
  | 0, a => a
  | k + 1, a => f (iter f k a)
def cls (m : Mc) : List Nat := iter (stepL m) (m.length + 1) (List.replicate m.length 0)
theorem stepL_len (m : Mc) (L : List Nat) : (stepL m L).length = m.length := by simp [stepL, numb_len, keysL]
theorem can_stepL (m : Mc) (L : List Nat) : Can (stepL m L) := numb_numb _
section
variable {m : Mc} {w : Nat}
theorem getD_at {α : Type} {l : List α} {d : α} {i : Nat} (h : i < l.length) : l.getD i d = l[i] := by
  simp [List.getD_eq_getElem?_getD, List.getElem?_eq_getElem h]
theorem rowmap_eq {α : Type} {m' : Mc} (o : Ok m w) (o' : Ok m' w) {s t : Nat} (hs : s < m.length) (ht : t < m'.length) (f g : Nat × Nat → α) :
    (row m s).map f = (row m' t).map g ↔ ∀ x, x < w → f (nx m s x, an m s x) = g (nx m' t x, an m' t x) := by
  rw [o.row_eq hs, o'.row_eq ht, List.map_map, List.map_map]
  constructor
  · intro h x hx
    have := List.map_inj_left.mp h x (List.mem_range.mpr hx)
    exact this
  · intro h
    exact List.map_congr_left fun x hx => h x (List.mem_range.mp hx)
theorem stepL_iff (o : Ok m w) (L : List Nat) {i j : Nat} (hi : i < m.length) (hj : j < m.length) :
    (stepL m L).getD i 0 = (stepL m L).getD j 0 ↔ L.getD i 0 = L.getD j 0 ∧ ∀ x, x < w → an m i x = an m j x ∧ L.getD (nx m i x) 0 = L.getD (nx m j x) 0 := by
  have hk : (keysL m L).length = m.length := by simp [keysL]
  rw [getD_at (by rw [stepL_len]; exact hi), getD_at (by rw [stepL_len]; exact hj)]
  unfold stepL
  rw [numb_iff (keysL m L) (by omega) (by omega)]
  simp only [keysL, List.getElem_map, List.getElem_range, Prod.mk.injEq]
  rw [rowmap_eq o o hi hj]
  simp only [Prod.mk.injEq]
  constructor
  · rintro ⟨a, b⟩
    exact ⟨a, fun x hx => ⟨(b x hx).2, (b x hx).1⟩⟩
  · rintro ⟨a, b⟩
    exact ⟨a, fun x hx => ⟨(b x hx).2, (b x hx).1⟩⟩
/-- alike standings have the same label, however often one steps -/
theorem alike_step (o : Ok m w) {L : List Nat} (h : ∀ i j, i < m.length → j < m.length → Alike w m i m j → L.getD i 0 = L.getD j 0) :
    ∀ i j, i < m.length → j < m.length → Alike w m i m j → (stepL m L).getD i 0 = (stepL m L).getD j 0 := fun i j hi hj a =>
  (stepL_iff o L hi hj).mpr ⟨h i j hi hj a, fun x hx => ⟨a.an hx, h _ _ (o.nx_lt hi hx) (o.nx_lt hj hx) (a.nx hx)⟩⟩
/-- labels that stay tell alike standings -/
theorem alike_of_same (o : Ok m w) {L : List Nat} (h : ∀ i j, i < m.length → j < m.length → L.getD i 0 = L.getD j 0 → ∀ x, x < w → an m i x = an m j x ∧ L.getD (nx m i x) 0 = L.getD (nx m j x) 0) :
    ∀ (r : List Nat) (i j : Nat), i < m.length → j < m.length → L.getD i 0 = L.getD j 0 → Lets w r → outs m i r = outs m j r
  | [], _, _, _, _, _, _ => rfl
  | x :: r, i, j, hi, hj, e, l => by
    obtain ⟨hx, lr⟩ := Lets.cons.mp l
    obtain ⟨e1, e2⟩ := h i j hi hj e x hx
    rw [outs, outs, e1, alike_of_same o h r _ _ (o.nx_lt hi hx) (o.nx_lt hj hx) e2 lr]
theorem can_zeros (n : Nat) (hn : 0 < n) : Can (List.replicate n 0) := by
  unfold Can
  apply List.ext_getElem
  · simp [numb_len]
  · intro i h1 h2
    rw [List.getElem_replicate]
    have h3 : i < (List.replicate n 0).length := h2
    have h4 : i < n := by simpa using h2
    have e := (numb_iff (List.replicate n 0) (i := i) (j := 0) h3 (by simpa using hn)).mpr (by simp)
    rw [e]
    cases n with
    | zero => omega
    | succ k =>
      simp only [List.replicate_succ]
      rw [numb_at (0 :: List.replicate k 0) (i := 0) (by simp)]
      simp only [List.getElem_cons_zero]
      have : firsts (0 :: List.replicate k 0) = [0] := by
        have hz : ∀ k, firstsA [0] (List.replicate k 0) = [0] := by
          intro k
          induction k with
          | zero => rfl
          | succ k ih =>
            rw [List.replicate_succ, firstsA]
            simpa using ih
        unfold firsts
        rw [firstsA]
        simpa using hz k
      rw [this]
      rfl
/-- one step keeps, or there are more labels -/
theorem step_grows (o : Ok m w) {L : List Nat} (hl : L.length = m.length) (c : Can L) : stepL m L = L ∨ (firsts L).length < (firsts (stepL m L)).length := by
  have h1 : ∀ (i j : Nat) (hi : i < L.length) (hj : j < L.length), (stepL m L)[i]'(by rw [stepL_len]; omega) = (stepL m L)[j]'(by rw [stepL_len]; omega) → L[i] = L[j] := fun i j hi hj e => by
    have := (stepL_iff o L (i := i) (j := j) (by omega) (by omega)).mp (by rw [getD_at (by rw [stepL_len]; omega), getD_at (by rw [stepL_len]; omega)]; exact e)
    rw [getD_at hi, getD_at hj] at this
    exact this.1
  obtain ⟨f1, f2⟩ := firsts_le (A := L) (B := stepL m L) (by rw [stepL_len]; exact hl) h1
  rcases Nat.lt_or_ge (firsts L).length (firsts (stepL m L)).length with h | h
  · exact .inr h
  · refine .inl (Can.eq (can_stepL m L) c (by rw [stepL_len, hl]) fun i j hi hj => ?_)
    rw [stepL_len] at hi hj
    exact ⟨h1 i j (by omega) (by omega), f2 h i j (by omega) (by omega)⟩
theorem iter_len (m : Mc) : ∀ k, (iter (stepL m) k (List.replicate m.length 0)).length = m.length
  | 0 => by simp [iter]
  | k + 1 => stepL_len _ _
theorem iter_can (o : Ok m w) : ∀ k, Can (iter (stepL m) k (List.replicate m.length 0))
  | 0 => can_zeros _ o.ne
  | k + 1 => can_stepL _ _
theorem iter_stable (o : Ok m w) : ∀ k, stepL m (iter (stepL m) k (List.replicate m.length 0)) = iter (stepL m) k (List.replicate m.length 0) ∨ k + 1 ≤ (firsts (iter (stepL m) k (List.replicate m.length 0))).length
  | 0 => .inr (firsts_self _ (by
    have h0 := o.ne
    intro e
    have e2 : m.length = 0 := by
      rw [← iter_len m 0, e]
      rfl
    omega))
  | k + 1 => by
    rcases iter_stable o k with h | h
    · refine .inl ?_
      rw [iter, h, h]
    · rcases step_grows o (iter_len m k) (iter_can o k) with g | g
      · refine .inl ?_
        rw [iter, g, g]
      · refine .inr ?_
        rw [iter]
        omega
theorem cls_len (m : Mc) : (cls m).length = m.length := iter_len m _
theorem cls_can (o : Ok m w) : Can (cls m) := iter_can o _
theorem cls_stable (o : Ok m w) : stepL m (cls m) = cls m := by
  rcases iter_stable o (m.length + 1) with h | h
  · exact h
  · have := firsts_len (iter (stepL m) (m.length + 1) (List.replicate m.length 0))
    rw [iter_len] at this
    omega
theorem cls_step (o : Ok m w) {i j : Nat} (hi : i < m.length) (hj : j < m.length) (e : (cls m).getD i 0 = (cls m).getD j 0) : ∀ x, x < w → an m i x = an m j x ∧ (cls m).getD (nx m i x) 0 = (cls m).getD (nx m j x) 0 := by
  rw [← cls_stable o] at e
  exact ((stepL_iff o (cls m) hi hj).mp e).2
theorem cls_iff (o : Ok m w) {i j : Nat} (hi : i < m.length) (hj : j < m.length) : (cls m).getD i 0 = (cls m).getD j 0 ↔ Alike w m i m j := by
  constructor
  · intro e r l
    exact alike_of_same o (fun i j hi hj e => cls_step o hi hj e) r i j hi hj e l
  · intro a
    have : ∀ k, ∀ i j, i < m.length → j < m.length → Alike w m i m j → (iter (stepL m) k (List.replicate m.length 0)).getD i 0 = (iter (stepL m) k (List.replicate m.length 0)).getD j 0 := by
      intro k
      induction k with
      | zero =>
        intro i j hi hj _
        rw [iter, getD_at (by simpa using hi), getD_at (by simpa using hj)]
        simp
      | succ k ih => exact alike_step o ih
    exact this _ i j hi hj a
/-! ### the program's marks -/
def keysP (m : Mc) (L : List Nat) : List (Nat × List Nat) := (List.range m.length).map fun s => (L.getD s 0, (row m s).map fun p => L.getD p.1 0)
def stepP (m : Mc) (L : List Nat) : List Nat := numb (keysP m L)
def marks0 (m : Mc) : List Nat := numb (m.map fun r => r.map fun p => p.2)
structure MInv (m : Mc) (w : Nat) (L : List Nat) : Prop where
  len : L.length = m.length
  can : Can L
  al : ∀ i j, i < m.length → j < m.length → Alike w m i m j → L.getD i 0 = L.getD j 0
  ans : ∀ i j, i < m.length → j < m.length → L.getD i 0 = L.getD j 0 → ∀ x, x < w → an m i x = an m j x
theorem marks0_inv (o : Ok m w) : MInv m w (marks0 m) := by
  have hl : (marks0 m).length = m.length := by simp [marks0, numb_len]
  have key : ∀ i j, i < m.length → j < m.length → ((marks0 m).getD i 0 = (marks0 m).getD j 0 ↔ ∀ x, x < w → an m i x = an m j x) := by
    intro i j hi hj
    rw [getD_at (by omega), getD_at (by omega)]
    unfold marks0
    rw [numb_iff _ (by simpa using hi) (by simpa using hj), List.getElem_map, List.getElem_map, ← row_at hi, ← row_at hj, rowmap_eq o o hi hj]
  exact ⟨hl, numb_numb _, fun i j hi hj a => (key i j hi hj).mpr fun x hx => a.an hx, fun i j hi hj e => (key i j hi hj).mp e⟩
theorem stepP_len (m : Mc) (L : List Nat) : (stepP m L).length = m.length := by simp [stepP, numb_len, keysP]
theorem stepP_iff (o : Ok m w) (L : List Nat) {i j : Nat} (hi : i < m.length) (hj : j < m.length) :
    (stepP m L).getD i 0 = (stepP m L).getD j 0 ↔ L.getD i 0 = L.getD j 0 ∧ ∀ x, x < w → L.getD (nx m i x) 0 = L.getD (nx m j x) 0 := by
  have hk : (keysP m L).length = m.length := by simp [keysP]
  rw [getD_at (by rw [stepP_len]; exact hi), getD_at (by rw [stepP_len]; exact hj)]
  unfold stepP
  rw [numb_iff (keysP m L) (by omega) (by omega)]
  simp only [keysP, List.getElem_map, List.getElem_range, Prod.mk.injEq]
  rw [rowmap_eq o o hi hj]
theorem MInv.step (o : Ok m w) {L : List Nat} (h : MInv m w L) : MInv m w (stepP m L) :=
  ⟨stepP_len m L, numb_numb _, fun i j hi hj a => (stepP_iff o L hi hj).mpr ⟨h.al i j hi hj a, fun x hx => h.al _ _ (o.nx_lt hi hx) (o.nx_lt hj hx) (a.nx hx)⟩,
    fun i j hi hj e => h.ans i j hi hj ((stepP_iff o L hi hj).mp e).1⟩
theorem MInv.grows (o : Ok m w) {L : List Nat} (h : MInv m w L) : stepP m L = L ∨ (firsts L).length < (firsts (stepP m L)).length := by
  have hl := h.len
  have h1 : ∀ (i j : Nat) (hi : i < L.length) (hj : j < L.length), (stepP m L)[i]'(by rw [stepP_len]; omega) = (stepP m L)[j]'(by rw [stepP_len]; omega) → L[i] = L[j] := fun i j hi hj e => by
    have := (stepP_iff o L (i := i) (j := j) (by omega) (by omega)).mp (by rw [getD_at (by rw [stepP_len]; omega), getD_at (by rw [stepP_len]; omega)]; exact e)
    rw [getD_at hi, getD_at hj] at this
    exact this.1
  obtain ⟨f1, f2⟩ := firsts_le (A := L) (B := stepP m L) (by rw [stepP_len]; exact hl) h1
  rcases Nat.lt_or_ge (firsts L).length (firsts (stepP m L)).length with g | g
  · exact .inr g
  · refine .inl (Can.eq (numb_numb _) h.can (by rw [stepP_len, hl]) fun i j hi hj => ?_)
    rw [stepP_len] at hi hj
    exact ⟨h1 i j (by omega) (by omega), f2 g i j (by omega) (by omega)⟩
theorem MInv.few {L : List Nat} (h : MInv m w L) : (firsts L).length ≤ m.length := by
  rw [← h.len]
  exact firsts_len L
theorem MInv.done (o : Ok m w) {L : List Nat} (h : MInv m w L) (e : stepP m L = L) : L = cls m := by
  refine Can.eq h.can (cls_can o) (by rw [h.len, cls_len]) fun i j hi hj => ?_
  have hi2 : i < m.length := by rw [← h.len]; exact hi
  have hj2 : j < m.length := by rw [← h.len]; exact hj
  rw [← getD_at (d := 0) hi, ← getD_at (d := 0) hj, ← getD_at (d := 0) (l := cls m) (by rw [cls_len]; exact hi2), ← getD_at (d := 0) (l := cls m) (by rw [cls_len]; exact hj2), cls_iff o hi2 hj2]
  constructor
  · intro q r l
    refine alike_of_same o (fun i j hi hj q x hx => ⟨h.ans i j hi hj q x hx, ?_⟩) r i j hi2 hj2 q l
    rw [← e] at q
    exact ((stepP_iff o L hi hj).mp q).2 x hx
  · exact h.al i j hi2 hj2
end
end Wk
end

section
set_option autoImplicit false
set_option linter.all false
namespace Wk
/-! ### merged machines -/
def nC (L : List Nat) : Nat := (firsts L).length
def cl (m : Mc) (s : Nat) : Nat := (cls m).getD s 0
def mg (m : Mc) : Mc := (List.range (nC (cls m))).map fun k => (row m ((cls m).idxOf k)).map fun p => (cl m p.1, p.2)
section
variable {m : Mc} {w : Nat}
theorem mg_len (m : Mc) : (mg m).length = nC (cls m) := by simp [mg]
theorem cl_mem (m : Mc) {s : Nat} (h : s < m.length) : cl m s ∈ cls m := by
  unfold cl
  rw [getD_at (by rw [cls_len]; exact h)]
  exact List.getElem_mem _
theorem cl_lt (o : Ok m w) {s : Nat} (h : s < m.length) : cl m s < (mg m).length := by
  rw [mg_len]
  exact (cls_can o).lt.mp (cl_mem m h)
theorem head_of (o : Ok m w) {k : Nat} (h : k < (mg m).length) : (cls m).idxOf k < m.length ∧ cl m ((cls m).idxOf k) = k := by
  rw [mg_len] at h
  have hm : k ∈ cls m := (cls_can o).lt.mpr h
  have hl : (cls m).idxOf k < (cls m).length := List.idxOf_lt_length_iff.mpr hm
  refine ⟨by rw [← cls_len m]; exact hl, ?_⟩
  unfold cl
  rw [getD_at hl]
  exact List.getElem_idxOf hl
theorem cl_onto (o : Ok m w) {k : Nat} (h : k < (mg m).length) : ∃ s, s < m.length ∧ cl m s = k := ⟨_, head_of o h⟩
theorem row_mg (o : Ok m w) {k : Nat} (h : k < (mg m).length) : row (mg m) k = (row m ((cls m).idxOf k)).map fun p => (cl m p.1, p.2) := by
  rw [row_at h]
  simp [mg]
theorem mg_pos (o : Ok m w) : 0 < (mg m).length := Nat.lt_of_le_of_lt (Nat.zero_le _) (cl_lt o o.ne)
theorem mg_le (o : Ok m w) : (mg m).length ≤ m.length := by
  rw [mg_len, ← cls_len m]
  exact firsts_len _
theorem mg_ok (o : Ok m w) : Ok (mg m) w := by
  refine ⟨mg_pos o, o.wp, fun r hr => ?_, fun r hr p hp => ?_, Nat.le_trans (mg_le o) o.small, o.wsmall⟩
  · obtain ⟨k, hk, rfl⟩ := List.getElem_of_mem hr
    rw [← row_at hk, row_mg o hk, List.length_map, o.row_len (head_of o hk).1]
  · obtain ⟨k, hk, rfl⟩ := List.getElem_of_mem hr
    rw [← row_at hk, row_mg o hk] at hp
    obtain ⟨q, hq, rfl⟩ := List.mem_map.mp hp
    exact cl_lt o (o.nxt _ (row_mem (head_of o hk).1) q hq)
theorem cl_eq (o : Ok m w) {s t : Nat} (hs : s < m.length) (ht : t < m.length) : cl m s = cl m t ↔ Alike w m s m t := cls_iff o hs ht
theorem step_mg (o : Ok m w) {s x : Nat} (hs : s < m.length) (hx : x < w) : nx (mg m) (cl m s) x = cl m (nx m s x) ∧ an (mg m) (cl m s) x = an m s x := by
  have hk := cl_lt o hs
  obtain ⟨h1, h2⟩ := head_of o hk
  have a : Alike w m ((cls m).idxOf (cl m s)) m s := (cl_eq o h1 hs).mp h2
  have e : (row (mg m) (cl m s)).getD x (0, 0) = (cl m (nx m ((cls m).idxOf (cl m s)) x), an m ((cls m).idxOf (cl m s)) x) := by
    have hl : x < (row m ((cls m).idxOf (cl m s))).length := by rw [o.row_len h1]; exact hx
    rw [row_mg o hk, getD_at (by rw [List.length_map]; exact hl), List.getElem_map, o.pair h1 hx]
  refine ⟨?_, ?_⟩
  · show ((row (mg m) (cl m s)).getD x (0, 0)).1 = _
    rw [e]
    exact (cl_eq o (o.nx_lt h1 hx) (o.nx_lt hs hx)).mpr (a.nx hx)
  · show ((row (mg m) (cl m s)).getD x (0, 0)).2 = _
    rw [e]
    exact a.an hx
theorem outs_mg (o : Ok m w) : ∀ (r : List Nat) (s : Nat), s < m.length → Lets w r → outs (mg m) (cl m s) r = outs m s r ∧ ends (mg m) (cl m s) r = cl m (ends m s r)
  | [], _, _, _ => ⟨rfl, rfl⟩
  | x :: r, s, h, l => by
    obtain ⟨hx, lr⟩ := Lets.cons.mp l
    obtain ⟨e1, e2⟩ := step_mg o h hx
    obtain ⟨i1, i2⟩ := outs_mg o r (nx m s x) (o.nx_lt h hx) lr
    rw [outs, outs, ends, ends, e1, e2, i1, i2]
    exact ⟨rfl, rfl⟩
theorem alike_mg (o : Ok m w) {s : Nat} (h : s < m.length) : Alike w (mg m) (cl m s) m s := fun r l => (outs_mg o r s h l).1
/-- no two standings are alike -/
def Red (w : Nat) (p : Mc) : Prop := ∀ a b, a < p.length → b < p.length → Alike w p a p b → a = b
theorem mg_red (o : Ok m w) : Red w (mg m) := fun a b ha hb al => by
  obtain ⟨s, hs, rfl⟩ := cl_onto o ha
  obtain ⟨t, ht, rfl⟩ := cl_onto o hb
  exact (cl_eq o hs ht).mpr ((alike_mg o hs).symm.trans (al.trans (alike_mg o ht)))
end
/-! ### what comes from a standing, in the order of its numbers -/
def pushAll : List Nat → List (Nat × Nat) → List Nat
  | o, [] => o
  | o, p :: r => pushAll (if p.1 ∈ o then o else o ++ [p.1]) r
def ordK (p : Mc) (s : Nat) : Nat → List Nat
  | 0 => [s]
  | k + 1 => if k < (ordK p s k).length then pushAll (ordK p s k) (row p ((ordK p s k).getD k 0)) else ordK p s k
def ord (p : Mc) (s : Nat) : List Nat := ordK p s p.length
theorem pushAll_mem : ∀ (r : List (Nat × Nat)) (o : List Nat) (t : Nat), t ∈ pushAll o r ↔ t ∈ o ∨ ∃ q ∈ r, q.1 = t
  | [], o, t => by simp [pushAll]
  | q :: r, o, t => by
    rw [pushAll, pushAll_mem r]
    by_cases h : q.1 ∈ o
    · rw [if_pos h]
      constructor
      · rintro (h1 | ⟨q', h1, h2⟩)
        · exact .inl h1
        · exact .inr ⟨q', by simp [h1], h2⟩
      · rintro (h1 | ⟨q', h1, h2⟩)
        · exact .inl h1
        · rcases List.mem_cons.mp h1 with rfl | h1
          · exact .inl (h2 ▸ h)
          · exact .inr ⟨q', h1, h2⟩
    · rw [if_neg h]
      simp only [List.mem_append, List.mem_singleton]
      constructor
      · rintro ((h1 | h1) | ⟨q', h1, h2⟩)
        · exact .inl h1
        · exact .inr ⟨q, by simp, h1.symm⟩
        · exact .inr ⟨q', by simp [h1], h2⟩
      · rintro (h1 | ⟨q', h1, h2⟩)
        · exact .inl (.inl h1)
        · rcases List.mem_cons.mp h1 with rfl | h1
          · exact .inl (.inr h2.symm)
          · exact .inr ⟨q', h1, h2⟩
theorem pushAll_nodup : ∀ (r : List (Nat × Nat)) (o : List Nat), o.Nodup → (pushAll o r).Nodup
  | [], _, h => h
  | q :: r, o, h => by
    rw [pushAll]
    apply pushAll_nodup r
    by_cases hq : q.1 ∈ o
    · rw [if_pos hq]
      exact h
    · rw [if_neg hq, List.nodup_append]
      refine ⟨h, by simp, ?_⟩
      intro a ha b hb
      simp only [List.mem_singleton] at hb
      subst hb
      rintro rfl
      exact hq ha
theorem pushAll_pre : ∀ (r : List (Nat × Nat)) (o : List Nat), ∃ e, pushAll o r = o ++ e
  | [], o => ⟨[], by simp [pushAll]⟩
  | q :: r, o => by
    rw [pushAll]
    obtain ⟨e, he⟩ := pushAll_pre r (if q.1 ∈ o then o else o ++ [q.1])
    by_cases hq : q.1 ∈ o
    · rw [if_pos hq] at he ⊢
      exact ⟨e, he⟩
    · rw [if_neg hq] at he ⊢
      exact ⟨q.1 :: e, by rw [he]; simp⟩
theorem ordK_pre (p : Mc) (s k : Nat) : ∃ e, ordK p s (k + 1) = ordK p s k ++ e := by
  rw [ordK]
  split
  · exact pushAll_pre _ _
  · exact ⟨[], by simp⟩
theorem ordK_nodup (p : Mc) (s : Nat) : ∀ k, (ordK p s k).Nodup
  | 0 => by simp [ordK]
  | k + 1 => by
    rw [ordK]
    split
    · exact pushAll_nodup _ _ (ordK_nodup p s k)
    · exact ordK_nodup p s k
theorem ordK_pos (p : Mc) (s : Nat) : ∀ k, 0 < (ordK p s k).length
  | 0 => by simp [ordK]
  | k + 1 => by
    obtain ⟨e, he⟩ := ordK_pre p s k
    rw [he, List.length_append]
    have := ordK_pos p s k
    omega
theorem ordK_zero (p : Mc) (s : Nat) : ∀ k, (ordK p s k)[0]? = some s
  | 0 => by simp [ordK]
  | k + 1 => by
    obtain ⟨e, he⟩ := ordK_pre p s k
    rw [he, List.getElem?_append_left (ordK_pos p s k)]
    exact ordK_zero p s k
theorem ordK_stay (p : Mc) (s : Nat) {k : Nat} (h : (ordK p s k).length ≤ k) : ∀ j, k ≤ j → ordK p s j = ordK p s k := by
  intro j hj
  induction j with
  | zero =>
    have : k = 0 := by omega
    subst this
    rfl
  | succ j ih =>
    by_cases e : k = j + 1
    · rw [e]
    · have e1 := ih (by omega)
      rw [ordK, e1, if_neg (by omega)]
section
variable {p : Mc} {w : Nat}
theorem ordK_lt (o : Ok p w) {s : Nat} (hs : s < p.length) : ∀ k, ∀ t ∈ ordK p s k, t < p.length
  | 0 => fun t ht => by
    simp only [ordK, List.mem_singleton] at ht
    subst ht
    exact hs
  | k + 1 => fun t ht => by
    rw [ordK] at ht
    split at ht
    · rename_i hk
      rcases (pushAll_mem _ _ t).mp ht with h | ⟨q, hq, rfl⟩
      · exact ordK_lt o hs k t h
      · have h1 : (ordK p s k).getD k 0 < p.length := by
          rw [getD_at hk]
          exact ordK_lt o hs k _ (List.getElem_mem hk)
        exact o.nxt _ (row_mem h1) q hq
    · exact ordK_lt o hs k t ht
theorem ordK_len (o : Ok p w) {s : Nat} (hs : s < p.length) (k : Nat) : (ordK p s k).length ≤ p.length := by
  have := nodup_len_le (ordK p s k) (List.range p.length) (ordK_nodup p s k) fun t ht => List.mem_range.mpr (ordK_lt o hs k t ht)
  simpa using this
theorem ordK_closed (o : Ok p w) {s : Nat} (hs : s < p.length) : ∀ k, ∀ (i : Nat) (h : i < (ordK p s k).length), i < k → ∀ x, x < w → nx p (ordK p s k)[i] x ∈ ordK p s k
  | 0 => fun i _ hi => by omega
  | k + 1 => fun i h hi x hx => by
    obtain ⟨e, he⟩ := ordK_pre p s k
    have sub : ∀ t, t ∈ ordK p s k → t ∈ ordK p s (k + 1) := fun t ht => by rw [he]; simp [ht]
    by_cases hik : i < (ordK p s k).length
    · have ei : (ordK p s (k + 1))[i] = (ordK p s k)[i] := by
        simp only [he]
        rw [List.getElem_append_left hik]
      rw [ei]
      by_cases hi2 : i < k
      · exact sub _ (ordK_closed o hs k i hik hi2 x hx)
      · have : i = k := by omega
        subst this
        have hlt : (ordK p s i)[i] < p.length := ordK_lt o hs i _ (List.getElem_mem hik)
        rw [ordK, if_pos hik, pushAll_mem]
        refine .inr ⟨(nx p (ordK p s i)[i] x, an p (ordK p s i)[i] x), ?_, rfl⟩
        rw [getD_at hik]
        exact (o.mem_row hlt).mpr ⟨x, hx, rfl⟩
    · have hk2 : ¬ k < (ordK p s k).length := by omega
      have e2 : ordK p s (k + 1) = ordK p s k := by rw [ordK, if_neg hk2]
      rw [e2] at h
      exact absurd h hik
theorem ordK_sound (o : Ok p w) {s : Nat} (hs : s < p.length) : ∀ k, ∀ t ∈ ordK p s k, ∃ r, Lets w r ∧ ends p s r = t
  | 0 => fun t ht => by
    simp only [ordK, List.mem_singleton] at ht
    exact ⟨[], Lets.nil, ht.symm⟩
  | k + 1 => fun t ht => by
    rw [ordK] at ht
    split at ht
    · rename_i hk
      rcases (pushAll_mem _ _ t).mp ht with h | ⟨q, hq, rfl⟩
      · exact ordK_sound o hs k t h
      · have hm : (ordK p s k).getD k 0 ∈ ordK p s k := by
          rw [getD_at hk]
          exact List.getElem_mem hk
        obtain ⟨r, l, e⟩ := ordK_sound o hs k _ hm
        obtain ⟨x, hx, rfl⟩ := (o.mem_row (ordK_lt o hs k _ hm)).mp hq
        refine ⟨r ++ [x], l.app (Lets.cons.mpr ⟨hx, Lets.nil⟩), ?_⟩
        rw [ends_app, e]
        rfl
    · exact ordK_sound o hs k t ht
theorem ord_closed (o : Ok p w) {s : Nat} (hs : s < p.length) {t x : Nat} (ht : t ∈ ord p s) (hx : x < w) : nx p t x ∈ ord p s := by
  obtain ⟨i, hi, rfl⟩ := List.getElem_of_mem ht
  exact ordK_closed o hs p.length i hi (Nat.lt_of_lt_of_le hi (ordK_len o hs _)) x hx
theorem ord_self (p : Mc) (s : Nat) : s ∈ ord p s := List.mem_of_getElem? (ordK_zero p s p.length)
theorem ord_ends (o : Ok p w) {s : Nat} (hs : s < p.length) : ∀ (r : List Nat) (t : Nat), t ∈ ord p s → Lets w r → ends p t r ∈ ord p s
  | [], _, h, _ => h
  | x :: r, t, h, l => ord_ends o hs r _ (ord_closed o hs h (Lets.cons.mp l).1) (Lets.cons.mp l).2
theorem mem_ord (o : Ok p w) {s : Nat} (hs : s < p.length) {t : Nat} : t ∈ ord p s ↔ ∃ r, Lets w r ∧ ends p s r = t := by
  constructor
  · exact ordK_sound o hs p.length t
  · rintro ⟨r, l, rfl⟩
    exact ord_ends o hs r s (ord_self p s) l
end
/-- the set of numbers below n among some -/
def setN (n : Nat) (xs : List Nat) : List Nat := (List.range n).filter fun t => decide (t ∈ xs)
theorem mem_setN {n : Nat} {xs : List Nat} {t : Nat} : t ∈ setN n xs ↔ t < n ∧ t ∈ xs := by simp [setN]
theorem setN_congr {n : Nat} {xs ys : List Nat} (h : ∀ t, t < n → (t ∈ xs ↔ t ∈ ys)) : setN n xs = setN n ys := by
  unfold setN
  apply List.filter_congr
  intro t ht
  rw [decide_eq_decide]
  exact h t (List.mem_range.mp ht)
theorem setN_inj {n : Nat} {xs ys : List Nat} (h : setN n xs = setN n ys) {t : Nat} (ht : t < n) : t ∈ xs ↔ t ∈ ys := by
  have a : t ∈ setN n xs ↔ t ∈ setN n ys := by rw [h]
  rw [mem_setN, mem_setN] at a
  exact ⟨fun q => (a.mp ⟨ht, q⟩).2, fun q => (a.mpr ⟨ht, q⟩).2⟩
theorem setN_sorted (n : Nat) (xs : List Nat) : (setN n xs).Pairwise (· < ·) := List.Pairwise.filter _ List.pairwise_lt_range
theorem setN_nodup (n : Nat) (xs : List Nat) : (setN n xs).Nodup := (setN_sorted n xs).imp fun h => Nat.ne_of_lt h
theorem setN_len (n : Nat) (xs : List Nat) : (setN n xs).length ≤ n := by
  have := List.length_filter_le (fun t => decide (t ∈ xs)) (List.range n)
  simpa [setN] using this
/-- an ascending list is the set of its members -/
theorem sorted_ext : ∀ (A B : List Nat), A.Pairwise (· < ·) → B.Pairwise (· < ·) → (∀ x, x ∈ A ↔ x ∈ B) → A = B
  | [], [], _, _, _ => rfl
  | [], b :: B, _, _, h => absurd ((h b).mpr (by simp)) (by simp)
  | a :: A, [], _, _, h => absurd ((h a).mp (by simp)) (by simp)
  | a :: A, b :: B, ha, hb, h => by
    obtain ⟨ha1, ha2⟩ := List.pairwise_cons.mp ha
    obtain ⟨hb1, hb2⟩ := List.pairwise_cons.mp hb
    have e : a = b := by
      rcases List.mem_cons.mp ((h a).mp (by simp)) with e | m1
      · exact e
      · rcases List.mem_cons.mp ((h b).mpr (by simp)) with e | m2
        · exact e.symm
        · have := ha1 b m2
          have := hb1 a m1
          omega
    subst e
    rw [sorted_ext A B ha2 hb2 fun x => ?_]
    constructor
    · intro hx
      rcases List.mem_cons.mp ((h x).mp (by simp [hx])) with e | q
      · have := ha1 x hx
        omega
      · exact q
    · intro hx
      rcases List.mem_cons.mp ((h x).mpr (by simp [hx])) with e | q
      · have := hb1 x hx
        omega
      · exact q
theorem eq_setN {n : Nat} {A xs : List Nat} (h : A.Pairwise (· < ·)) (hm : ∀ x, x ∈ A ↔ x ∈ xs) (hl : ∀ x ∈ xs, x < n) : A = setN n xs :=
  sorted_ext A _ h (setN_sorted n xs) fun x => by
    rw [mem_setN, hm]
    exact ⟨fun q => ⟨hl x q, q⟩, fun q => q.2⟩
def reach (p : Mc) (s : Nat) : List Nat := setN p.length (ord p s)
section
variable {p : Mc} {w : Nat}
theorem mem_reach (o : Ok p w) {s : Nat} (hs : s < p.length) {t : Nat} : t ∈ reach p s ↔ ∃ r, Lets w r ∧ ends p s r = t := by
  unfold reach
  rw [mem_setN, mem_ord o hs]
  constructor
  · exact fun h => h.2
  · rintro ⟨r, l, rfl⟩
    exact ⟨ends_lt o r s hs l, r, l, rfl⟩
theorem reach_lt {s t : Nat} (h : t ∈ reach p s) : t < p.length := (mem_setN.mp h).1
theorem reach_self (o : Ok p w) {s : Nat} (hs : s < p.length) : s ∈ reach p s := (mem_reach o hs).mpr ⟨[], Lets.nil, rfl⟩
theorem reach_trans (o : Ok p w) {s t u : Nat} (hs : s < p.length) (h1 : t ∈ reach p s) (h2 : u ∈ reach p t) : u ∈ reach p s := by
  have ht := reach_lt h1
  obtain ⟨r, l, rfl⟩ := (mem_reach o hs).mp h1
  obtain ⟨q, lq, rfl⟩ := (mem_reach o ht).mp h2
  exact (mem_reach o hs).mpr ⟨r ++ q, l.app lq, ends_app p r q s⟩
end
/-- the machine of what comes from a standing -/
def numbered (p : Mc) (s : Nat) : Mc := (ord p s).map fun t => (row p t).map fun q => ((ord p s).idxOf q.1, q.2)
/-- whether what comes from a standing is a least closed set -/
def good (p : Mc) (k : Nat) : Bool := (reach p k).all fun t => decide (reach p t = reach p k)
section
variable {p : Mc} {w : Nat}
theorem good_iff (o : Ok p w) {k : Nat} (hk : k < p.length) : good p k = true ↔ ∀ r, Lets w r → ∃ q, Lets w q ∧ ends p (ends p k r) q = k := by
  unfold good
  rw [List.all_eq_true]
  constructor
  · intro h r l
    have hm : ends p k r ∈ reach p k := (mem_reach o hk).mpr ⟨r, l, rfl⟩
    have e := of_decide_eq_true (h _ hm)
    have : k ∈ reach p (ends p k r) := by
      rw [e]
      exact reach_self o hk
    exact (mem_reach o (ends_lt o r k hk l)).mp this
  · intro h t ht
    apply decide_eq_true
    have htl := reach_lt ht
    obtain ⟨r, l, rfl⟩ := (mem_reach o hk).mp ht
    have hb : k ∈ reach p (ends p k r) := (mem_reach o htl).mpr (h r l)
    refine sorted_ext _ _ (setN_sorted _ _) (setN_sorted _ _) fun x => ⟨fun hx => reach_trans o hk ht hx, fun hx => reach_trans o htl hb hx⟩
theorem good_reach (o : Ok p w) {k t : Nat} (hk : k < p.length) (g : good p k = true) (ht : t ∈ reach p k) : good p t = true ∧ reach p t = reach p k := by
  have e : reach p t = reach p k := of_decide_eq_true (List.all_eq_true.mp g t ht)
  refine ⟨?_, e⟩
  unfold good
  rw [e]
  exact g
end
/-- lists that go together -/
inductive P2 {α β : Type} (R : α → β → Prop) : List α → List β → Prop
  | nil : P2 R [] []
  | cons {a : α} {b : β} {as : List α} {bs : List β} : R a b → P2 R as bs → P2 R (a :: as) (b :: bs)
section
variable {α β : Type} {R : α → β → Prop}
theorem P2.len : ∀ {as : List α} {bs : List β}, P2 R as bs → as.length = bs.length
  | _, _, .nil => rfl
  | _, _, .cons _ h => by simp [P2.len h]
theorem P2.app : ∀ {as : List α} {bs : List β} {as' : List α} {bs' : List β}, P2 R as bs → P2 R as' bs' → P2 R (as ++ as') (bs ++ bs')
  | _, _, _, _, .nil, h => h
  | _, _, _, _, .cons r t, h => .cons r (P2.app t h)
theorem P2.at : ∀ {as : List α} {bs : List β} (i : Nat) (h : i < as.length) (h' : i < bs.length), P2 R as bs → R as[i] bs[i]
  | _, _, 0, _, _, .cons r _ => r
  | _, _, i + 1, h, h', .cons _ t => P2.at i (by simpa using h) (by simpa using h') t
theorem P2.imp {S : α → β → Prop} (f : ∀ a b, R a b → S a b) : ∀ {as : List α} {bs : List β}, P2 R as bs → P2 S as bs
  | _, _, .nil => .nil
  | _, _, .cons r t => .cons (f _ _ r) (P2.imp f t)
theorem P2.map_eq {γ : Type} {f : α → γ} {g : β → γ} : ∀ {as : List α} {bs : List β}, P2 R as bs → (∀ a b, a ∈ as → b ∈ bs → R a b → f a = g b) → as.map f = bs.map g
  | _, _, .nil, _ => rfl
  | _, _, .cons r t, h => by
    rw [List.map_cons, List.map_cons, h _ _ (by simp) (by simp) r, P2.map_eq t fun a b ha hb => h a b (by simp [ha]) (by simp [hb])]
end
section
variable {p p' : Mc} {w : Nat}
theorem red_mem (rd : Red w p') {A B : List Nat} (h : P2 (fun a b => Alike w p a p' b) A B) (hB : ∀ b ∈ B, b < p'.length) {u v : Nat} (hv : v < p'.length) (a : Alike w p u p' v) (hu : u ∈ A) : v ∈ B := by
  obtain ⟨i, hi, rfl⟩ := List.getElem_of_mem hu
  have hi2 : i < B.length := by rw [← h.len]; exact hi
  have := P2.at i hi hi2 h
  have e : B[i] = v := rd _ _ (hB _ (List.getElem_mem hi2)) hv (this.symm.trans a)
  rw [← e]
  exact List.getElem_mem hi2
theorem P2.swap {α β : Type} {R : α → β → Prop} : ∀ {as : List α} {bs : List β}, P2 R as bs → P2 (fun b a => R a b) bs as
  | _, _, .nil => .nil
  | _, _, .cons r t => .cons r (P2.swap t)
theorem pushAll_alike (rd : Red w p) (rd' : Red w p') : ∀ (R R' : List (Nat × Nat)) (A B : List Nat), P2 (fun a b => Alike w p a p' b) A B → (∀ a ∈ A, a < p.length) → (∀ b ∈ B, b < p'.length) →
    P2 (fun (q q' : Nat × Nat) => q.1 < p.length ∧ q'.1 < p'.length ∧ Alike w p q.1 p' q'.1) R R' → P2 (fun a b => Alike w p a p' b) (pushAll A R) (pushAll B R')
  | _, _, A, B, h, _, _, .nil => h
  | _, _, A, B, h, hA, hB, .cons (a := q) (b := q') (as := R) (bs := R') ⟨h1, h2, h3⟩ t => by
    rw [pushAll, pushAll]
    have iff : q.1 ∈ A ↔ q'.1 ∈ B := ⟨fun hm => red_mem rd' h hB h2 h3 hm, fun hm => by
      have hs : P2 (fun b a => Alike w p' b p a) B A := (P2.swap h).imp fun _ _ z => Alike.symm z
      exact red_mem rd hs hA h1 h3.symm hm⟩
    by_cases hm : q.1 ∈ A
    · rw [if_pos hm, if_pos (iff.mp hm)]
      exact pushAll_alike rd rd' R R' A B h hA hB t
    · rw [if_neg hm, if_neg (fun z => hm (iff.mpr z))]
      refine pushAll_alike rd rd' R R' _ _ (h.app (.cons h3 .nil)) (fun a ha => ?_) (fun b hb => ?_) t
      · rcases List.mem_append.mp ha with z | z
        · exact hA a z
        · rw [List.mem_singleton.mp z]
          exact h1
      · rcases List.mem_append.mp hb with z | z
        · exact hB b z
        · rw [List.mem_singleton.mp z]
          exact h2
theorem p2_range {α β : Type} {R : α → β → Prop} (f : Nat → α) (g : Nat → β) : ∀ (n : Nat), (∀ i, i < n → R (f i) (g i)) → P2 R ((List.range n).map f) ((List.range n).map g)
  | 0, _ => .nil
  | n + 1, h => by
    rw [List.range_succ, List.map_append, List.map_append]
    exact (p2_range f g n fun i hi => h i (by omega)).app (.cons (h n (by omega)) .nil)
theorem ordK_alike (o : Ok p w) (o' : Ok p' w) (rd : Red w p) (rd' : Red w p') {s t : Nat} (hs : s < p.length) (ht : t < p'.length) (a : Alike w p s p' t) :
    ∀ k, P2 (fun a b => Alike w p a p' b) (ordK p s k) (ordK p' t k)
  | 0 => .cons a .nil
  | k + 1 => by
    have ih := ordK_alike o o' rd rd' hs ht a k
    rw [ordK, ordK]
    by_cases hk : k < (ordK p s k).length
    · have hk' : k < (ordK p' t k).length := by rw [← ih.len]; exact hk
      rw [if_pos hk, if_pos hk', getD_at hk, getD_at hk']
      have ak := P2.at k hk hk' ih
      have l1 := ordK_lt o hs k _ (List.getElem_mem hk)
      have l2 := ordK_lt o' ht k _ (List.getElem_mem hk')
      refine pushAll_alike rd rd' _ _ _ _ ih (ordK_lt o hs k) (ordK_lt o' ht k) ?_
      rw [o.row_eq l1, o'.row_eq l2]
      exact p2_range _ _ w fun x hx => ⟨o.nx_lt l1 hx, o'.nx_lt l2 hx, ak.nx hx⟩
    · rw [if_neg hk, if_neg (by rw [← ih.len]; exact hk)]
      exact ih
/-- more laps than standings change nothing -/
theorem ord_any (o : Ok p w) {s : Nat} (hs : s < p.length) {k : Nat} (hk : p.length ≤ k) : ordK p s k = ord p s := ordK_stay p s (ordK_len o hs _) k hk
theorem numbered_alike (o : Ok p w) (o' : Ok p' w) (rd : Red w p) (rd' : Red w p') {s t : Nat} (hs : s < p.length) (ht : t < p'.length) (a : Alike w p s p' t) : numbered p s = numbered p' t := by
  have h : P2 (fun a b => Alike w p a p' b) (ord p s) (ord p' t) := by
    have h1 := ordK_alike o o' rd rd' hs ht a (p.length + p'.length)
    rw [ord_any o hs (by omega), ord_any o' ht (by omega)] at h1
    exact h1
  unfold numbered
  refine P2.map_eq h fun u v hu hv al => ?_
  have lu := ordK_lt o hs _ u hu
  have lv := ordK_lt o' ht _ v hv
  refine (rowmap_eq o o' lu lv _ _).mpr fun x hx => ?_
  refine Prod.ext ?_ (al.an hx)
  show (ord p s).idxOf (nx p u x) = (ord p' t).idxOf (nx p' v x)
  have m1 : nx p u x ∈ ord p s := ord_closed o hs hu hx
  have hi : (ord p s).idxOf (nx p u x) < (ord p s).length := List.idxOf_lt_length_iff.mpr m1
  have hi' : (ord p s).idxOf (nx p u x) < (ord p' t).length := by rw [← h.len]; exact hi
  have ai := P2.at _ hi hi' h
  rw [List.getElem_idxOf hi] at ai
  have e : (ord p' t)[(ord p s).idxOf (nx p u x)] = nx p' v x := rd' _ _ (ordK_lt o' ht _ _ (List.getElem_mem hi')) (o'.nx_lt lv hx) (ai.symm.trans (al.nx hx))
  rw [← e]
  exact (idxOf_at (ordK_nodup p' t _) hi').symm
theorem outs_numbered (o : Ok p w) {s : Nat} (hs : s < p.length) : ∀ (r : List Nat) (i : Nat) (h : i < (ord p s).length), Lets w r → outs (numbered p s) i r = outs p (ord p s)[i] r
  | [], _, _, _ => rfl
  | x :: r, i, h, l => by
    obtain ⟨hx, lr⟩ := Lets.cons.mp l
    have hm : (ord p s)[i] ∈ ord p s := List.getElem_mem h
    have lt := ordK_lt o hs _ _ hm
    have hl : (numbered p s).length = (ord p s).length := by simp [numbered]
    have e : (row (numbered p s) i).getD x (0, 0) = ((ord p s).idxOf (nx p (ord p s)[i] x), an p (ord p s)[i] x) := by
      have e1 : row (numbered p s) i = (row p (ord p s)[i]).map fun q => ((ord p s).idxOf q.1, q.2) := by
        rw [row_at (by omega)]
        simp [numbered]
      rw [e1, getD_at (by rw [List.length_map, o.row_len lt]; exact hx), List.getElem_map, o.pair lt hx]
    have m2 : nx p (ord p s)[i] x ∈ ord p s := ord_closed o hs hm hx
    have hj : (ord p s).idxOf (nx p (ord p s)[i] x) < (ord p s).length := List.idxOf_lt_length_iff.mpr m2
    have e1 : nx (numbered p s) i x = (ord p s).idxOf (nx p (ord p s)[i] x) := by unfold nx at e ⊢; rw [e]
    have e2 : an (numbered p s) i x = an p (ord p s)[i] x := by unfold an at e ⊢; rw [e]
    rw [outs, outs, e1, e2, outs_numbered o hs r _ hj lr, List.getElem_idxOf hj]
theorem alike_of_numbered (o : Ok p w) (o' : Ok p' w) {s t : Nat} (hs : s < p.length) (ht : t < p'.length) (e : numbered p s = numbered p' t) : Alike w p s p' t := fun r l => by
  have h1 := outs_numbered o hs r 0 (ordK_pos p s _) l
  have h2 := outs_numbered o' ht r 0 (ordK_pos p' t _) l
  have z1 : (ord p s)[0]'(ordK_pos p s _) = s := by
    have := ordK_zero p s p.length
    rw [List.getElem?_eq_getElem (ordK_pos p s _)] at this
    exact Option.some.inj this
  have z2 : (ord p' t)[0]'(ordK_pos p' t _) = t := by
    have := ordK_zero p' t p'.length
    rw [List.getElem?_eq_getElem (ordK_pos p' t _)] at this
    exact Option.some.inj this
  rw [z1] at h1
  rw [z2] at h2
  rw [← h1, ← h2, e]
end
end Wk
end

section
set_option autoImplicit false
set_option linter.all false
namespace Wk
/-! ### an order of machines -/
structure LeOk {α : Type} (le : α → α → Bool) : Prop where
  total : ∀ a b, le a b = true ∨ le b a = true
  trans : ∀ a b c, le a b = true → le b c = true → le a c = true
  anti : ∀ a b, le a b = true → le b a = true → a = b
section
variable {α : Type} {le : α → α → Bool}
theorem LeOk.refl (h : LeOk le) (a : α) : le a a = true := (h.total a a).elim id id
/-- the list is ascending and without repeats -/
def Asc (le : α → α → Bool) (l : List α) : Prop := l.Pairwise (fun a b => le a b = true) ∧ l.Nodup
theorem asc_ext (h : LeOk le) : ∀ (A B : List α), Asc le A → Asc le B → (∀ x, x ∈ A ↔ x ∈ B) → A = B
  | [], [], _, _, _ => rfl
  | [], b :: B, _, _, m => absurd ((m b).mpr (by simp)) (by simp)
  | a :: A, [], _, _, m => absurd ((m a).mp (by simp)) (by simp)
  | a :: A, b :: B, ⟨pa, na⟩, ⟨pb, nb⟩, m => by
    obtain ⟨pa1, pa2⟩ := List.pairwise_cons.mp pa
    obtain ⟨pb1, pb2⟩ := List.pairwise_cons.mp pb
    obtain ⟨na1, na2⟩ := List.nodup_cons.mp na
    obtain ⟨nb1, nb2⟩ := List.nodup_cons.mp nb
    have e : a = b := by
      rcases List.mem_cons.mp ((m a).mp (by simp)) with e | m1
      · exact e
      · rcases List.mem_cons.mp ((m b).mpr (by simp)) with e | m2
        · exact e.symm
        · exact h.anti a b (pa1 b m2) (pb1 a m1)
    subst e
    rw [asc_ext h A B ⟨pa2, na2⟩ ⟨pb2, nb2⟩ fun x => ?_]
    constructor
    · intro hx
      rcases List.mem_cons.mp ((m x).mp (by simp [hx])) with e | q
      · subst e
        exact absurd hx na1
      · exact q
    · intro hx
      rcases List.mem_cons.mp ((m x).mpr (by simp [hx])) with e | q
      · subst e
        exact absurd hx nb1
      · exact q
end
def lst (le : Mc → Mc → Bool) (l : List Mc) : Mc := (l.mergeSort le).headD []
section
variable {le : Mc → Mc → Bool}
theorem lst_spec (h : LeOk le) {l : List Mc} (hl : l ≠ []) : lst le l ∈ l ∧ ∀ y ∈ l, le (lst le l) y = true := by
  have hp := List.mergeSort_perm l le
  have hs := List.pairwise_mergeSort (le := le) (fun a b c => h.trans a b c) (fun a b => by
    rcases h.total a b with z | z <;> simp [z]) l
  unfold lst
  cases e : l.mergeSort le with
  | nil =>
    rw [e] at hp
    exact absurd (List.Perm.nil_eq hp).symm hl
  | cons a r =>
    rw [e] at hp hs
    obtain ⟨h1, _⟩ := List.pairwise_cons.mp hs
    refine ⟨hp.mem_iff.mp (by simp), fun y hy => ?_⟩
    rcases List.mem_cons.mp (hp.mem_iff.mpr hy) with e2 | m
    · subst e2
      exact h.refl _
    · exact h1 y m
theorem lst_unique (h : LeOk le) {l : List Mc} {x : Mc} (hx : x ∈ l) (hm : ∀ y ∈ l, le x y = true) : lst le l = x := by
  have hl : l ≠ [] := fun e => by
    subst e
    simp at hx
  obtain ⟨a, b⟩ := lst_spec h hl
  exact h.anti _ _ (b x hx) (hm _ a)
theorem lst_congr (h : LeOk le) {l l' : List Mc} (hl : l ≠ []) (hm : ∀ x, x ∈ l ↔ x ∈ l') : lst le l = lst le l' := by
  obtain ⟨a, b⟩ := lst_spec h hl
  exact (lst_unique h ((hm _).mp a) fun y hy => b y ((hm y).mpr hy)).symm
end
/-! ### cores -/
def core (le : Mc → Mc → Bool) (p : Mc) (k : Nat) : Option Mc := if good p k = true then some (lst le ((reach p k).map (numbered p))) else none
def coreAt (le : Mc → Mc → Bool) (m : Mc) : List (Option Mc) := (cls m).map (core le (mg m))
def cAt (le : Mc → Mc → Bool) (m : Mc) (s : Nat) : Option Mc := core le (mg m) (cl m s)
def goodAt (m : Mc) (s : Nat) : Bool := good (mg m) (cl m s)
def shares (le : Mc → Mc → Bool) (m1 m2 : Mc) : Bool := (coreAt le m1).all fun o => o.isNone || decide (o ∈ coreAt le m2)
section
variable {le : Mc → Mc → Bool} {p p' : Mc} {w : Nat}
theorem core_some {k : Nat} {c : Mc} : core le p k = some c ↔ good p k = true ∧ lst le ((reach p k).map (numbered p)) = c := by
  unfold core
  by_cases h : good p k = true
  · rw [if_pos h]
    simp [h]
  · rw [if_neg h]
    simp [h]
theorem core_none {k : Nat} : core le p k = none ↔ good p k = false := by
  unfold core
  by_cases h : good p k = true
  · rw [if_pos h]
    simp [h]
  · rw [if_neg h]
    simp [h]
theorem map_ne (o : Ok p w) {k : Nat} (hk : k < p.length) : (reach p k).map (numbered p) ≠ [] := fun e => by
  have := reach_self o hk
  rw [List.map_eq_nil_iff] at e
  rw [e] at this
  simp at this
/-- alike standings have the same core -/
theorem core_alike (h : LeOk le) (o : Ok p w) (o' : Ok p' w) (rd : Red w p) (rd' : Red w p') {s t : Nat} (hs : s < p.length) (ht : t < p'.length) (a : Alike w p s p' t) (g : good p s = true) : core le p s = core le p' t := by
  have key : ∀ {p p' : Mc} (_ : Ok p w) (_ : Ok p' w) (_ : Red w p) (_ : Red w p') {s t : Nat} (_ : s < p.length) (_ : t < p'.length) (_ : Alike w p s p' t), ∀ x, x ∈ (reach p s).map (numbered p) → x ∈ (reach p' t).map (numbered p') := by
    intro p p' o o' rd rd' s t hs ht a x hx
    obtain ⟨u, hu, rfl⟩ := List.mem_map.mp hx
    have lu := reach_lt hu
    obtain ⟨r, l, rfl⟩ := (mem_reach o hs).mp hu
    have lv := ends_lt o' r t ht l
    exact List.mem_map.mpr ⟨ends p' t r, (mem_reach o' ht).mpr ⟨r, l, rfl⟩, (numbered_alike o o' rd rd' lu lv (alike_ends r s t a l)).symm⟩
  have g' : good p' t = true := (good_iff o' ht).mpr fun r l => by
    obtain ⟨q, lq, e⟩ := (good_iff o hs).mp g r l
    refine ⟨q, lq, ?_⟩
    have a2 := alike_ends q _ _ (alike_ends r s t a l) lq
    rw [e] at a2
    exact (rd' _ _ (ends_lt o' q _ (ends_lt o' r t ht l) lq) ht (a2.symm.trans a))
  unfold core
  rw [if_pos g, if_pos g']
  exact congrArg some (lst_congr h (map_ne o hs) fun x => ⟨key o o' rd rd' hs ht a x, key o' o rd' rd ht hs a.symm x⟩)
/-- the same core: some standing that comes is alike -/
theorem alike_of_core (h : LeOk le) (o : Ok p w) (o' : Ok p' w) {s t : Nat} (hs : s < p.length) (ht : t < p'.length) {c : Mc} (e : core le p s = some c) (e' : core le p' t = some c) : ∃ t', t' < p'.length ∧ Alike w p s p' t' := by
  obtain ⟨g, e1⟩ := core_some.mp e
  obtain ⟨g', e2⟩ := core_some.mp e'
  obtain ⟨m1, _⟩ := lst_spec h (map_ne o hs)
  obtain ⟨m2, _⟩ := lst_spec h (map_ne o' ht)
  rw [e1] at m1
  rw [e2] at m2
  obtain ⟨u, hu, eu⟩ := List.mem_map.mp m1
  obtain ⟨v, hv, ev⟩ := List.mem_map.mp m2
  have lu := reach_lt hu
  have lv := reach_lt hv
  have a := alike_of_numbered o o' lu lv (eu.trans ev.symm)
  obtain ⟨r, l, er⟩ := (mem_reach o hs).mp hu
  obtain ⟨q, lq, eq⟩ := (good_iff o hs).mp g r l
  rw [er] at eq
  refine ⟨ends p' v q, ends_lt o' q v lv lq, ?_⟩
  have := alike_ends q u v a lq
  rw [eq] at this
  exact this
end
section
variable {le : Mc → Mc → Bool} {m m1 m2 : Mc} {w : Nat}
theorem coreAt_len (le : Mc → Mc → Bool) (m : Mc) : (coreAt le m).length = m.length := by simp [coreAt, cls_len]
theorem coreAt_at (le : Mc → Mc → Bool) {m : Mc} {s : Nat} (h : s < m.length) : (coreAt le m)[s]'(by rw [coreAt_len]; exact h) = cAt le m s := by
  simp only [coreAt, List.getElem_map, cAt, cl]
  rw [getD_at (by rw [cls_len]; exact h)]
theorem mem_coreAt (le : Mc → Mc → Bool) {m : Mc} {c : Option Mc} : c ∈ coreAt le m ↔ ∃ s, s < m.length ∧ cAt le m s = c := by
  constructor
  · intro h
    obtain ⟨i, hi, e⟩ := List.getElem_of_mem h
    rw [coreAt_len] at hi
    exact ⟨i, hi, by rw [← coreAt_at le hi, e]⟩
  · rintro ⟨s, h, rfl⟩
    rw [← coreAt_at le h]
    exact List.getElem_mem _
theorem goodAt_core {s : Nat} : cAt le m s = none ↔ goodAt m s = false := core_none
/-- which cores are shared: by standings -/
theorem shares_iff (h : LeOk le) (o1 : Ok m1 w) (o2 : Ok m2 w) : shares le m1 m2 = true ↔ ∀ s, s < m1.length → goodAt m1 s = true → ∃ t, t < m2.length ∧ Alike w m1 s m2 t := by
  unfold shares
  rw [List.all_eq_true]
  constructor
  · intro hs s hl g
    have hm : cAt le m1 s ∈ coreAt le m1 := (mem_coreAt le).mpr ⟨s, hl, rfl⟩
    have := hs _ hm
    cases e : cAt le m1 s with
    | none =>
      have := goodAt_core.mp e
      rw [this] at g
      exact absurd g (by simp)
    | some c =>
      rw [e] at this
      simp only [Option.isNone_some, Bool.false_or, decide_eq_true_eq] at this
      obtain ⟨t, ht, et⟩ := (mem_coreAt le).mp this
      obtain ⟨k, hk, a⟩ := alike_of_core h (mg_ok o1) (mg_ok o2) (cl_lt o1 hl) (cl_lt o2 ht) e et
      obtain ⟨t', ht', rfl⟩ := cl_onto o2 hk
      exact ⟨t', ht', (alike_mg o1 hl).symm.trans (a.trans (alike_mg o2 ht'))⟩
  · intro hs c hc
    obtain ⟨s, hl, rfl⟩ := (mem_coreAt le).mp hc
    cases e : cAt le m1 s with
    | none => rfl
    | some c =>
      obtain ⟨g, _⟩ := core_some.mp e
      obtain ⟨t, ht, a⟩ := hs s hl g
      simp only [Option.isNone_some, Bool.false_or, decide_eq_true_eq]
      rw [← e]
      refine (mem_coreAt le).mpr ⟨t, ht, ?_⟩
      exact (core_alike h (mg_ok o1) (mg_ok o2) (mg_red o1) (mg_red o2) (cl_lt o1 hl) (cl_lt o2 ht) ((alike_mg o1 hl).trans (a.trans (alike_mg o2 ht).symm)) g).symm
end
/-! ### the standings behind letters -/
def nextsOf (m : Mc) (S : List Nat) : List Nat := setN m.length (S.flatMap fun s => (row m s).map fun p => p.1)
def behind (m : Mc) (k : Nat) : List Nat := iter (nextsOf m) k (List.range m.length)
def settled (m : Mc) : Option Nat := (List.range (m.length + 1)).find? fun k => (behind m k).all (goodAt m)
section
variable {m m1 m2 : Mc} {w : Nat} {le : Mc → Mc → Bool}
theorem mem_nexts (o : Ok m w) {S : List Nat} (hS : ∀ s ∈ S, s < m.length) {t : Nat} : t ∈ nextsOf m S ↔ ∃ s ∈ S, ∃ x, x < w ∧ nx m s x = t := by
  unfold nextsOf
  rw [mem_setN, List.mem_flatMap]
  constructor
  · rintro ⟨_, s, hs, ht⟩
    obtain ⟨q, hq, rfl⟩ := List.mem_map.mp ht
    obtain ⟨x, hx, rfl⟩ := (o.mem_row (hS s hs)).mp hq
    exact ⟨s, hs, x, hx, rfl⟩
  · rintro ⟨s, hs, x, hx, rfl⟩
    exact ⟨o.nx_lt (hS s hs) hx, s, hs, List.mem_map.mpr ⟨_, (o.mem_row (hS s hs)).mpr ⟨x, hx, rfl⟩, rfl⟩⟩
theorem nexts_lt (m : Mc) (S : List Nat) : ∀ s ∈ nextsOf m S, s < m.length := fun s h => (mem_setN.mp h).1
theorem behind_lt (m : Mc) : ∀ k, ∀ s ∈ behind m k, s < m.length
  | 0 => fun s h => List.mem_range.mp h
  | k + 1 => nexts_lt m _
theorem behind_sorted (m : Mc) : ∀ k, (behind m k).Pairwise (· < ·)
  | 0 => List.pairwise_lt_range
  | k + 1 => setN_sorted _ _
/-- good standings go to good ones -/
theorem good_nx (o : Ok m w) {s x : Nat} (hs : s < m.length) (hx : x < w) (g : goodAt m s = true) : goodAt m (nx m s x) = true := by
  have hk := cl_lt o hs
  have om := mg_ok o
  have : cl m (nx m s x) ∈ reach (mg m) (cl m s) := (mem_reach om hk).mpr ⟨[x], Lets.cons.mpr ⟨hx, Lets.nil⟩, (step_mg o hs hx).1⟩
  exact (good_reach om hk g this).1
theorem settled_keeps (o : Ok m w) {k : Nat} (h : (behind m k).all (goodAt m) = true) : ∀ j, k ≤ j → (behind m j).all (goodAt m) = true := by
  intro j hj
  induction j with
  | zero =>
    have : k = 0 := by omega
    subst this
    exact h
  | succ j ih =>
    by_cases e : k = j + 1
    · rw [← e]
      exact h
    · have := ih (by omega)
      rw [List.all_eq_true] at this ⊢
      intro t ht
      obtain ⟨s, hs, x, hx, rfl⟩ := (mem_nexts o (behind_lt m j)).mp ht
      exact good_nx o (behind_lt m j s hs) hx (this s hs)
theorem settled_some {k : Nat} (h : settled m = some k) : k ≤ m.length ∧ (behind m k).all (goodAt m) = true := by
  have h1 := List.find?_some h
  have h2 := List.mem_of_find?_eq_some h
  refine ⟨?_, h1⟩
  have := List.mem_range.mp h2
  omega
/-- some good standing's followers are there behind any number of letters -/
theorem behind_row (o : Ok m w) : ∀ (j s : Nat), s < m.length → ∃ r, Lets w r ∧ ends m s r ∈ behind m j
  | 0, s, h => ⟨[], Lets.nil, List.mem_range.mpr h⟩
  | j + 1, s, h => by
    obtain ⟨r, l, e⟩ := behind_row o j s h
    refine ⟨r ++ [0], l.app (Lets.cons.mpr ⟨o.wp, Lets.nil⟩), ?_⟩
    rw [ends_app]
    exact (mem_nexts o (behind_lt m j)).mpr ⟨_, e, 0, o.wp, rfl⟩
/-- may replace, from some standings -/
def May (w : Nat) (m1 m2 : Mc) (S : List Nat) : Prop := ∀ s ∈ S, ∀ r, Lets w r → ∃ t, t < m2.length ∧ outs m2 t r = outs m1 s r
/-- where no standing is ever alike, some row is answered by none -/
theorem parting (o1 : Ok m1 w) (o2 : Ok m2 w) : ∀ (T : List Nat), (∀ t ∈ T, t < m2.length) → ∀ s, s < m1.length → (∀ r, Lets w r → ∀ t, t < m2.length → ¬ Alike w m1 (ends m1 s r) m2 t) →
    ∃ r, Lets w r ∧ ∀ t ∈ T, outs m2 t r ≠ outs m1 s r
  | [], _, _, _, _ => ⟨[], Lets.nil, fun _ h => by simp at h⟩
  | t :: T, hT, s, hs, hn => by
    obtain ⟨r, l, hr⟩ := parting o1 o2 T (fun t ht => hT t (by simp [ht])) s hs hn
    have ht : t < m2.length := hT t (by simp)
    have na := hn r l (ends m2 t r) (ends_lt o2 r t ht l)
    have : ∃ q, Lets w q ∧ outs m1 (ends m1 s r) q ≠ outs m2 (ends m2 t r) q := by
      refine Classical.byContradiction fun c => na fun q lq => ?_
      refine Classical.byContradiction fun d => c ⟨q, lq, d⟩
    obtain ⟨q, lq, hq⟩ := this
    refine ⟨r ++ q, l.app lq, fun u hu => ?_⟩
    rw [outs_app, outs_app]
    intro e
    have hl : (outs m2 u r).length = (outs m1 s r).length := by rw [outs_len, outs_len]
    obtain ⟨e1, e2⟩ := List.append_inj e hl
    rcases List.mem_cons.mp hu with rfl | hu
    · exact hq e2.symm
    · exact hr u hu e1
/-- (T7), the one way -/
theorem may_shares (h : LeOk le) (o1 : Ok m1 w) (o2 : Ok m2 w) {j : Nat} (hm : May w m1 m2 (behind m1 j)) : shares le m1 m2 = true := by
  rw [shares_iff h o1 o2]
  intro s hs g
  obtain ⟨r0, l0, b0⟩ := behind_row o1 j s hs
  have hs0 := ends_lt o1 r0 s hs l0
  have : ∃ r, Lets w r ∧ ∃ t, t < m2.length ∧ Alike w m1 (ends m1 (ends m1 s r0) r) m2 t := by
    refine Classical.byContradiction fun c => ?_
    obtain ⟨r, l, hr⟩ := parting o1 o2 (List.range m2.length) (fun t ht => List.mem_range.mp ht) (ends m1 s r0) hs0 fun r l t ht a => c ⟨r, l, t, ht, a⟩
    obtain ⟨t, ht, e⟩ := hm _ b0 r l
    exact hr t (List.mem_range.mpr ht) e
  obtain ⟨r, l, t, ht, a⟩ := this
  have hk := cl_lt o1 hs
  obtain ⟨q, lq, eq⟩ := (good_iff (mg_ok o1) hk).mp g (r0 ++ r) (l0.app l)
  rw [(outs_mg o1 _ s hs (l0.app l)).2, (outs_mg o1 q _ (ends_lt o1 _ s hs (l0.app l)) lq).2] at eq
  rw [ends_app] at eq
  refine ⟨ends m2 t q, ends_lt o2 q t ht lq, ?_⟩
  have a2 := alike_ends q _ _ a lq
  exact ((cl_eq o1 (ends_lt o1 q _ (ends_lt o1 r _ hs0 l) lq) hs).mp eq).symm.trans a2
/-- (T7) and (72), the other way -/
theorem shares_may (h : LeOk le) (o1 : Ok m1 w) (o2 : Ok m2 w) {j : Nat} (hg : (behind m1 j).all (goodAt m1) = true) (hs : shares le m1 m2 = true) : May w m1 m2 (behind m1 j) := fun s hb r l => by
  obtain ⟨t, ht, a⟩ := (shares_iff h o1 o2).mp hs s (behind_lt m1 j s hb) (List.all_eq_true.mp hg s hb)
  exact ⟨t, ht, (a r l).symm⟩
theorem may_iff (h : LeOk le) (o1 : Ok m1 w) (o2 : Ok m2 w) {k j : Nat} (hk : settled m1 = some k) (hj : k ≤ j) : May w m1 m2 (behind m1 j) ↔ shares le m1 m2 = true :=
  ⟨may_shares h o1 o2, shares_may h o1 o2 (settled_keeps o1 (settled_some hk).2 j hj)⟩
end
/-! ### sets of standings that answered alike -/
def leftBy (m : Mc) (S : List Nat) (x a : Nat) : List Nat := setN m.length (((S.map fun s => (nx m s x, an m s x)).filter fun p => p.2 == a).map fun p => p.1)
abbrev State := Nat × List Nat
def stp (m1 m2 : Mc) (q : State) (x : Nat) : State := (nx m1 q.1 x, leftBy m2 q.2 x (an m1 q.1 x))
def stR (m1 m2 : Mc) : State → List Nat → State
  | q, [] => q
  | q, x :: r => stR m1 m2 (stp m1 m2 q x) r
section
variable {m m1 m2 : Mc} {w : Nat}
theorem mem_left {S : List Nat} {x a t : Nat} (hx : ∀ s ∈ S, nx m s x < m.length) : t ∈ leftBy m S x a ↔ ∃ s ∈ S, an m s x = a ∧ nx m s x = t := by
  unfold leftBy
  rw [mem_setN]
  simp only [List.mem_map, List.mem_filter, beq_iff_eq]
  constructor
  · rintro ⟨_, p, ⟨⟨s, hs, rfl⟩, h2⟩, rfl⟩
    exact ⟨s, hs, h2, rfl⟩
  · rintro ⟨s, hs, h1, rfl⟩
    exact ⟨hx s hs, _, ⟨⟨s, hs, rfl⟩, h1⟩, rfl⟩
theorem left_lt (m : Mc) (S : List Nat) (x a : Nat) : ∀ t ∈ leftBy m S x a, t < m.length := fun t h => (mem_setN.mp h).1
/-- a state of two machines -/
def StOk (m1 m2 : Mc) (q : State) : Prop := q.1 < m1.length ∧ ∃ xs, q.2 = setN m2.length xs
theorem StOk.lt {q : State} (h : StOk m1 m2 q) : ∀ t ∈ q.2, t < m2.length := fun t ht => by
  obtain ⟨_, xs, e⟩ := h
  rw [e] at ht
  exact (mem_setN.mp ht).1
theorem range_setN (n : Nat) : List.range n = setN n (List.range n) := by
  refine sorted_ext _ _ List.pairwise_lt_range (setN_sorted _ _) fun x => ?_
  rw [mem_setN, List.mem_range]
  omega
theorem stOk_start {s : Nat} (h : s < m1.length) : StOk m1 m2 (s, List.range m2.length) := ⟨h, List.range m2.length, range_setN _⟩
theorem StOk.stp (o1 : Ok m1 w) {q : State} {x : Nat} (h : StOk m1 m2 q) (hx : x < w) : StOk m1 m2 (stp m1 m2 q x) := ⟨o1.nx_lt h.1 hx, _, rfl⟩
theorem stR_ok (o1 : Ok m1 w) : ∀ (r : List Nat) (q : State), StOk m1 m2 q → Lets w r → StOk m1 m2 (stR m1 m2 q r)
  | [], _, h, _ => h
  | x :: r, _, h, l => stR_ok o1 r _ (h.stp o1 (Lets.cons.mp l).1) (Lets.cons.mp l).2
theorem stR_app (m1 m2 : Mc) : ∀ (r q : List Nat) (a : State), stR m1 m2 a (r ++ q) = stR m1 m2 (stR m1 m2 a r) q
  | [], _, _ => rfl
  | x :: r, q, a => by
    show stR m1 m2 (stp m1 m2 a x) (r ++ q) = _
    rw [stR_app m1 m2 r q]
    rfl
theorem mem_stR (o1 : Ok m1 w) (o2 : Ok m2 w) : ∀ (r : List Nat) (q : State), StOk m1 m2 q → Lets w r → ∀ u, u ∈ (stR m1 m2 q r).2 ↔ ∃ t ∈ q.2, outs m2 t r = outs m1 q.1 r ∧ ends m2 t r = u
  | [], q, _, _, u => by simp [stR, outs, ends]
  | x :: r, q, h, l, u => by
    obtain ⟨hx, lr⟩ := Lets.cons.mp l
    have ih := mem_stR o1 o2 r (stp m1 m2 q x) (h.stp o1 hx) lr u
    show u ∈ (stR m1 m2 (stp m1 m2 q x) r).2 ↔ _
    rw [ih]
    constructor
    · rintro ⟨t', ht', e1, e2⟩
      obtain ⟨t, ht, f1, f2⟩ := (mem_left fun s hs => o2.nx_lt (h.lt s hs) hx).mp ht'
      refine ⟨t, ht, ?_, ?_⟩
      · simp only [outs]
        rw [f1, f2, e1]
        rfl
      · simp only [ends]
        rw [f2, e2]
    · rintro ⟨t, ht, e1, e2⟩
      simp only [outs, List.cons.injEq] at e1
      exact ⟨nx m2 t x, (mem_left fun s hs => o2.nx_lt (h.lt s hs) hx).mpr ⟨t, ht, e1.1, rfl⟩, e1.2, e2⟩
theorem may_states (o1 : Ok m1 w) (o2 : Ok m2 w) {S : List Nat} (hS : ∀ s ∈ S, s < m1.length) : May w m1 m2 S ↔ ∀ s ∈ S, ∀ r, Lets w r → (stR m1 m2 (s, List.range m2.length) r).2 ≠ [] := by
  constructor
  · intro h s hs r l e
    obtain ⟨t, ht, eo⟩ := h s hs r l
    have := (mem_stR o1 o2 r _ (stOk_start (hS s hs)) l (ends m2 t r)).mpr ⟨t, List.mem_range.mpr ht, eo, rfl⟩
    rw [e] at this
    simp at this
  · intro h s hs r l
    cases e : (stR m1 m2 (s, List.range m2.length) r).2 with
    | nil => exact absurd e (h s hs r l)
    | cons u _ =>
      obtain ⟨t, ht, eo, _⟩ := (mem_stR o1 o2 r _ (stOk_start (hS s hs)) l u).mp (by rw [e]; simp)
      exact ⟨t, List.mem_range.mp ht, eo⟩
/-- a set of states that holds what comes, none empty behind a letter -/
theorem may_closed (o1 : Ok m1 w) (o2 : Ok m2 w) {S : List Nat} (hS : ∀ s ∈ S, s < m1.length) (V : State → Prop) (h0 : ∀ s ∈ S, V (s, List.range m2.length)) (hc : ∀ q, V q → ∀ x, x < w → V (stp m1 m2 q x) ∧ (stp m1 m2 q x).2 ≠ []) : May w m1 m2 S := by
  have go : ∀ (r : List Nat) (q : State), V q → q.2 ≠ [] → Lets w r → (stR m1 m2 q r).2 ≠ [] := by
    intro r
    induction r with
    | nil => exact fun q _ h _ => h
    | cons x r ih =>
      intro q hq _ l
      obtain ⟨hx, lr⟩ := Lets.cons.mp l
      obtain ⟨a, b⟩ := hc q hq x hx
      exact ih _ a b lr
  refine (may_states o1 o2 hS).mpr fun s hs r l => go r _ (h0 s hs) ?_ l
  intro e
  have := o2.ne
  have e2 : m2.length = 0 := by simpa using congrArg List.length e
  omega
end
/-! ### all states -/
def subs : Nat → List (List Nat)
  | 0 => [[]]
  | n + 1 => subs n ++ (subs n).map fun l => l ++ [n]
theorem mem_subs (p : Nat → Bool) : ∀ n, (List.range n).filter p ∈ subs n
  | 0 => by simp [subs]
  | n + 1 => by
    rw [List.range_succ, List.filter_append, subs, List.mem_append]
    by_cases h : p n = true
    · refine .inr (List.mem_map.mpr ⟨_, mem_subs p n, ?_⟩)
      simp [h]
    · refine .inl ?_
      simp [h]
      exact mem_subs p n
theorem subs_len : ∀ n, (subs n).length = 2 ^ n
  | 0 => rfl
  | n + 1 => by
    rw [subs, List.length_append, List.length_map, subs_len n, Nat.pow_succ]
    omega
def allStates (m1 m2 : Mc) : List State := (List.range m1.length).flatMap fun s => (subs m2.length).map fun T => (s, T)
theorem mem_all {m1 m2 : Mc} {q : State} (h : StOk m1 m2 q) : q ∈ allStates m1 m2 := by
  obtain ⟨h1, xs, e⟩ := h
  refine List.mem_flatMap.mpr ⟨q.1, List.mem_range.mpr h1, List.mem_map.mpr ⟨q.2, ?_, rfl⟩⟩
  rw [e]
  exact mem_subs _ _
theorem flat_len {α : Type} (L : List α) : ∀ n, ((List.range n).flatMap fun s => L.map fun T => (s, T)).length = n * L.length
  | 0 => by simp
  | n + 1 => by
    rw [List.range_succ, List.flatMap_append, List.length_append, flat_len L n]
    simp
    rw [Nat.succ_mul]
theorem all_len {m1 m2 : Mc} {w : Nat} (o1 : Ok m1 w) (o2 : Ok m2 w) : (allStates m1 m2).length ≤ 160 := by
  unfold allStates
  rw [flat_len, subs_len]
  have h1 := o1.small
  have h2 : 2 ^ m2.length ≤ 2 ^ 5 := Nat.pow_le_pow_right (by omega) o2.small
  exact Nat.le_trans (Nat.mul_le_mul h1 h2) (by decide)
theorem states_few {m1 m2 : Mc} {w : Nat} (o1 : Ok m1 w) (o2 : Ok m2 w) {V : List State} (hn : V.Nodup) (h : ∀ q ∈ V, StOk m1 m2 q) : V.length ≤ 160 :=
  Nat.le_trans (nodup_len_le V (allStates m1 m2) hn fun q hq => mem_all (h q hq)) (all_len o1 o2)
end Wk
end

section
set_option Elab.async false
set_option linter.all false
set_option maxRecDepth 100000
set_option maxHeartbeats 4000000
namespace Wk
open PySem PySem.Spec PyProof.Rows L2
/-! ### x to 5 x + 1 goes through all numbers below a power of two -/
def five (i : Nat) : Nat → Nat
  | 0 => i
  | k + 1 => five i k * 5 + 1
theorem five_add (i a : Nat) : ∀ b, five i (a + b) = five (five i a) b
  | 0 => rfl
  | b + 1 => by
    show five i (a + b) * 5 + 1 = _
    rw [five_add i a b, five]
theorem five_pow : ∀ e, ∃ c, c % 2 = 1 ∧ ∀ i, five i (2 ^ e) = i + 2 ^ e * c * (4 * i + 1)
  | 0 => ⟨1, rfl, fun i => by simp [five]; omega⟩
  | e + 1 => by
    obtain ⟨c, hc, h⟩ := five_pow e
    refine ⟨c * (1 + 2 * (2 ^ e * c)), ?_, fun i => ?_⟩
    · rw [Nat.mul_mod, hc]
      omega
    · have e1 : 2 ^ (e + 1) = 2 ^ e + 2 ^ e := by rw [Nat.pow_succ]; omega
      rw [e1, five_add, h, h]
      generalize 2 ^ e = N
      grind
theorem five_all : ∀ (e i j : Nat), ∃ k, k < 2 ^ e ∧ five i k % 2 ^ e = j % 2 ^ e
  | 0, i, j => ⟨0, by simp, by simp [Nat.mod_one]⟩
  | e + 1, i, j => by
    obtain ⟨k, hk, h⟩ := five_all e i j
    obtain ⟨c, hc, hp⟩ := five_pow e
    have e1 : 2 ^ (e + 1) = 2 ^ e * 2 := Nat.pow_succ ..
    have hN : 0 < 2 ^ e := Nat.pow_pos (by decide)
    by_cases q : five i k % 2 ^ (e + 1) = j % 2 ^ (e + 1)
    · exact ⟨k, by rw [e1]; omega, q⟩
    · refine ⟨k + 2 ^ e, by rw [e1]; omega, ?_⟩
      rw [five_add, hp]
      generalize five i k = y at h q ⊢
      generalize 2 ^ e = N at h q hN e1 ⊢
      rw [e1] at q ⊢
      rw [Nat.mod_mul, Nat.mod_mul] at q ⊢
      have odd : (c * (4 * y + 1)) % 2 = 1 := by
        rw [Nat.mul_mod, hc]
        omega
      have e2 : y + N * c * (4 * y + 1) = y + N * (c * (4 * y + 1)) := by rw [Nat.mul_assoc]
      rw [e2, Nat.add_mul_mod_self_left, Nat.add_mul_div_left _ _ hN, h]
      rw [h] at q
      have q2 : ¬ y / N % 2 = j / N % 2 := fun z => q (by rw [z])
      have q3 : (y / N + c * (4 * y + 1)) % 2 = j / N % 2 := by omega
      rw [q3]
/-- the masks of tables -/
def MaskB (m : Nat) : Prop := (∃ e, 3 ≤ e ∧ m + 1 = 2 ^ e) ∧ m ≤ 8191
theorem MaskB.odd {m : Nat} (h : MaskB m) : m % 2 = 1 := by
  obtain ⟨⟨e, he, eq⟩, _⟩ := h
  have : 2 ^ e = 2 * 2 ^ (e - 1) := by
    rw [← Nat.pow_succ']
    congr 1
    omega
  omega
theorem lcg_five {m i : Nat} (hi : i ≤ m) : ∀ k, lcgI m i k = five i k % (m + 1)
  | 0 => (Nat.mod_eq_of_lt (Nat.lt_succ_of_le hi)).symm
  | k + 1 => by
    show (lcgI m i k * 5 + 1) % (m + 1) = (five i k * 5 + 1) % (m + 1)
    rw [lcg_five hi k, Nat.add_mod, Nat.mul_mod, Nat.mod_mod, ← Nat.mul_mod, ← Nat.add_mod]
theorem mask_meets {m : Nat} (hm : MaskB m) (h : Int) {j : Nat} (hj : j ≤ m) : ∃ n, n ≤ m + 12 ∧ runI m (SetTable.bits h) n = j := by
  obtain ⟨⟨e, _, eq⟩, _⟩ := hm
  have hi := runI_le m (SetTable.bits h) 12
  obtain ⟨k, hk, ek⟩ := five_all e (runI m (SetTable.bits h) 12) j
  refine ⟨12 + k, by omega, ?_⟩
  rw [runI_tail (bits_lt h), lcg_five hi, eq, ek, ← eq]
  exact Nat.mod_eq_of_lt (Nat.lt_succ_of_le hj)
theorem way_meets {m : Nat} (hm : MaskB m) (h : Int) {j : Nat} (hj : j ≤ m) : ∃ k, k < 10 * SetTable.turns m ∧ way m h k = j := by
  obtain ⟨n, hn, e⟩ := mask_meets hm h hj
  obtain ⟨k, hk, e2⟩ := run_nth m (SetTable.bits h) n
  refine ⟨k, by unfold SetTable.turns; omega, ?_⟩
  show (nth m (runAt m (SetTable.bits h % (m + 1)) (SetTable.bits h)) k).j = j
  rw [e2]
  exact e
theorem way_in {m : Nat} {h : Int} {k : Nat} : way m h k ≤ m := by
  have hi : SetTable.bits h % (m + 1) ≤ m := Nat.le_of_lt_succ (Nat.mod_lt _ (Nat.succ_pos _))
  have r := runEnd_bd hi
  have q : (nth m (runAt m (SetTable.bits h % (m + 1)) (SetTable.bits h)) k).j + (nth m (runAt m (SetTable.bits h % (m + 1)) (SetTable.bits h)) k).more ≤ m := nth_in k _ (by
    show SetTable.bits h % (m + 1) + (SetTable.runEnd m (SetTable.bits h % (m + 1)) - SetTable.bits h % (m + 1)) ≤ m
    omega)
  exact Nat.le_trans (Nat.le_add_right _ _) q
/-! ### the size of a table -/
theorem size_go (n : Nat) : ∀ (f e : Nat), n < 2 ^ e * 2 ^ f → ∃ e', e ≤ e' ∧ SetTable.sizeAbove.go n f (2 ^ e) = 2 ^ e' ∧ n < 2 ^ e' ∧ (e' = e ∨ 2 ^ e' ≤ 2 * n)
  | 0, e, h => ⟨e, Nat.le_refl _, rfl, by simpa using h, .inl rfl⟩
  | f + 1, e, h => by
    unfold SetTable.sizeAbove.go
    by_cases c : 2 ^ e ≤ n
    · rw [if_pos c]
      have e2 : 2 ^ e * 2 = 2 ^ (e + 1) := (Nat.pow_succ ..).symm
      rw [e2]
      obtain ⟨e', h1, h2, h3, h4⟩ := size_go n f (e + 1) (by
        rw [Nat.pow_succ 2 f] at h
        rw [← e2, Nat.mul_assoc, Nat.mul_comm 2 (2 ^ f)]
        exact h)
      refine ⟨e', by omega, h2, h3, .inr ?_⟩
      rcases h4 with h4 | h4
      · rw [h4]
        omega
      · exact h4
    · rw [if_neg c]
      exact ⟨e, Nat.le_refl _, rfl, by omega, .inl rfl⟩
theorem size_above {n : Nat} (h : n ≤ 4000) : ∃ e, 3 ≤ e ∧ SetTable.sizeAbove n = 2 ^ e ∧ n < 2 ^ e ∧ 2 ^ e ≤ 8000 := by
  obtain ⟨e, h1, h2, h3, h4⟩ := size_go n 64 3 (by
    have : (2 : Nat) ^ 3 * 2 ^ 64 = 147573952589676412928 := by decide
    omega)
  refine ⟨e, h1, h2, h3, ?_⟩
  rcases h4 with h4 | h4
  · rw [h4]
    decide
  · omega
/-! ### tables: what is kept of them -/
structure TabW (t : SetTable) (n : Nat) : Prop where
  ris : Ris t.place.toList
  dm : t.dummies = #[]
  sz : t.place.size = n
  mok : MaskB t.mask
  bd : ∀ x ∈ t.place.toList, x ≤ t.mask
theorem TabW.first {t : SetTable} {n : Nat} (T : TabW t n) (hl : n ≤ t.mask) (h : Int) : ∃ K, K < 10 * SetTable.turns t.mask ∧ way t.mask h K ∉ t.place.toList ∧ ∀ k, k < K → way t.mask h k ∈ t.place.toList := by
  obtain ⟨j, hj, hn⟩ := st_missing t.place.toList (t.mask + 1) (by rw [Array.length_toList, T.sz]; omega)
  obtain ⟨k, hk, e⟩ := way_meets T.mok h (Nat.le_of_lt_succ hj)
  obtain ⟨K, h1, h2, h3⟩ := st_least (p := fun k => way t.mask h k ∉ t.place.toList) k (by rw [e]; exact hn)
  exact ⟨K, Nat.lt_of_le_of_lt h1 hk, h2, fun k' hk' => Classical.byContradiction fun c => h3 k' hk' c⟩
theorem TabW.put {t : SetTable} {n : Nat} (T : TabW t n) {j : Nat} (hj : j ≤ t.mask) (hK : j ∉ t.place.toList) :
    (t.put j).2 = SetTable.below t.place j ∧ SetTable.below t.place j ≤ n ∧ TabW (t.put j).1 (n + 1) ∧ (t.put j).1.mask = t.mask ∧ (t.put j).1.led = t.led ∧ (t.put j).1.plain = t.plain ∧ (t.put j).1.fill = n + 1 := by
  obtain ⟨c1, _, _⟩ := below_cut T.ris j
  have hpl : SetTable.below t.place j ≤ t.place.toList.length := c1
  have hnp : t.place[SetTable.below t.place j]? ≠ some j := fun e => hK (List.mem_of_getElem? (by rw [Array.getElem?_toList]; exact e))
  have hpp := put_place t j
  have hsize : (t.put j).1.place.size = n + 1 := by
    rw [← Array.length_toList, hpp, len_ins _ hpl, Array.length_toList, T.sz]
  refine ⟨rfl, by rw [← T.sz]; exact c1, ⟨ris_insert T.ris hnp, put_dm T.dm j, hsize, T.mok, fun x hx => ?_⟩, rfl, rfl, rfl, ?_⟩
  · rw [hpp] at hx
    rcases mem_ins.1 hx with z | z
    · rw [z]; exact hj
    · exact T.bd x z
  · show (t.put j).1.place.size + (t.put j).1.dummies.size = n + 1
    rw [hsize, put_dm T.dm j]
    rfl
/-! ### all laid anew -/
theorem mask_free {m : Nat} (hm : MaskB m) (owner : Array (Option Nat)) (h : Int) {j : Nat} (hj : j ≤ m) (hf : oAt owner j = none) :
    ∃ K, SetTable.layClean.free m owner (SetTable.turns m) (SetTable.bits h % (m + 1)) (SetTable.bits h) = some (way m h K) ∧ oAt owner (way m h K) = none := by
  obtain ⟨n, hn, e⟩ := mask_meets hm h hj
  have hw : oAt owner (way m h (off m (SetTable.bits h % (m + 1)) (SetTable.bits h) n)) = none := by
    have : way m h (off m (SetTable.bits h % (m + 1)) (SetTable.bits h) n) = j := by
      unfold way
      rw [nth_off, itL_run]
      exact e
    rw [this]; exact hf
  obtain ⟨K, k1, k2, k3⟩ := st_least (p := fun k => oAt owner (way m h k) = none) _ hw
  refine ⟨K, free_spec m owner (SetTable.turns m) n _ _ K (by unfold SetTable.turns; omega) k1 (fun k hk => ?_) (by rw [k2]; rfl), k2⟩
  cases z : oAt owner (way m h k) with
  | none => exact absurd z (k3 k hk)
  | some _ => rfl
structure OwnW (m n : Nat) (owner : Array (Option Nat)) : Prop where
  sz : owner.size = m + 1
  all : ∀ k, k < n → ∃ j, j ≤ m ∧ oAt owner j = some k
  ps : ∃ ps : List Nat, ps.length = n ∧ ∀ j, j ≤ m → oAt owner j ≠ none → j ∈ ps
theorem OwnW.init (m : Nat) : OwnW m 0 (Array.replicate (m + 1) none) :=
  ⟨by simp, fun k hk => absurd hk (Nat.not_lt_zero _), [], rfl, fun j hj e => absurd (oAt_init hj) e⟩
theorem OwnW.step {m n : Nat} (hm : MaskB m) {owner : Array (Option Nat)} (W : OwnW m n owner) (hl : n ≤ m) (h : Int) :
    ∃ j, SetTable.layClean.free m owner (SetTable.turns m) (SetTable.bits h % (m + 1)) (SetTable.bits h) = some j ∧ OwnW m (n + 1) (owner.setIfInBounds j (some n)) := by
  obtain ⟨ps, hps, hin⟩ := W.ps
  obtain ⟨j0, h0, hn0⟩ := st_missing ps (m + 1) (by omega)
  have hj0 : oAt owner j0 = none := Classical.byContradiction fun c => hn0 (hin j0 (Nat.le_of_lt_succ h0) c)
  obtain ⟨K, e1, e2⟩ := mask_free hm owner h (Nat.le_of_lt_succ h0) hj0
  refine ⟨way m h K, e1, ?_⟩
  have hjm : way m h K ≤ m := way_in
  generalize way m h K = j at e2 hjm ⊢
  have hself := oAt_set_self (owner := owner) (some n) (show j < owner.size by rw [W.sz]; omega)
  refine ⟨by rw [Array.size_setIfInBounds]; exact W.sz, fun k hk => ?_, j :: ps, by rw [List.length_cons, hps], fun i hi e => ?_⟩
  · by_cases c : k < n
    · obtain ⟨i, hi, e⟩ := W.all k c
      refine ⟨i, hi, ?_⟩
      rw [oAt_set_ne _ (fun z => by rw [z, e2] at e; cases e)]
      exact e
    · exact ⟨j, hjm, by rw [hself, show k = n by omega]⟩
  · by_cases c : i = j
    · rw [c]; exact List.mem_cons_self
    · rw [oAt_set_ne _ c] at e
      exact List.mem_cons_of_mem _ (hin i hi e)
theorem own_fold {m : Nat} (hm : MaskB m) : ∀ (rest : List Int) (n : Nat) (owner : Array (Option Nat)), OwnW m n owner → n + rest.length ≤ m →
    ∃ owner', rest.foldl (stepF m) (some (owner, n)) = some (owner', n + rest.length) ∧ OwnW m (n + rest.length) owner'
  | [], n, owner, W, _ => ⟨owner, rfl, W⟩
  | h :: rest, n, owner, W, hl => by
    rw [List.length_cons] at hl
    obtain ⟨j, e, W'⟩ := W.step hm (by omega) h
    obtain ⟨owner', f, W2⟩ := own_fold hm rest (n + 1) _ W' (by omega)
    have ea : n + (h :: rest).length = n + 1 + rest.length := by rw [List.length_cons]; omega
    rw [ea]
    refine ⟨owner', ?_, W2⟩
    rw [List.foldl_cons, stepF_some e]
    exact f
theorem mask_relaid (t : SetTable) {hs : Array Int} {wanted : Nat} (hM : MaskB (SetTable.sizeAbove wanted - 1)) (hn : hs.size ≤ SetTable.sizeAbove wanted - 1) :
    ∃ t' order, t.relaid hs wanted = some (t', order) ∧ order.toList.Perm (List.range hs.size) ∧ TabW t' hs.size ∧ t'.mask = SetTable.sizeAbove wanted - 1 ∧ t'.led = t.led ∧ t'.plain = t.plain := by
  generalize hw : SetTable.sizeAbove wanted - 1 = M at hM hn ⊢
  obtain ⟨owner, f, W⟩ := own_fold hM hs.toList 0 _ (OwnW.init M) (by rw [Array.length_toList]; omega)
  rw [Nat.zero_add, Array.length_toList] at f W
  have e : SetTable.layClean M hs = some owner := by
    rw [layClean_eq, f]
    rfl
  have hr : t.relaid hs wanted = some (tabOf t M owner, ((liveOf M owner).map (·.2)).toArray) := by
    rw [relaid_eq, hw, e]
    rfl
  obtain ⟨r1, r2⟩ : Ris ((liveOf M owner).map (·.1)) ∧ ∀ x ∈ (liveOf M owner).map (·.1), x ∈ List.range (M + 1) := ris_live (fun j => owner.getD j none) (List.range (M + 1)) List.pairwise_lt_range
  have nd : ((liveOf M owner).map (·.1)).Nodup := r1.imp fun h => Nat.ne_of_lt h
  have inall : ∀ k, k < hs.size → k ∈ (liveOf M owner).map (·.2) := fun k hk => by
    obtain ⟨j, b1, b2⟩ := W.all k hk
    exact List.mem_map.mpr ⟨(j, k), (mem_live W.sz).2 ⟨b1, b2⟩, rfl⟩
  have hlen : (liveOf M owner).length = hs.size := by
    obtain ⟨ps, p1, p2⟩ := W.ps
    have a := nat_nodup_len ((liveOf M owner).map (·.1)) ps nd fun x hx => by
      obtain ⟨⟨y, k⟩, hq, rfl⟩ := List.mem_map.mp hx
      obtain ⟨b1, b2⟩ := (mem_live W.sz).1 hq
      exact p2 y b1 (by rw [b2]; exact fun z => nomatch z)
    have b := nat_nodup_len (List.range hs.size) ((liveOf M owner).map (·.2)) List.nodup_range fun k hk => inall k (List.mem_range.mp hk)
    rw [List.length_map, p1] at a
    rw [List.length_map, List.length_range] at b
    omega
  refine ⟨tabOf t M owner, ((liveOf M owner).map (·.2)).toArray, hr, ?_, ⟨r1, rfl, ?_, hM, fun x hx => ?_⟩, rfl, rfl, rfl⟩
  · refine perm_range hs.size _ ?_ inall
    show ((liveOf M owner).map (·.2)).length = hs.size
    rw [List.length_map]
    exact hlen
  · show ((liveOf M owner).map (·.1)).toArray.size = hs.size
    rw [List.size_toArray, List.length_map, hlen]
  · exact Nat.le_of_lt_succ (List.mem_range.mp (r2 x hx))
end Wk
end

section
set_option Elab.async false
set_option linter.all false
set_option maxRecDepth 100000
set_option maxHeartbeats 4000000
namespace Wk
open PySem PySem.Spec PyProof.Rows L2
/-! ### keys without texts -/
mutual
def noTxt : NestedKey → Bool
  | .none => true
  | .num _ => true
  | .text _ => false
  | .tup ks => noTxts ks
def noTxts : List NestedKey → Bool
  | [] => true
  | k :: ks => noTxt k && noTxts ks
end
section
variable {P : Program} {w : World} {A : Around} {E : Value → Shared → Prop} {s : Shared}
def NoClass (P : Program) (w : World) (n : Nat) (s : Shared) (v : Value) : Prop := ∀ (A : Around) (E : Value → Shared → Prop) (Q : Bool → Shared → Prop), Q false s → wpAny (model P w) A (ofAClassStatement n v) Q E s
def ByVal (P : Program) (w : World) (n : Nat) (s : Shared) (v : Value) : Prop := ∀ (A : Around) (E : Value → Shared → Prop) (Q : Bool → Shared → Prop), Q true s → wpAny (model P w) A (hashByValue n v) Q E s
theorem noClass_tup {n : Nat} {a : Addr} {o : Obj} {vs : Array Value} {m : Nat} (ho : s.heap.get? a = some o) (hc : o.cls = .type "tuple") (hd : o.data = .seq vs m) (hq : ∀ v ∈ vs.toList, NoClass P w n s v) : NoClass P w (n + 1) s (.ref a) := fun A E Q hQ => by
  have hT : s.TypeIs (.ref a) "tuple" := ⟨o, ho, hc⟩
  unfold ofAClassStatement
  refine wpAny_bind (wpAny_typeOf hT ?_)
  dsimp only
  simp only [show (("tuple" : String) == "tuple") = true from by decide, if_true, Bool.not_true, Bool.false_eq_true, if_false]
  try refine wpAny_bind (wpAny_pure ?_)
  try simp only [Bool.not_true, Bool.false_eq_true, if_false]
  show wpAny _ _ (seqItems? (.ref a) >>= _) _ _ s
  refine wpAny_bind (wpAny_seqItems ho hd ?_); dsimp only
  refine wpAny_bind ?_; show wpAny _ _ (forIn vs _ _) _ _ s
  rw [← Array.forIn_toList]
  refine wpAny_forIn_list _ (fun rest r s' => r.1 = none ∧ s' = s ∧ ∀ v ∈ rest, NoClass P w n s v) _ ?_ ?_ _ _ ⟨rfl, rfl, hq⟩
  · rintro v rest r s' ⟨hr, rfl, hall⟩
    refine wpAny_bind (hall v List.mem_cons_self A E _ ?_)
    simp only [Bool.false_eq_true, if_false]
    exact wpAny_pure ⟨rfl, rfl, fun u hu' => hall u (List.mem_cons_of_mem _ hu')⟩
  · rintro ⟨r1, r2⟩ s' ⟨hr, rfl, _⟩
    simp only at hr; subst hr
    exact wpAny_pure hQ
theorem byVal_tup {n : Nat} {a : Addr} {o : Obj} {vs : Array Value} {m : Nat} (ho : s.heap.get? a = some o) (hc : o.cls = .type "tuple") (hd : o.data = .seq vs m) (hq : ∀ v ∈ vs.toList, ByVal P w n s v) : ByVal P w (n + 1) s (.ref a) := fun A E Q hQ => by
  have hT : s.TypeIs (.ref a) "tuple" := ⟨o, ho, hc⟩
  unfold hashByValue
  refine wpAny_bind (wpAny_specialOf hT F.slot_tuple_hash.lookup ?_)
  show wpAny _ _ (seqItems? (.ref a) >>= _) _ _ s
  refine wpAny_bind (wpAny_seqItems ho hd ?_); refine wpAny_bind ?_
  show wpAny _ _ (forIn vs _ _) _ _ s
  rw [← Array.forIn_toList]
  refine wpAny_forIn_list _ (fun rest r s' => r.1 = none ∧ s' = s ∧ ∀ v ∈ rest, ByVal P w n s v) _ ?_ ?_ _ _ ⟨rfl, rfl, hq⟩
  · rintro v rest r s' ⟨hr, rfl, hall⟩
    refine wpAny_bind (hall v List.mem_cons_self A E _ ?_)
    simp only [Bool.not_true, Bool.false_eq_true, if_false]
    exact wpAny_pure ⟨rfl, rfl, fun u hu' => hall u (List.mem_cons_of_mem _ hu')⟩
  · rintro ⟨r1, r2⟩ s' ⟨hr, rfl, _⟩
    simp only at hr; subst hr
    exact wpAny_pure hQ
mutual
theorem key_noClass : ∀ (k : NestedKey) (v : Value) (n : Nat) (s : Shared), NestedIs s.heap k v → k.depth ≤ n → NoClass P w n s v
  | .none, _, n, s, x, _ => by cases x; exact fun A E Q h => by cases n <;> exact wpAny_pure h
  | .num i, _, n, s, x, _ => by cases x <;> exact fun A E Q h => by cases n <;> exact wpAny_pure h
  | .text y, _, n, s, x, _ => by cases x; exact fun A E Q h => by cases n <;> exact wpAny_pure h
  | .tup ks, _, n, s, x, hn => by
    cases x with
    | tup hg hc hd hk =>
      simp only [NestedKey.depth] at hn
      cases n with
      | zero => omega
      | succ n => exact noClass_tup hg hc hd (keys_noClass ks _ n s hk (by omega))
theorem keys_noClass : ∀ (ks : List NestedKey) (vs : List Value) (n : Nat) (s : Shared), NestedAll s.heap ks vs → NestedKey.depthAll ks ≤ n → ∀ v ∈ vs, NoClass P w n s v
  | [], _, _, _, x, _ => by cases x; exact fun v hv => by cases hv
  | k :: ks, _, n, s, x, hn => by
    cases x with
    | cons x1 x2 =>
      simp only [NestedKey.depthAll] at hn
      intro v hv
      rcases List.mem_cons.mp hv with rfl | hv
      · exact key_noClass k _ n s x1 (by omega)
      · exact keys_noClass ks _ n s x2 (by omega) v hv
end
mutual
theorem key_byVal : ∀ (k : NestedKey) (v : Value) (n : Nat) (s : Shared), NestedIs s.heap k v → k.depth ≤ n → noTxt k = true → ByVal P w n s v
  | .none, _, n, s, x, _, _ => by cases x; exact fun A E Q h => by cases n <;> exact wpAny_pure h
  | .num i, _, n, s, x, _, _ => by cases x <;> exact fun A E Q h => by cases n <;> exact wpAny_pure h
  | .text y, _, n, s, x, _, ht => by simp [noTxt] at ht
  | .tup ks, _, n, s, x, hn, ht => by
    cases x with
    | tup hg hc hd hk =>
      simp only [NestedKey.depth] at hn
      simp only [noTxt] at ht
      cases n with
      | zero => omega
      | succ n => exact byVal_tup hg hc hd (keys_byVal ks _ n s hk (by omega) ht)
theorem keys_byVal : ∀ (ks : List NestedKey) (vs : List Value) (n : Nat) (s : Shared), NestedAll s.heap ks vs → NestedKey.depthAll ks ≤ n → noTxts ks = true → ∀ v ∈ vs, ByVal P w n s v
  | [], _, _, _, x, _, _ => by cases x; exact fun v hv => by cases hv
  | k :: ks, _, n, s, x, hn, ht => by
    cases x with
    | cons x1 x2 =>
      simp only [NestedKey.depthAll] at hn
      simp only [noTxts, Bool.and_eq_true] at ht
      intro v hv
      rcases List.mem_cons.mp hv with rfl | hv
      · exact key_byVal k _ n s x1 (by omega) ht.1
      · exact keys_byVal ks _ n s x2 (by omega) ht.2 v hv
end
/-- the tuple at a is the key k -/
structure KeyAt (h : Heap) (k : NestedKey) (a : Addr) : Prop where
  is : NestedIs h k (.ref a)
  dp : k.depth ≤ 8
  nt : noTxt k = true
theorem KeyAt.seqs {h h' : Heap} {k : NestedKey} {a : Addr} (x : KeyAt h k a) (hk : ∀ a o vs n, h.get? a = some o → o.data = .seq vs n → h'.get? a = some o) : KeyAt h' k a := ⟨NestedIs.at hk k _ x.is, x.dp, x.nt⟩
theorem KeyAt.keep {h h' : Heap} {k : NestedKey} {a : Addr} (x : KeyAt h k a) (hk : ∀ c o, h.get? c = some o → h'.get? c = some o) : KeyAt h' k a := x.seqs fun a o _ _ e _ => hk a o e
theorem KeyAt.same {h h' : Heap} {k : NestedKey} {a b : Addr} {o : Obj} {es : Array (Int × Value)} {ep : Nat} {t : SetTable} (x : KeyAt h k b) (ho : h.get? a = some o) (hd : o.data = .set es ep t) (hs : Heap.SameBut a h h') : KeyAt h' k b :=
  x.seqs fun c u vs n e hu => (hs.2 c fun z => by
    subst z
    rw [ho] at e
    cases e
    rw [hd] at hu
    cases hu).trans e
/-- a search among keys shows nothing -/
theorem keys_unseen {k : NestedKey} {b : Addr} {Q : Bool → Shared → Prop} (hk : KeyAt s.heap k b) {ys : List Value} (hy : ∀ y ∈ ys, ∃ k' c, y = Value.ref c ∧ KeyAt s.heap k' c) (h : Q false s) :
    wpAny (model P w) A (searchCouldBeSeen (.ref b) ys) Q E s := by
  unfold searchCouldBeSeen
  refine wpAny_bind (wpAny_forIn_list _ (fun rest r s' => r.1 = none ∧ s' = s ∧ ∀ y ∈ rest, ∃ k' c, y = Value.ref c ∧ KeyAt s.heap k' c) _ ?_ ?_ _ _ ⟨rfl, rfl, hy⟩)
  · rintro v rest r s' ⟨hr, rfl, hall⟩
    obtain ⟨k', c, rfl, hc⟩ := hall v List.mem_cons_self
    have rest' : ∀ y ∈ rest, ∃ k' c, y = Value.ref c ∧ KeyAt s'.heap k' c := fun u hu' => hall u (List.mem_cons_of_mem _ hu')
    dsimp only
    by_cases hv : (b == c || (carriedByValue (.ref b) && carriedByValue (.ref c))) = true
    · exact wp_if_pos hv (wpAny_pure ⟨rfl, rfl, rest'⟩)
    · refine wp_if_neg hv (wpAny_bind (quiet_key k _ 8 _ hk.is hk.dp A E _ ?_))
      simp only [Bool.not_true, Bool.false_eq_true, if_false]
      refine wpAny_bind (quiet_key k' _ 8 _ hc.is hc.dp A E _ ?_)
      simp only [Bool.not_true, Bool.false_eq_true, if_false]
      refine wpAny_bind (key_noClass k _ 8 _ hk.is hk.dp A E _ ?_)
      simp only [Bool.false_eq_true, if_false]
      refine wpAny_bind (key_noClass k' _ 8 _ hc.is hc.dp A E _ ?_)
      simp only [Bool.false_eq_true, if_false]
      exact wpAny_pure ⟨rfl, rfl, rest'⟩
  · rintro ⟨r1, r2⟩ s' ⟨hr, rfl, _⟩
    simp only at hr; subst hr
    exact wpAny_pure h
/-! ### a set of keys -/
abbrev KL := List (Addr × NestedKey)
def krow (w : World) (p : Addr × NestedKey) : Int × Value := (p.2.hash w, Value.ref p.1)
structure SetW (P : Program) (w : World) (h : Heap) (a : Addr) (L : KL) (es : Array (Int × Value)) (ep : Nat) (t : SetTable) : Prop where
  ob : ∃ o, h.get? a = some o ∧ o.ExactSet ∧ o.data = .set es ep t
  rows : es.toList = L.map (krow w)
  tab : TabW t L.length
  keys : ∀ p ∈ L, KeyAt h p.2 p.1
  plain : t.plain = true
  led : w.params.followText "set-order" = true ∨ t.led = true
  room : L.length * 5 < t.mask * 3
  few : L.length ≤ 1000
variable {a : Addr} {L : KL} {es : Array (Int × Value)} {ep : Nat} {t : SetTable}
theorem rows_size {es : Array (Int × Value)} (h : es.toList = L.map (krow w)) : es.size = L.length := by
  rw [← Array.length_toList, h, List.length_map]
theorem SetW.size (R : SetW P w s.heap a L es ep t) : es.size = L.length := rows_size R.rows
theorem tab_fits {t : SetTable} {n : Nat} (T : TabW t n) (h : n ≤ t.mask) : t.fits n = true := by
  unfold SetTable.fits SetTable.fill
  rw [T.dm, Bool.and_eq_true, beq_iff_eq, decide_eq_true_eq, T.sz]
  exact ⟨rfl, h⟩
theorem SetW.fits (R : SetW P w s.heap a L es ep t) : t.fits es.size = true := by
  rw [R.size]
  exact tab_fits R.tab (by have := R.room; omega)
theorem krow_at {es : Array (Int × Value)} (h : es.toList = L.map (krow w)) {i : Nat} {p : Addr × NestedKey} (hp : L[i]? = some p) : es[i]? = some (krow w p) := by
  rw [← Array.getElem?_toList, h, List.getElem?_map, hp]
  rfl
theorem SetW.gw (R : SetW P w s.heap a L es ep t) : ¬ t.gaveWay = true := by
  unfold SetTable.gaveWay
  rw [R.tab.mok.odd]
  decide
/-- the search, from the c-th step of the way on -/
theorem key_search (R : SetW P w s.heap a L es ep t) {x : Addr} {k : NestedKey} (hx : KeyAt s.heap k x) (hu : A.units + 8 < cLine) {K : Nat} (hKf : K < 10 * SetTable.turns t.mask)
    (hK : way t.mask (k.hash w) K ∉ t.place.toList) (hKb : ∀ c, c < K → way t.mask (k.hash w) c ∈ t.place.toList) {Q : SetFound → Shared → Prop}
    (hin : k ∈ L.map (·.2) → Q (.there none) s) (hout : Q (.free (way t.mask (k.hash w) K) false) s) :
    ∀ (f c : Nat) (stand : Option SetTable.Probe), stand.getD (t.probeStart (k.hash w)) = nth t.mask (runAt t.mask (SetTable.bits (k.hash w) % (t.mask + 1)) (SetTable.bits (k.hash w))) c → c ≤ K → K - c < f →
      wpAny (model P w) A (setSearchFrom a (.ref x) (k.hash w) true f stand) Q E s
  | 0, c, stand, _, _, hf => absurd hf (Nat.not_lt_zero _)
  | f + 1, c, stand, hst, hc, hf => by
    obtain ⟨o, ho, hex, hd⟩ := R.ob
    generalize hh : k.hash w = hv at *
    generalize hp0 : runAt t.mask (SetTable.bits hv % (t.mask + 1)) (SetTable.bits hv) = p0 at *
    have way_eq : ∀ q, way t.mask hv q = (nth t.mask p0 q).j := fun q => by rw [← hp0]
    rw [setSearchFrom_succ]
    refine wpAny_bind (wpAny_setState_of ho hd R.fits ?_); dsimp only
    refine wp_if_neg R.gw ?_
    try refine wpAny_bind (wpAny_pure ?_)
    have hnd : (nth t.mask p0 c).dummy = none := by
      have key : ∀ (n : Nat) (p : SetTable.Probe), p.dummy = none → (nth t.mask p n).dummy = none := by
        intro n
        induction n with
        | zero => exact fun p h => h
        | succ n ih => exact fun p h => ih (adv t.mask p) (by unfold adv; split <;> exact h)
      exact key c _ (by rw [← hp0]; rfl)
    have sh : ∀ q, nth t.mask (nth t.mask p0 c) q = nth t.mask p0 (c + q) := fun q => (nth_add t.mask c _ q).symm
    have spec := go_spec t R.tab.ris R.tab.dm (fun i => (es[i]?.map (·.1)).getD 0) hv (10 * SetTable.turns t.mask) (K - c) _ hnd (by omega)
      (fun q hq => by rw [sh, ← way_eq]; exact hKb (c + q) (by omega)) (by rw [sh, show c + (K - c) = K by omega, ← way_eq]; exact hK)
    have eprobe : t.probe (fun i => (es[i]?.map (·.1)).getD 0) hv (stand.getD (t.probeStart hv)) = SetTable.probe.go t (fun i => (es[i]?.map (·.1)).getD 0) hv (10 * SetTable.turns t.mask) (nth t.mask p0 c) := by
      rw [hst]
      rfl
    rw [eprobe]
    rcases spec with ⟨q, i, hq, hi, _, _, hpr⟩ | ⟨_, hpr⟩
    · rw [hpr]
      dsimp only
      have hil : i < L.length := by
        have h1 := (List.getElem?_eq_some_iff.mp hi).1
        rw [Array.length_toList, R.tab.sz] at h1
        exact h1
      have hp : L[i]? = some L[i] := List.getElem?_eq_getElem hil
      generalize L[i] = p at hp
      have hmem : p ∈ L := List.mem_of_getElem? hp
      have hpt := R.keys p hmem
      have rest : wpAny (model P w) A (searchRest a (.ref x) hv true f es t (nth t.mask (nth t.mask p0 c) q).j i (nth t.mask (nth t.mask p0 c) (q + 1))) Q E s := by
        unfold searchRest
        rw [krow_at R.rows hp]
        dsimp only [krow]
        have dpm : min p.2.depth k.depth ≤ 8 := Nat.le_trans (Nat.min_le_left _ _) hpt.dp
        refine wpAny_bind (wpAny_holding (eqAt_key p.2 k A s _ _ hpt.is hx.is (by omega) P w _ _ ?_))
        rw [← NestedKey.decide_eq]
        refine wpAny_bind (wpAny_setState_of ho hd R.fits ?_); dsimp only
        by_cases hkk : p.2 = k
        · exact wp_if_pos (by simp [hkk]) (wpAny_pure (hin (List.mem_map.mpr ⟨p, hmem, hkk⟩)))
        · refine wp_if_neg (by simp [hkk]) ?_
          try refine wpAny_bind (wpAny_pure ?_)
          rw [sameMem]; dsimp only
          have hsl : t.slot (nth t.mask (nth t.mask p0 c) q).j = .live i := slot_live R.tab.ris hi
          simp only [if_true, hsl, krow_at R.rows hp, krow]
          refine wpAny_bind (wpAny_isSame_ref_self (wpAny_bind (wpAny_pure ?_)))
          simp only [if_true]
          refine wp_if_neg (by simp [hkk]) ?_
          subst hh
          exact key_search R hx hu hKf hK hKb hin hout f (c + (q + 1)) _ (by rw [Option.getD_some, sh, hp0]) (by omega) (by omega)
      by_cases hl : t.led = true
      · refine wp_if_neg (by simp [hl]) ?_
        try refine wpAny_bind (wpAny_pure ?_)
        exact rest
      · refine wp_if_pos (by simp [hl]) (wpAny_bind (keys_unseen hx (fun y hy => ?_) ?_))
        · obtain ⟨e, he, ee⟩ := List.mem_map.mp hy
          have he1 : e ∈ es ∧ e.1 = hv := by simpa using he
          have he2 : e ∈ es.toList := by simpa using he1.1
          rw [R.rows] at he2
          obtain ⟨p2, hp2, e2⟩ := List.mem_map.mp he2
          exact ⟨p2.2, p2.1, by rw [← ee, ← e2]; rfl, R.keys p2 hp2⟩
        · refine wp_if_neg (by decide) ?_
          try refine wpAny_bind (wpAny_pure ?_)
          exact rest
    · rw [hpr]; dsimp only
      rw [sh, show c + (K - c) = K by omega, ← way_eq]
      exact wpAny_pure hout
theorem key_find (R : SetW P w s.heap a L es ep t) {x : Addr} {k : NestedKey} (hx : KeyAt s.heap k x) (hu : A.units + 8 < cLine) {Q : SetFound → Shared → Prop}
    (hin : k ∈ L.map (·.2) → Q (.there none) s) (hout : ∀ j, j ≤ t.mask → j ∉ t.place.toList → Q (.free j false) s) :
    wpAny (model P w) A (setSearch a (.ref x) (k.hash w) true) Q E s := by
  have hroom := R.room
  obtain ⟨K, hKf, hK, hKb⟩ := R.tab.first (by omega) (k.hash w)
  have hbig : 10 * SetTable.turns t.mask < 100000 := by
    have := R.tab.mok.2
    unfold SetTable.turns
    omega
  unfold setSearch
  exact key_search R hx hu hKf hK hKb hin (hout _ way_in hK) 100000 0 none rfl (Nat.zero_le _) (by omega)
/-! ### the table laid anew, larger -/
theorem order_keys {es : Array (Int × Value)} (hr : es.toList = L.map (krow w)) {order : Array Nat} (hp : order.toList.Perm (List.range L.length)) :
    ∃ L2 : KL, (order.filterMap (es[·]?)).toList = L2.map (krow w) ∧ L2.Perm L := by
  refine ⟨order.toList.filterMap fun i => L[i]?, ?_, ?_⟩
  · rw [Array.toList_filterMap, List.map_filterMap]
    congr 1
    funext i
    rw [← Array.getElem?_toList, hr, List.getElem?_map]
  · refine (hp.filterMap _).trans (List.Perm.of_eq ?_)
    have : ∀ n, n ≤ L.length → (List.range n).filterMap (fun i => L[i]?) = L.take n := by
      intro n
      induction n with
      | zero => exact fun _ => rfl
      | succ n ih =>
        intro hn
        rw [List.range_succ, List.filterMap_append, ih (by omega), List.take_succ, List.getElem?_eq_getElem hn, List.filterMap_cons_some (List.getElem?_eq_getElem hn)]
        rfl
    rw [this _ (Nat.le_refl _), List.take_length]
theorem key_relay {o : Obj} (ho : s.heap.get? a = some o) (hex : o.ExactSet) (hd : o.data = .set es ep t) (hrows : es.toList = L.map (krow w)) (T : TabW t L.length) (hfl : L.length ≤ t.mask)
    (keys : ∀ p ∈ L, KeyAt s.heap p.2 p.1) (pl : t.plain = true) (ld : w.params.followText "set-order" = true ∨ t.led = true) (few : L.length ≤ 1000) (hL : 0 < L.length) {Q : Unit → Shared → Prop}
    (hQ : ∀ h' L' es' ep' t', Heap.SameBut a s.heap h' → SetW P w h' a L' es' ep' t' → L'.Perm L → Q () { s with heap := h' }) : wpAny (model P w) A (setRelay a (SetTable.grown L.length)) Q E s := by
  have hsl : es.size = L.length := rows_size hrows
  have hgr : SetTable.grown L.length = L.length * 4 := by
    unfold SetTable.grown
    rw [if_neg (by omega)]
  obtain ⟨e, e1, e2, e3, e4⟩ := size_above (n := L.length * 4) (by omega)
  have hM : MaskB (SetTable.sizeAbove (L.length * 4) - 1) := by
    rw [e2]
    have := Nat.pow_pos (n := e) (show 0 < 2 by decide)
    exact ⟨⟨e, e1, by omega⟩, by omega⟩
  obtain ⟨t', order, er, hp, T', em, el, ep'⟩ := mask_relaid t (hs := es.map (·.1)) (wanted := L.length * 4) hM (by rw [Array.size_map, hsl, e2]; omega)
  rw [Array.size_map, hsl] at hp T'
  obtain ⟨L2, r1, r2⟩ := order_keys hrows hp
  have hs2 : (order.filterMap (es[·]?)).size = es.size := by rw [rows_size r1, r2.length_eq, hsl]
  rw [hgr, setRelay_eq]
  refine wpAny_bind (wpAny_setState_of ho hd (by rw [hsl]; exact tab_fits T hfl) ?_); dsimp only
  refine wp_if_neg (by rw [sizeLine_eq, e2]; omega) ?_
  try refine wpAny_bind (wpAny_pure ?_)
  rw [er]; dsimp only
  refine wpAny_bind (wp_if_neg (by rw [hs2]; simp) ?_)
  try refine wpAny_bind (wpAny_pure ?_)
  refine wpAny_pure ?_; dsimp only
  refine wpAny_storeSet_of ho hd ?_ (by rw [hs2, hsl, sizeLine_eq]; omega)
  have sb : Heap.SameBut a s.heap (s.heap.update a (Obj.putSet (order.filterMap (es[·]?)) t')) := Heap.SameBut.update ..
  refine hQ _ L2 (order.filterMap (es[·]?)) (ep + 1) t' sb ⟨⟨_, store_at ho hd, ⟨hex.1, hex.2.1, hex.2.2⟩, rfl⟩, r1, by rw [r2.length_eq]; exact T', fun p hpm => (keys p (r2.mem_iff.mp hpm)).same ho hd sb, by rw [ep']; exact pl, by rw [el]; exact ld, ?_, by rw [r2.length_eq]; exact few⟩ r2
  rw [r2.length_eq, em, e2]
  omega
/-- adding -/
theorem key_add (R : SetW P w s.heap a L es ep t) {x : Addr} {k : NestedKey} (hx : KeyAt s.heap k x) (hu : A.units + 8 < cLine) (hfew : L.length + 1 ≤ 1000) {Q : Bool → Shared → Prop}
    (hQ : ∀ b h' L' es' ep' t', Heap.SameBut a s.heap h' → SetW P w h' a L' es' ep' t' → ((k ∈ L.map (·.2) ∧ L' = L) ∨ L'.Perm ((x, k) :: L)) → Q b { s with heap := h' }) :
    wpAny (model P w) A (setAddHashed a (.ref x) (k.hash w)) Q E s := by
  obtain ⟨o, ho, hex, hd⟩ := R.ob
  have hsl := R.size
  have hroom := R.room
  unfold setAddHashed
  refine wpAny_holding ?_
  rw [show (100000 : Nat) = 99999 + 1 from rfl, setAddHashedIn_succ]
  refine wpAny_bind (wpAny_setState_of ho hd R.fits ?_); dsimp only
  refine wp_if_neg (by simp [byScan, Value.scannable]) ?_
  try refine wpAny_bind (wpAny_pure ?_)
  refine wpAny_bind (key_find R hx hu (fun hm => ?_) fun j hjm hj => ?_)
  · exact wpAny_pure (hQ false s.heap L es ep t (Heap.SameBut.refl a s.heap) R (.inl ⟨hm, rfl⟩))
  · dsimp only
    refine wpAny_bind (wpAny_setState_of ho hd R.fits ?_); dsimp only
    obtain ⟨q1, q2, q3, q4, q5, q6, q7⟩ := R.tab.put hjm hj
    have hp1 : (t.put j).1.plain = true := by rw [q6]; exact R.plain
    generalize hpt : t.put j = pt at q1 q3 q4 q5 q6 q7 hp1 ⊢
    obtain ⟨t1, p⟩ := pt
    dsimp only at q1 q3 q4 q5 q6 q7 hp1 ⊢
    subst q1
    have bv := fun Q => key_byVal (P := P) (w := w) k _ 8 s hx.is hx.dp hx.nt A E Q
    first
      | (refine wpAny_bind ?_; refine wp_if_pos hp1 ?_; refine bv _ ?_)
      | refine wp_if_pos hp1 (wpAny_bind (bv _ ?_))
    simp only [if_true]
    generalize SetTable.below t.place j = p at q2 ⊢
    have hin : (SetTable.insertAt es p (k.hash w, Value.ref x)).toList = (L.take p ++ (x, k) :: L.drop p).map (krow w) := by
      rw [SetTable.toList_insertAt, R.rows, List.map_append, List.map_cons, List.map_take, List.map_drop]
      rfl
    have pm : (L.take p ++ (x, k) :: L.drop p).Perm ((x, k) :: L) := put_perm L p (x, k)
    have hlen : (L.take p ++ (x, k) :: L.drop p).length = L.length + 1 := pm.length_eq
    generalize SetTable.insertAt es p (k.hash w, Value.ref x) = es1 at hin ⊢
    generalize L.take p ++ (x, k) :: L.drop p = L1 at pm hlen hin
    have hes : es1.size = L.length + 1 := by rw [rows_size hin, hlen]
    refine wpAny_bind (wpAny_storeSet_of ho hd ?_ (by rw [hes, sizeLine_eq]; omega))
    have sb : Heap.SameBut a s.heap (s.heap.update a (Obj.putSet es1 t1)) := Heap.SameBut.update ..
    have ho1 := store_at (es' := es1) (t' := t1) ho hd
    generalize s.heap.update a (Obj.putSet es1 t1) = h1 at sb ho1 ⊢
    have keys1 : ∀ p ∈ L1, KeyAt h1 p.2 p.1 := fun p hp => by
      rcases List.mem_cons.mp (pm.mem_iff.mp hp) with e | hp
      · rw [e]; exact hx.same ho hd sb
      · exact (R.keys p hp).same ho hd sb
    have ld1 : w.params.followText "set-order" = true ∨ t1.led = true := by rw [q5]; exact R.led
    rw [← hlen] at q3 q7
    by_cases hf : t1.tooFull = true
    · first
        | (refine wpAny_bind ?_; refine wp_if_pos (by simp [hf]) ?_)
        | (refine wp_if_pos (by simp [hf]) ?_; refine wpAny_bind ?_)
      rw [hsl, ← hlen]
      refine key_relay (s := { s with heap := h1 }) ho1 ⟨hex.1, hex.2.1, hex.2.2⟩ rfl hin q3 (by rw [hlen, q4]; omega) keys1 hp1 ld1 (by omega) (by omega) ?_
      intro h2 L2 es2 ep2 t2 sb2 R2 pm2
      exact wpAny_pure (hQ true h2 L2 es2 ep2 t2 (sb.trans sb2) R2 (.inr (pm2.trans pm)))
    · first
        | refine wp_if_neg (by simp [hf]) ?_
        | (refine wpAny_bind ?_; refine wp_if_neg (by simp [hf]) ?_; refine wpAny_pure ?_)
      refine wpAny_pure (hQ true h1 L1 es1 (ep + 1) t1 sb ⟨⟨_, ho1, ⟨hex.1, hex.2.1, hex.2.2⟩, rfl⟩, hin, q3, keys1, hp1, ld1, ?_, by omega⟩ (.inr pm))
      unfold SetTable.tooFull at hf
      rw [decide_eq_true_eq, q7] at hf
      omega
end
end Wk
end

section
set_option Elab.async false
set_option linter.all false
set_option maxRecDepth 100000
set_option maxHeartbeats 4000000
namespace Wk
open PySem PySem.Spec PyProof.Rows L2
section
variable {P : Program} {w : World} {A : Around} {E : Value → Shared → Prop} {s : Shared}
/-- what a set has got is told by the turn: adding keeps it -/
structure Grows (P : Program) (w : World) (A : Around) (h0 : Heap) (S : Addr) (items : Array Value) (Acc : Nat → Heap → Prop) : Prop where
  keep : ∀ i h h', Acc i h → (∀ o, h.get? S = some o → h'.get? S = some o) → (∀ b o, h0.get? b = some o → h'.get? b = some o) → Acc i h'
  add : ∀ i v (s : Shared) (E : Value → Shared → Prop) (Q : Bool → Shared → Prop), items[i]? = some v → Acc i s.heap → (∀ b o, h0.get? b = some o → s.heap.get? b = some o) →
    (∀ b h' tk, s.toks ≤ tk → Heap.SameBut S s.heap h' → Acc (i + 1) h' → Q b { s with heap := h', toks := tk }) → wpAny (model P w) A (setAdd S v) Q E s
theorem grow_loop {I : Addr} {fp wr : List Addr} {G : Array GenState → Array GenState → Prop} {n : Nat} {Pv : Nat → Value → Prop} {St : Nat → Shared → Prop} {R : Result → Shared → Prop} {items : Array Value} {Acc : Nat → Heap → Prop} {h0 : Heap}
    (W : WalksS P w A.in1 I fp wr G n Pv St) (S : Addr) (hSf : S ∉ fp) (hval : ∀ i v, Pv i v → items[i]? = some v) (hS0 : h0.get? S = none) (hw0 : ∀ b ∈ wr, h0.get? b = none) (gr : Grows P w A.in1 h0 S items Acc) :
    ∀ (k i : Nat) (s : Shared), n - i = k → i ≤ n → St i s → (∀ b o, h0.get? b = some o → s.heap.get? b = some o) → Acc i s.heap →
      (∀ s', Moved (S :: wr) G s s' → Acc n s'.heap → (∀ b o, h0.get? b = some o → s'.heap.get? b = some o) → R (.ok (.ret .none)) s') →
      codeAny (model P w) A (.builtin "set.update.loop" ⟨[.ref S, .ref I], []⟩) R s := by
  have hSw : S ∉ wr := fun h => hSf (W.sub _ h)
  have hsub : ∀ b ∈ wr, b ∈ S :: wr := fun b hb => List.mem_cons_of_mem _ hb
  have keepM : ∀ {s s' : Shared}, Moved wr G s s' → (∀ b o, h0.get? b = some o → s.heap.get? b = some o) → ∀ b o, h0.get? b = some o → s'.heap.get? b = some o := fun hm hkp b o e =>
    hm.heap b o (fun hb => by rw [hw0 b hb] at e; cases e) (hkp b o e)
  intro k
  induction k with
  | zero =>
    intro i s hk' hi hst hkp hS hR
    obtain rfl : i = n := by omega
    refine codeAny_builtin F.entry_set_update_loop ?_
    rw [Around.under_plainId F.plain_set_update_loop _]; show wpAny _ A.in1 (pyNext (.ref I) >>= _) _ _ s
    refine wpAny_bind (W.done s _ _ hst fun s' hm => ?_)
    show wpAny _ A.in1 (ret Value.none) _ _ s'
    exact wpAny_pure (hR s' (hm.mono hsub) (gr.keep _ _ _ hS (fun o e => hm.heap S o hSw e) (keepM hm hkp)) (keepM hm hkp))
  | succ k ih =>
    intro i s hk' hi hst hkp hS hR
    have hlt : i < n := by omega
    refine codeAny_builtin F.entry_set_update_loop ?_
    rw [Around.under_plainId F.plain_set_update_loop _]; show wpAny _ A.in1 (pyNext (.ref I) >>= _) _ _ s
    refine wpAny_bind (W.item i s _ _ hlt hst fun v s' hP hst' hm => ?_)
    have hkp' := keepM hm hkp
    have hS' := gr.keep i _ _ hS (fun o e => hm.heap S o hSw e) hkp'
    show wpAny _ A.in1 (holding [v] (setAdd S v) >>= _) _ _ s'
    refine wpAny_bind (wpAny_holding (gr.add i v s' _ _ (hval i v hP) hS' hkp' fun b h' tk htk hsb hS2 => ?_))
    have hkp2 : ∀ b o, h0.get? b = some o → h'.get? b = some o := fun b o e => (hsb.2 b (fun z => by rw [z, hS0] at e; cases e)).trans (hkp' b o e)
    refine wpAny_pure ⟨plainId_quiet F.plain_set_update_loop _, ih (i + 1) _ (by omega) hlt (W.frame _ s' _ _ hst' htk fun b hb o e => ?_) hkp2 hS2 fun s'' hm'' hS'' hkp'' => ?_⟩
    · rw [hsb.2 b (fun h : b = S => hSf (by rw [← h]; exact hb))]; exact e
    · refine hR s'' (Moved.trans W.gtrans ((hm.mono hsub).then_heap htk fun b o hb e => ?_) hm'') hS'' hkp''
      rw [hsb.2 b (fun h : b = S => hb (by rw [h]; exact List.mem_cons_self))]; exact e

/-- the new set's object -/
abbrev freshSet (w : World) : Obj := { cls := .type "set", dict := none, data := .set #[] 0 (.fresh 0 0 (!w.params.followText "set-order")) }
set_option maxHeartbeats 3200000 in
/-- set(xs), xs a list -/
theorem set_of_list {l : Addr} {items : Array Value} {Q : Value → Shared → Prop} {Acc : Nat → Heap → Prop} (hh : A.handled = none) (hl : s.heap.IsList l items)
    (gr : Grows P w A.in1.in1.in1 s.heap s.heap.objs.size items Acc) (h0 : ∀ h', h'.get? s.heap.objs.size = some (freshSet w) → (∀ b o, s.heap.get? b = some o → h'.get? b = some o) → Acc 0 h')
    (h : ∀ (h' : Heap) (tk : Nat), Acc items.size h' → (∀ b o, s.heap.get? b = some o → h'.get? b = some o) → Q (.ref s.heap.objs.size) { s with heap := h', toks := tk }) :
    wpAny (model P w) A (call (.type "set") [.ref l]) Q E s := by
  obtain ⟨c, tl, hmro⟩ := F.called_set.mro
  have hmade := F.called_set.made
  have hsub := F.called_set.sub
  have h1 := F.called_set.notType
  have h2 := F.called_set.canCreate
  have hct := F.typeCall_set_1 (.ref l)
  refine wpAny_call (codeAny_of_tree ?_); show wpAny _ _ (callAny (.type "set") _) _ _ _
  refine wpAny_pure ⟨Code.quiet_builtin _ (by decide +kernel), codeAny_builtin F.entry_type_call ?_⟩
  rw [Around.under_plain (weight_type_call_type "set" [.ref l] []) rfl]
  repeat (any_goals (first | assumption | wp_step))
  refine codeAny_mono (code_set_led1 (.ref l) (E := E) (Q₁ := fun obj s₁ => obj = .ref s.heap.objs.size ∧ s₁ = { s with heap := s.heap.push (freshSet w) }) ⟨rfl, rfl⟩) fun r s₁ hr => ?_
  cases r with
  | error e => exact hr
  | ok fl =>
    cases fl with
    | ret obj =>
      obtain ⟨rfl, rfl⟩ := hr
      have hS : (s.heap.push (freshSet w)).get? s.heap.objs.size = some (freshSet w) := Heap.get?_push_size _ rfl
      have hT : Shared.TypeIs { s with heap := s.heap.push (freshSet w) } (.ref s.heap.objs.size) "set" := ⟨_, hS, rfl⟩
      have hli := F.called_set.init.lookup
      have hbi := F.called_set.init.bind (.ref s.heap.objs.size)
      repeat (any_goals (first | assumption | wp_step))
      refine codeAny_mono (codeAny_call_builtin (R := wants (fun r s₂ => r = .none ∧ ∃ h' tk, s₂ = { s with heap := h', toks := tk } ∧ Acc items.size h' ∧ (∀ b o, s.heap.get? b = some o → h'.get? b = some o)) E)
        F.called_set.init.plain F.entry_set_init (check_set_init_1 hT ?_)) fun r₂ s₂ hr₂ => ?_
      · obtain ⟨ol, hol, hcl, nl, hdl⟩ := hl
        obtain ⟨ocls, odict, odata, oslots⟩ := ol
        simp only at hcl hdl
        subst hcl; subst hdl
        have hol' : (s.heap.push (freshSet w)).get? l = some { cls := .type "list", dict := odict, data := .seq items nl, slots := oslots } := Heap.get?_push_of_some _ hol
        have hsls := F.sub_list_set
        have hslf := F.sub_list_frozenset
        have hne : (Value.type "list" == Value.type "dict") = false := by decide
        have hl1 : (s.heap.push (freshSet w)).IsList l items := ⟨_, hol', rfl, nl, rfl⟩
        unfold Builtin.«set.__init__» noKeywords Builtin.Frozenset.updateFrom
        generalize hPI : pyIter = PI
        wp_walk
        subst hPI
        refine wpAny_pyIter_list hl1 (wpAny_bind (wpAny_runValue ?_))
        have hlS : l < s.heap.objs.size := Heap.lt_size hol
        have hh3 : A.in1.in1.in1.handled = none := by simp [hh]
        have hz1 : (s.heap.push (freshSet w)).objs.size = s.heap.objs.size + 1 := Heap.size_push ..
        have hneI : l ≠ (s.heap.push (freshSet w)).objs.size := by rw [hz1]; exact Nat.ne_of_lt (Nat.lt_succ_of_lt hlS)
        have hSf : s.heap.objs.size ∉ [(s.heap.push (freshSet w)).objs.size, l] := by
          rw [hz1]; simp only [List.mem_cons, List.not_mem_nil, or_false, not_or]
          exact ⟨Nat.ne_of_lt (Nat.lt_succ_self _), Nat.ne_of_gt hlS⟩
        have none_of : ∀ b, s.heap.objs.size ≤ b → s.heap.get? b = none := fun b hb => by
          cases q : s.heap.get? b with
          | none => rfl
          | some o => exact absurd (Nat.lt_of_lt_of_le (Heap.lt_size q) hb) (Nat.lt_irrefl _)
        have kp2 : ∀ b o, s.heap.get? b = some o → ((s.heap.push (freshSet w)).push { cls := .type "list_iterator", data := .fields #[.ref l, .int 0 0] }).get? b = some o := fun b o e => Heap.get?_push_of_some _ (Heap.get?_push_of_some _ e)
        refine grow_loop ((Walks.list hh3 _ l hneI items).toS) s.heap.objs.size hSf (fun _ _ e => e) (none_of _ (Nat.le_refl _)) (fun b hb => none_of b (by
            rw [List.mem_singleton.mp hb, hz1]
            exact Nat.le_succ _)) gr (items.size - 0) 0 _ (by omega) (Nat.zero_le _)
          ⟨⟨_, Heap.get?_push_size _ rfl, rfl, rfl⟩, (hl1.push _)⟩ kp2 (h0 _ (Heap.get?_push_of_some _ hS) kp2) ?hR
        case hR =>
          intro s' hm hS' hkp
          obtain ⟨h', g2, d', tk', os'⟩ := s'
          obtain rfl : g2 = s.gens := hm.gens
          obtain rfl : d' = s.drawn := hm.drawn
          obtain rfl : os' = s.os := hm.os
          show wpAny _ _ _ _ _ _
          refine wpAny_pure ?_; show wpAny _ _ (ret Value.none) _ _ _
          exact wpAny_pure ⟨rfl, h', tk', rfl, hS', hkp⟩
      · cases r₂ with
        | error e => exact hr₂
        | ok fl₂ =>
          cases fl₂ with
          | ret r =>
            obtain ⟨rfl, h', tk, rfl, hS', hk'⟩ := hr₂
            repeat (any_goals (first | assumption | wp_step))
            exact h _ _ hS' hk'
          | _ => exact hr₂.elim
    | _ => exact hr.elim
/-! ### keys -/
/-- what the set has got from the first i -/
def GotK (ks : KL) (i : Nat) (L : KL) : Prop := (∃ sub : KL, sub.Sublist (ks.take i) ∧ L.Perm sub) ∧ ∀ p ∈ ks.take i, p.2 ∈ L.map (·.2)
theorem GotK.len {ks L : KL} {i : Nat} (g : GotK ks i L) : L.length ≤ i := by
  obtain ⟨⟨sub, h1, h2⟩, _⟩ := g
  rw [h2.length_eq]
  exact Nat.le_trans h1.length_le (by rw [List.length_take]; omega)
theorem GotK.same {ks L : KL} {i : Nat} {x : Addr × NestedKey} (g : GotK ks i L) (h : ks[i]? = some x) (hm : x.2 ∈ L.map (·.2)) : GotK ks (i + 1) L := by
  obtain ⟨⟨sub, h1, h2⟩, h3⟩ := g
  have e : ks.take (i + 1) = ks.take i ++ [x] := take_next h
  refine ⟨⟨sub, ?_, h2⟩, fun p hp => ?_⟩
  · rw [e]
    exact h1.trans (List.sublist_append_left _ _)
  · rw [e] at hp
    rcases List.mem_append.mp hp with z | z
    · exact h3 p z
    · rw [List.mem_singleton.mp z]
      exact hm
theorem GotK.more {ks L L' : KL} {i : Nat} {x : Addr × NestedKey} (g : GotK ks i L) (h : ks[i]? = some x) (pm : L'.Perm (x :: L)) : GotK ks (i + 1) L' := by
  obtain ⟨⟨sub, h1, h2⟩, h3⟩ := g
  have e : ks.take (i + 1) = ks.take i ++ [x] := take_next h
  refine ⟨⟨sub ++ [x], ?_, pm.trans ((h2.cons x).trans (List.perm_append_singleton x sub).symm)⟩, fun p hp => ?_⟩
  · rw [e]
    exact h1.append (List.Sublist.refl _)
  · rw [(pm.map (·.2)).mem_iff, List.map_cons]
    rw [e] at hp
    rcases List.mem_append.mp hp with z | z
    · exact List.mem_cons_of_mem _ (h3 p z)
    · rw [List.mem_singleton.mp z]
      exact List.mem_cons_self
theorem setW_fresh {h : Heap} {a : Addr} (ho : h.get? a = some (freshSet w)) : SetW P w h a [] #[] 0 (.fresh 0 0 (!w.params.followText "set-order")) where
  ob := ⟨_, ho, ⟨rfl, rfl, rfl⟩, rfl⟩
  rows := rfl
  tab := ⟨List.Pairwise.nil, rfl, rfl, ⟨⟨3, by decide, rfl⟩, (show 7 ≤ 8191 by decide)⟩, fun x hx => (by cases hx)⟩
  keys := fun p hp => (by cases hp)
  plain := rfl
  led := by
    show _ ∨ (!w.params.followText "set-order") = true
    cases w.params.followText "set-order"
    · exact .inr rfl
    · exact .inl rfl
  room := (show 0 * 5 < 7 * 3 by decide)
  few := (show 0 ≤ 1000 by decide)
theorem grows_keys {ks : KL} {items : Array Value} (hit : items.toList = ks.map fun p => Value.ref p.1) (hk : ∀ p ∈ ks, KeyAt s.heap p.2 p.1) (hfew : ks.length ≤ 1000) (hu : A.units + 8 < cLine) :
    Grows P w A s.heap s.heap.objs.size items (fun i h => ∃ L es ep t, SetW P w h s.heap.objs.size L es ep t ∧ GotK ks i L) where
  keep := fun i h h' ⟨L, es, ep, t, R, g⟩ ha hb => by
    obtain ⟨o, ho, r⟩ := R.ob
    obtain ⟨⟨sub, h1, h2⟩, h3⟩ := id g
    exact ⟨L, es, ep, t, ⟨⟨o, ha o ho, r⟩, R.rows, R.tab, fun p hp => (hk p (List.mem_of_mem_take (h1.subset (h2.mem_iff.mp hp)))).keep hb, R.plain, R.led, R.room, R.few⟩, g⟩
  add := fun i v s' E Q hv ⟨L, es, ep, t, R, g⟩ hb hQ => by
    have hp : ∃ p, ks[i]? = some p ∧ v = .ref p.1 := by
      have q : items.toList[i]? = some v := by rw [Array.getElem?_toList]; exact hv
      rw [hit, List.getElem?_map] at q
      cases hq : ks[i]? with
      | none => rw [hq] at q; cases q
      | some p =>
        rw [hq] at q
        exact ⟨p, rfl, (Option.some.inj q).symm⟩
    obtain ⟨p, hp, rfl⟩ := hp
    have hx : KeyAt s'.heap p.2 p.1 := (hk p (List.mem_of_getElem? hp)).keep hb
    have hi : i < ks.length := (List.getElem?_eq_some_iff.mp hp).1
    have hdp := hx.dp
    have hg := g.len
    unfold setAdd
    refine wpAny_holding (wpAny_bind (pyHash_key p.2 _ A s' _ hx.is (by omega) ?_))
    refine key_add (s := { s' with toks := s'.toks + p.2.draws }) R hx hu (by omega) fun b h' L' es' ep' t' hsb R' c => ?_
    refine hQ b h' _ (Nat.le_add_right _ _) hsb ⟨L', es', ep', t', R', ?_⟩
    rcases c with ⟨c1, c2⟩ | c
    · rw [c2]
      exact g.same hp c1
    · exact g.more hp c
theorem call_set_keys {l : Addr} {items : Array Value} (ks : KL) {Q : Value → Shared → Prop} (hh : A.handled = none) (hl : s.heap.IsList l items) (hit : items.toList = ks.map fun p => Value.ref p.1)
    (hk : ∀ p ∈ ks, KeyAt s.heap p.2 p.1) (hfew : ks.length ≤ 1000) (hu : A.units + 11 < cLine)
    (h : ∀ (h' : Heap) (tk : Nat) L es ep t, SetW P w h' s.heap.objs.size L es ep t → GotK ks ks.length L → (∀ b o, s.heap.get? b = some o → h'.get? b = some o) → Q (.ref s.heap.objs.size) { s with heap := h', toks := tk }) :
    wpAny (model P w) A (call (.type "set") [.ref l]) Q E s := by
  have hsz : items.size = ks.length := by rw [← Array.length_toList, hit, List.length_map]
  refine set_of_list hh hl (grows_keys hit hk hfew (by simp only [Around.in1_units]; omega)) (fun h' ho hb => ⟨[], #[], 0, _, setW_fresh ho, ⟨[], by simp, List.Perm.refl _⟩, fun p hp => by simp at hp⟩) fun h' tk ⟨L, es, ep, t, R, g⟩ hb => ?_
  rw [hsz] at g
  exact h h' tk L es ep t R g hb
/-! ### ints -/
theorem grows_ints {ns : List Int} {items : Array Value} (hit : IntsAre items.toList ns) (hfew : ns.length + 1 < scanBound) :
    Grows P w A s.heap s.heap.objs.size items (fun i h => ∃ c, c ≤ i ∧ SetR w h s.heap.objs.size (fun j => decide (j ∈ ns.take i)) c) where
  keep := fun i h h' ⟨c, hc, R⟩ ha _ => ⟨c, hc, R.at ha⟩
  add := fun i v s' E Q hv ⟨c, hc, R⟩ hb hQ => by
    have hi : i < ns.length := by
      rw [← IntsAre.length hit, Array.length_toList]
      exact (Array.getElem?_eq_some_iff.mp hv).1
    obtain ⟨t, e⟩ := PyProof.Rows.IntsAre.int_at hit i v (by rw [Array.getElem?_toList]; exact hv)
    have hz : ns[i]? = some ns[i] := List.getElem?_eq_getElem hi
    have e2 : ns.getD i 0 = ns[i] := by rw [List.getD_eq_getElem?_getD, hz]; rfl
    rw [e2] at e
    subst e
    generalize ns[i] = z at hz
    unfold setAdd
    refine wpAny_holding (wpAny_bind ((intKind P w).pyHash (k := z) (intKind_is _ _ _ _) ?_))
    refine setR_add_hashed (s := { s' with toks := s'.toks + 1 }) R (by omega) fun h' hsb R2 => ?_
    refine hQ _ h' _ (Nat.le_succ _) hsb ⟨_, ?_, R2.congr fun j => ?_⟩
    · split <;> omega
    · rw [List.take_add_one, hz]
      simp [List.mem_append]
theorem call_set_lstI {l : Addr} {items : Array Value} (ns : List Int) {Q : Value → Shared → Prop} (hh : A.handled = none) (hl : s.heap.IsList l items) (hit : IntsAre items.toList ns) (hb : ns.length + 1 < scanBound)
    (h : ∀ (h' : Heap) (tk c : Nat), SetR w h' s.heap.objs.size (fun j => decide (j ∈ ns)) c → c ≤ ns.length → (∀ b o, s.heap.get? b = some o → h'.get? b = some o) → Q (.ref s.heap.objs.size) { s with heap := h', toks := tk }) :
    wpAny (model P w) A (call (.type "set") [.ref l]) Q E s := by
  have hsz : items.size = ns.length := by rw [← Array.length_toList, IntsAre.length hit]
  refine set_of_list hh hl (grows_ints hit hb) (fun h' ho _ => ⟨0, Nat.le_refl 0, setR_new_at ho⟩) fun h' tk ⟨c, hc, R⟩ hk => ?_
  rw [hsz] at hc R
  rw [List.take_length] at R
  exact h h' tk c R hc hk
end
end Wk
end

section
set_option Elab.async false
set_option linter.all false
set_option maxRecDepth 100000
set_option maxHeartbeats 4000000
namespace Wk
open PySem PySem.Spec PyProof.Rows L2
/-! ### pure data: None, ints, tuples of such -/
mutual
def pureD : PyData → Bool
  | .none => true
  | .int _ => true
  | .tuple xs => pureDs xs
  | .bool _ => false
  | .str _ => false
  | .list _ => false
  | .dict _ => false
def pureDs : List PyData → Bool
  | [] => true
  | x :: xs => pureD x && pureDs xs
end
mutual
def kd : PyData → NestedKey
  | .none => .none
  | .int i => .num i
  | .tuple xs => .tup (kds xs)
  | .bool _ => .none
  | .str _ => .none
  | .list _ => .none
  | .dict _ => .none
def kds : List PyData → List NestedKey
  | [] => []
  | x :: xs => kd x :: kds xs
end
theorem pureDs_iff : ∀ xs : List PyData, pureDs xs = true ↔ ∀ x ∈ xs, pureD x = true
  | [] => by simp [pureDs]
  | x :: xs => by simp [pureDs, pureDs_iff xs]
mutual
theorem kd_inj : ∀ (d e : PyData), pureD d = true → pureD e = true → kd d = kd e → d = e
  | .none, .none, _, _, _ => rfl
  | .none, .int _, _, _, h => by simp [kd] at h
  | .none, .tuple _, _, _, h => by simp [kd] at h
  | .int _, .none, _, _, h => by simp [kd] at h
  | .int i, .int j, _, _, h => by
    simp only [kd, NestedKey.num.injEq] at h
    rw [h]
  | .int _, .tuple _, _, _, h => by simp [kd] at h
  | .tuple _, .none, _, _, h => by simp [kd] at h
  | .tuple _, .int _, _, _, h => by simp [kd] at h
  | .tuple xs, .tuple ys, h1, h2, h => by
    simp only [kd, NestedKey.tup.injEq] at h
    simp only [pureD] at h1 h2
    rw [kds_inj xs ys h1 h2 h]
  | .bool _, _, h, _, _ => by simp [pureD] at h
  | .str _, _, h, _, _ => by simp [pureD] at h
  | .list _, _, h, _, _ => by simp [pureD] at h
  | .dict _, _, h, _, _ => by simp [pureD] at h
  | .none, .bool _, _, h, _ => by simp [pureD] at h
  | .none, .str _, _, h, _ => by simp [pureD] at h
  | .none, .list _, _, h, _ => by simp [pureD] at h
  | .none, .dict _, _, h, _ => by simp [pureD] at h
  | .int _, .bool _, _, h, _ => by simp [pureD] at h
  | .int _, .str _, _, h, _ => by simp [pureD] at h
  | .int _, .list _, _, h, _ => by simp [pureD] at h
  | .int _, .dict _, _, h, _ => by simp [pureD] at h
  | .tuple _, .bool _, _, h, _ => by simp [pureD] at h
  | .tuple _, .str _, _, h, _ => by simp [pureD] at h
  | .tuple _, .list _, _, h, _ => by simp [pureD] at h
  | .tuple _, .dict _, _, h, _ => by simp [pureD] at h
theorem kds_inj : ∀ (ds es : List PyData), pureDs ds = true → pureDs es = true → kds ds = kds es → ds = es
  | [], [], _, _, _ => rfl
  | [], _ :: _, _, _, h => by simp [kds] at h
  | _ :: _, [], _, _, h => by simp [kds] at h
  | d :: ds, e :: es, h1, h2, h => by
    simp only [kds, List.cons.injEq] at h
    simp only [pureDs, Bool.and_eq_true] at h1 h2
    rw [kd_inj d e h1.1 h2.1 h.1, kds_inj ds es h1.2 h2.2 h.2]
end
mutual
theorem kd_depth : ∀ d : PyData, pureD d = true → (kd d).depth = d.depth
  | .none, _ => rfl
  | .int _, _ => rfl
  | .tuple xs, h => by
    simp only [pureD] at h
    simp only [kd, NestedKey.depth, PyData.depth, kds_depth xs h]
  | .bool _, h => by simp [pureD] at h
  | .str _, h => by simp [pureD] at h
  | .list _, h => by simp [pureD] at h
  | .dict _, h => by simp [pureD] at h
theorem kds_depth : ∀ ds : List PyData, pureDs ds = true → NestedKey.depthAll (kds ds) = PyData.depthAll ds
  | [], _ => rfl
  | d :: ds, h => by
    simp only [pureDs, Bool.and_eq_true] at h
    simp only [kds, NestedKey.depthAll, PyData.depthAll, kd_depth d h.1, kds_depth ds h.2]
end
mutual
theorem kd_noTxt : ∀ d : PyData, noTxt (kd d) = true
  | .none => rfl
  | .int _ => rfl
  | .tuple xs => by simp only [kd, noTxt, kds_noTxt xs]
  | .bool _ => rfl
  | .str _ => rfl
  | .list _ => rfl
  | .dict _ => rfl
theorem kds_noTxt : ∀ ds : List PyData, noTxts (kds ds) = true
  | [] => rfl
  | d :: ds => by simp only [kds, noTxts, kd_noTxt d, kds_noTxt ds, Bool.and_self]
end
mutual
theorem pure_lay : ∀ d : PyData, pureD d = true → d.canLay0 = true
  | .none, _ => by simp [PyData.canLay0]
  | .int _, _ => by simp [PyData.canLay0]
  | .tuple xs, h => by
    simp only [pureD] at h
    simp only [PyData.canLay0, pures_lay xs h]
  | .bool _, h => by simp [pureD] at h
  | .str _, h => by simp [pureD] at h
  | .list _, h => by simp [pureD] at h
  | .dict _, h => by simp [pureD] at h
theorem pures_lay : ∀ ds : List PyData, pureDs ds = true → PyData.canLayAll0 ds = true
  | [], _ => by simp [PyData.canLayAll0]
  | d :: ds, h => by
    simp only [pureDs, Bool.and_eq_true] at h
    simp only [PyData.canLayAll0, pure_lay d h.1, pures_lay ds h.2, Bool.and_self]
end
mutual
theorem eqv_pure : ∀ (d e : PyData), pureD d = true → pureD e = true → (PyData.eqv d e = true ↔ d = e)
  | .none, .none, _, _ => by simp [PyData.eqv]
  | .none, .int _, _, _ => by simp [PyData.eqv]
  | .none, .tuple _, _, _ => by simp [PyData.eqv]
  | .int _, .none, _, _ => by simp [PyData.eqv]
  | .int i, .int j, _, _ => by simp [PyData.eqv]
  | .int _, .tuple _, _, _ => by simp [PyData.eqv]
  | .tuple _, .none, _, _ => by simp [PyData.eqv]
  | .tuple _, .int _, _, _ => by simp [PyData.eqv]
  | .tuple xs, .tuple ys, h1, h2 => by
    simp only [pureD] at h1 h2
    simp only [PyData.eqv, PyData.tuple.injEq]
    exact eqvs_pure xs ys h1 h2
  | .bool _, _, h, _ => by simp [pureD] at h
  | .str _, _, h, _ => by simp [pureD] at h
  | .list _, _, h, _ => by simp [pureD] at h
  | .dict _, _, h, _ => by simp [pureD] at h
  | .none, .bool _, _, h => by simp [pureD] at h
  | .none, .str _, _, h => by simp [pureD] at h
  | .none, .list _, _, h => by simp [pureD] at h
  | .none, .dict _, _, h => by simp [pureD] at h
  | .int _, .bool _, _, h => by simp [pureD] at h
  | .int _, .str _, _, h => by simp [pureD] at h
  | .int _, .list _, _, h => by simp [pureD] at h
  | .int _, .dict _, _, h => by simp [pureD] at h
  | .tuple _, .bool _, _, h => by simp [pureD] at h
  | .tuple _, .str _, _, h => by simp [pureD] at h
  | .tuple _, .list _, _, h => by simp [pureD] at h
  | .tuple _, .dict _, _, h => by simp [pureD] at h
theorem eqvs_pure : ∀ (ds es : List PyData), pureDs ds = true → pureDs es = true → (PyData.eqvAll ds es = true ↔ ds = es)
  | [], [], _, _ => by simp [PyData.eqvAll]
  | [], _ :: _, _, _ => by simp [PyData.eqvAll]
  | _ :: _, [], _, _ => by simp [PyData.eqvAll]
  | d :: ds, e :: es, h1, h2 => by
    simp only [pureDs, Bool.and_eq_true] at h1 h2
    simp only [PyData.eqvAll, Bool.and_eq_true, List.cons.injEq, eqv_pure d e h1.1 h2.1, eqvs_pure ds es h1.2 h2.2]
end
mutual
theorem reads_key {h : Heap} : ∀ (d : PyData) (v : Value) (as : List Addr), pureD d = true → Reads h v d as → NestedIs h (kd d) v ∧ as = []
  | .none, _, _, _, r => by cases r; exact ⟨.none, rfl⟩
  | .int i, _, _, _, r => by cases r; exact ⟨.int _ _, rfl⟩
  | .tuple xs, _, _, hp, r => by
    simp only [pureD] at hp
    cases r with
    | tuple h1 h2 h3 h4 =>
      obtain ⟨q1, q2⟩ := reads_keys xs _ _ hp h4
      exact ⟨.tup h1 h2 h3 q1, q2⟩
  | .bool _, _, _, h, _ => by simp [pureD] at h
  | .str _, _, _, h, _ => by simp [pureD] at h
  | .list _, _, _, h, _ => by simp [pureD] at h
  | .dict _, _, _, h, _ => by simp [pureD] at h
theorem reads_keys {h : Heap} : ∀ (ds : List PyData) (vs : List Value) (as : List Addr), pureDs ds = true → ReadsAll h vs ds as → NestedAll h (kds ds) vs ∧ as = []
  | [], _, _, _, r => by cases r; exact ⟨.nil, rfl⟩
  | d :: ds, _, _, hp, r => by
    simp only [pureDs, Bool.and_eq_true] at hp
    cases r with
    | cons h1 h2 =>
      obtain ⟨a1, e1⟩ := reads_key d _ _ hp.1 h1
      obtain ⟨a2, e2⟩ := reads_keys ds _ _ hp.2 h2
      exact ⟨.cons a1 a2, by rw [e1, e2]; rfl⟩
end
/-! ### what a value stands for goes on -/
section
variable {K : PySem.W.Frag} {H H' : Hp}
/-- all tuples are there again -/
def TKeep (H H' : Hp) : Prop := ∀ b xs, H b = some (.tup xs) → H' b = some (.tup xs)
theorem same_rd (e : Same H H') {a : Addr} {u : HO} (h : Rd H a u) : Rd H' a u := by
  rcases h with h | ⟨o, h⟩
  · exact .inl (e _ _ h)
  · exact .inr ⟨o, e _ _ h⟩
theorem same_l (e : Same H H') {a : Addr} {xs : List V} (h : SqL K H a xs) : SqL K H' a xs := e.seq h
theorem same_t (e : Same H H') {a : Addr} {xs : List V} (h : SqT K H a xs) : SqT K H' a xs := by
  rcases h with h | h
  · exact .inl (same_rd e h)
  · exact .inr h
mutual
theorem dp_same (e : Same H H') : ∀ (d : PyData) (v : V), Dp K H v d → Dp K H' v d
  | .none, _, h => by cases h; exact .non
  | .bool _, _, h => by cases h; exact .bl _
  | .int _, _, h => by cases h; exact .int _
  | .str _, _, h => by cases h; exact .str _
  | .list ds, _, h => by cases h with | lst h1 h2 => exact .lst (same_l e h1) (dps_same e ds _ h2)
  | .tuple ds, _, h => by cases h with | tup h1 h2 => exact .tup (same_t e h1) (dps_same e ds _ h2)
  | .dict _, _, h => by cases h
theorem dps_same (e : Same H H') : ∀ (ds : List PyData) (vs : List V), DpAll K H vs ds → DpAll K H' vs ds
  | [], _, h => by cases h; exact .nil
  | d :: ds, _, h => by cases h with | cons h1 h2 => exact .cons (dp_same e d _ h1) (dps_same e ds _ h2)
end
end
theorem dpAll_len {K : PySem.W.Frag} {H : Hp} : ∀ {vs : List V} {ds : List PyData}, DpAll K H vs ds → vs.length = ds.length
  | _, _, .nil => rfl
  | _, _, .cons _ t => by rw [List.length_cons, List.length_cons, dpAll_len t]
theorem dpAll_at {K : PySem.W.Frag} {H : Hp} : ∀ {vs : List V} {ds : List PyData}, DpAll K H vs ds → ∀ {i : Nat} {d : PyData}, ds[i]? = some d → ∃ v, vs[i]? = some v ∧ Dp K H v d
  | _, _, .nil, i, d, h => by simp at h
  | _, _, .cons a t, 0, d, h => by
    simp only [List.getElem?_cons_zero, Option.some.injEq] at h
    subst h
    exact ⟨_, rfl, a⟩
  | _, _, .cons a t, i + 1, d, h => by
    obtain ⟨v, h1, h2⟩ := dpAll_at t (i := i) (d := d) (by simpa using h)
    exact ⟨v, by simpa using h1, h2⟩
theorem dpAll_at' {K : PySem.W.Frag} {H : Hp} : ∀ {vs : List V} {ds : List PyData}, DpAll K H vs ds → ∀ {i : Nat} {v : V}, vs[i]? = some v → ∃ d, ds[i]? = some d ∧ Dp K H v d
  | _, _, .nil, i, d, h => by simp at h
  | _, _, .cons a t, 0, d, h => by
    simp only [List.getElem?_cons_zero, Option.some.injEq] at h
    subst h
    exact ⟨_, rfl, a⟩
  | _, _, .cons a t, i + 1, d, h => by
    obtain ⟨v, h1, h2⟩ := dpAll_at' t (i := i) (v := d) (by simpa using h)
    exact ⟨v, by simpa using h1, h2⟩
theorem dpAll_app {K : PySem.W.Frag} {H : Hp} : ∀ {vs ws : List V} {ds es : List PyData}, DpAll K H vs ds → DpAll K H ws es → DpAll K H (vs ++ ws) (ds ++ es)
  | _, _, _, _, .nil, h => h
  | _, _, _, _, .cons a t, h => .cons a (dpAll_app t h)
theorem dpAll_of {K : PySem.W.Frag} {H : Hp} {α : Type} (f : α → V) (g : α → PyData) : ∀ l : List α, (∀ x ∈ l, Dp K H (f x) (g x)) → DpAll K H (l.map f) (l.map g)
  | [], _ => .nil
  | x :: l, h => .cons (h x (by simp)) (dpAll_of f g l fun y hy => h y (by simp [hy]))
theorem dpAll_ints {K : PySem.W.Frag} {H : Hp} : ∀ (ns : List Int), DpAll K H (ns.map V.int) (ns.map PyData.int)
  | [] => .nil
  | n :: ns => .cons (.int n) (dpAll_ints ns)
theorem ints_of_dpAll {K : PySem.W.Frag} {H : Hp} : ∀ {vs : List V} {ns : List Int}, DpAll K H vs (ns.map PyData.int) → vs = ns.map V.int
  | _, [], h => by
    have h' : DpAll K H _ [] := h
    cases h'
    rfl
  | _, n :: ns, h => by
    have h' : DpAll K H _ (.int n :: ns.map PyData.int) := h
    cases h' with
    | cons a t =>
      cases a
      rw [ints_of_dpAll t]
      rfl
/-- tuples that are at addresses -/
theorem refs_of_dpAll {K : PySem.W.Frag} {H : Hp} : ∀ {vs : List V} {ds : List PyData}, DpAll K H vs ds → (∀ d ∈ ds, ∃ xs, d = .tuple xs) → ∃ as : List Addr, vs = as.map V.ref ∧ as.length = ds.length ∧ ∀ q ∈ as.zip ds, Dp K H (.ref q.1) q.2
  | _, _, .nil, _ => ⟨[], rfl, rfl, fun q h => by simp at h⟩
  | _, _, .cons (d := d) (ds := ds) a t, h => by
    obtain ⟨xs, e⟩ := h d (by simp)
    subst e
    obtain ⟨as, e1, e2, e3⟩ := refs_of_dpAll t fun d hd => h d (by simp [hd])
    cases a with
    | tup h1 h2 =>
      rename_i b ys
      refine ⟨b :: as, by rw [e1]; rfl, by rw [List.length_cons, List.length_cons, e2], fun q hq => ?_⟩
      rw [List.zip_cons_cons] at hq
      rcases List.mem_cons.mp hq with rfl | hq
      · exact .tup h1 h2
      · exact e3 q hq
theorem perm_back {α β : Type} (f : α → β) {B : List α} {A : List β} (hp : (B.map f).Perm A) : ∃ LD : List α, LD.Perm B ∧ LD.map f = A := by
  generalize hC : B.map f = C at hp
  induction hp generalizing B with
  | nil => exact ⟨[], by rw [List.map_eq_nil_iff.mp hC], rfl⟩
  | cons x _ ih =>
    cases B with
    | nil => simp at hC
    | cons b B =>
      simp only [List.map_cons, List.cons.injEq] at hC
      obtain ⟨LD, h1, h2⟩ := ih hC.2
      exact ⟨b :: LD, h1.cons b, by rw [List.map_cons, h2, hC.1]⟩
  | swap x y l =>
    cases B with
    | nil => simp at hC
    | cons b B =>
      cases B with
      | nil => simp at hC
      | cons b' B =>
        simp only [List.map_cons, List.cons.injEq] at hC
        exact ⟨b' :: b :: B, List.Perm.swap _ _ _, by rw [List.map_cons, List.map_cons, hC.1, hC.2.1, hC.2.2]⟩
  | trans _ _ ih1 ih2 =>
    obtain ⟨LD, h1, h2⟩ := ih1 hC
    obtain ⟨LD2, h3, h4⟩ := ih2 h2
    exact ⟨LD2, h3.trans h1, h4⟩
section
variable {X : Cx} {pins : List (Addr × Obj)} {σ : L2.St} {H : Hp} {s : Shared}
theorem Dp.key (I : Inv X pins σ H s) {d : PyData} {a : Addr} (h : Dp X.K H (.ref a) d) (hp : pureD d = true) (hd : d.depth ≤ 8) : KeyAt s.heap (kd d) a := by
  obtain ⟨as, r⟩ := Dp.reads I d _ (.ref a) h rfl
  obtain ⟨q, _⟩ := reads_key d _ _ hp r
  exact ⟨q, by rw [kd_depth d hp]; exact hd, kd_noTxt d⟩
/-! ### set(xs) -/
abbrev DL := List (Addr × PyData)
def TupD (d : PyData) : Prop := pureD d = true ∧ d.depth ≤ 8 ∧ ∃ x xs, d = .tuple (x :: xs)
/-- the set at a, without the tuples themselves -/
def RawSet (w : World) (h : Heap) (a : Addr) (L : List Addr) : Prop := ∃ (es : Array (Int × Value)) (ep : Nat) (t : SetTable), SetAt h a es ep t ∧ es.toList.map (·.2) = L.map Value.ref ∧ t.fits es.size = true ∧ es.size < scanBound ∧ Ris t.place.toList ∧ (w.params.followText "set-order" = true ∨ t.led = true)
def SetDO (w : World) (a : Addr) (L : List Addr) : HO := .ext fun h => RawSet w h a L
theorem SetW.raw {P : Program} {w : World} {h : Heap} {a : Addr} {L : KL} {es : Array (Int × Value)} {ep : Nat} {t : SetTable} (R : SetW P w h a L es ep t) : RawSet w h a (L.map (·.1)) := by
  have hs : es.size = L.length := rows_size R.rows
  have hf : t.fits es.size = true := by
    rw [hs]
    exact tab_fits R.tab (by have := R.room; omega)
  obtain ⟨o, ho, hex, hd⟩ := R.ob
  refine ⟨es, ep, t, ⟨o, ho, hex.1, hd⟩, ?_, hf, ?_, R.tab.ris, R.led⟩
  · rw [R.rows, List.map_map, List.map_map]
    rfl
  · have := R.few
    rw [hs]
    unfold scanBound
    omega
theorem rawSet_new {P : Program} {w : World} {H : Hp} {h : Heap} {a : Addr} {L : List Addr} (R : RawSet w h a L) : ObjOk P w H h a (SetDO w a L) := by
  have ⟨es, ep, t, ⟨o, ho, _⟩, _⟩ := R
  exact ⟨R, ⟨o, ho⟩, fun h1 h2 ⟨es, ep, t, S, r⟩ k => ⟨es, ep, t, S.at k, r⟩⟩
def rSetD (K : PySem.W.Frag) (w : World) : List V → Hp → VK → Prop := fun vs H Q => ∃ (l : Addr) (xs : List V) (ds : List PyData), vs = [V.ref l] ∧ SqL K H l xs ∧ DpAll K H xs ds ∧ (∀ d ∈ ds, TupD d) ∧ ds.length ≤ 1000 ∧
  ∀ (p : Addr) (L : DL), H p = none → (∃ sub : List PyData, sub.Sublist ds ∧ (L.map (·.2)).Perm sub) → (∀ d ∈ ds, d ∈ L.map (·.2)) → (∀ q ∈ L, (Dp K H (.ref q.1) q.2 ∧ TupD q.2) ∧ (V.ref q.1, q.2) ∈ xs.zip ds) → Q (.ref p) (upd H p (SetDO w p (L.map (·.1))))
theorem cr_setD (hc : X.calm = true) (hu : X.A.units + 64 < cLine) : CallR X (.type "set") (rSetD X.K X.w) := by
  intro pins s σ H vs us Q I r h
  obtain ⟨l, xs, ds, rfl, hl, hd, ht, hf, q⟩ := h
  rw [Vals.ref1 r]
  obtain ⟨as, rfl, hlen, hz⟩ := refs_of_dpAll hd fun d h => by
    obtain ⟨_, _, x, xs, e⟩ := ht d h
    exact ⟨_, e⟩
  obtain ⟨its, rv, pl, hsz⟩ := I.list hl
  have hn : H s.heap.objs.size = none := I.hok.fresh (Nat.le_refl _)
  have hmem : ∀ q ∈ as.zip ds, Dp X.K H (.ref q.1) q.2 ∧ TupD q.2 := fun q hq => ⟨hz q hq, ht _ (List.of_mem_zip hq).2⟩
  have eits : its = as.map Value.ref := by
    have : ∀ {as : List Addr} {us : List Value}, Vals (as.map V.ref) us → us = as.map Value.ref := by
      intro as
      induction as with
      | nil => exact fun r => by cases r; rfl
      | cons a as ih =>
        intro us r
        cases r with
        | cons r t =>
          cases r
          rw [ih t]
          rfl
    exact this rv
  let ks : KL := (as.zip ds).map fun q => (q.1, kd q.2)
  have hks1 : ks.map (·.1) = as := by
    show ((as.zip ds).map fun q => (q.1, kd q.2)).map (·.1) = as
    rw [List.map_map]
    exact List.map_fst_zip (by omega)
  have hkl : ks.length = ds.length := by
    show ((as.zip ds).map fun q => (q.1, kd q.2)).length = ds.length
    rw [List.length_map, List.length_zip]
    omega
  refine call_set_keys (P := X.prog) (w := X.w) ks (I.ok.hd hc) pl.isList ?_ (fun p hp => ?_) (by omega) (by omega) fun h' tk L es ep t R g k => ?_
  · show its = _
    rw [eits, ← hks1, List.map_map]
    rfl
  · obtain ⟨z, hzm, rfl⟩ := List.mem_map.mp hp
    obtain ⟨a1, a2⟩ := hmem z hzm
    exact Dp.key I a1 a2.1 a2.2.1
  · -- the keys' data
    obtain ⟨⟨sub, hs1, hs2⟩, hall⟩ := g
    rw [← hkl] at *
    rw [List.take_length] at hs1 hall
    obtain ⟨sd, hsd1, hsd2⟩ : ∃ sd : DL, sd.Sublist (as.zip ds) ∧ sd.map (fun q => (q.1, kd q.2)) = sub := by
      obtain ⟨sd, h1, h2⟩ := List.sublist_map_iff.mp hs1
      exact ⟨sd, h1, h2.symm⟩
    obtain ⟨LD, hL1, hL2⟩ : ∃ LD : DL, LD.Perm sd ∧ LD.map (fun q => (q.1, kd q.2)) = L := by
      rw [← hsd2] at hs2
      exact perm_back _ hs2.symm
    have mem : ∀ q ∈ LD, q ∈ as.zip ds := fun q hq => hsd1.subset (hL1.mem_iff.mp hq)
    have e1 : LD.map (·.1) = L.map (·.1) := by
      rw [← hL2, List.map_map]
      rfl
    refine ⟨.ref s.heap.objs.size, upd H s.heap.objs.size (SetDO X.w s.heap.objs.size (LD.map (·.1))), I.laid (t' := tk) k (Nat.le_refl _) (rawSet_new (by rw [e1]; exact R.raw)), rfl, q _ LD hn ⟨sd.map (·.2), ?_, hL1.map _⟩ (fun d hd => ?_) fun q hq => ⟨hmem q (mem q hq), by
      have h := mem q hq
      rw [List.zip_map_left]
      exact List.mem_map.mpr ⟨q, h, rfl⟩⟩⟩
    · have := hsd1.map (·.2)
      rw [List.map_snd_zip (by omega)] at this
      exact this
    · obtain ⟨i, hi, rfl⟩ := List.getElem_of_mem hd
      have hz2 : (as[i]'(by omega), ds[i]) ∈ as.zip ds := by
        have : i < (as.zip ds).length := by rw [List.length_zip]; omega
        have e : (as.zip ds)[i] = (as[i]'(by omega), ds[i]) := List.getElem_zip
        rw [← e]
        exact List.getElem_mem _
      have := hall (as[i]'(by omega), kd ds[i]) (List.mem_map.mpr ⟨_, hz2, rfl⟩)
      rw [← hL2, List.map_map] at this
      obtain ⟨q, hq, eq⟩ := List.mem_map.mp this
      have p1 := (hmem q (mem q hq)).2.1
      have p2 := (ht _ hd).1
      have e : q.2 = ds[i] := kd_inj _ _ p1 p2 eq
      rw [← e]
      exact List.mem_map.mpr ⟨q, hq, rfl⟩
/-- set(xs) of ints -/
def rSetI (K : PySem.W.Frag) (w : World) : List V → Hp → VK → Prop := fun vs H Q => ∃ (l : Addr) (ns : List Int), vs = [V.ref l] ∧ (SqL K H l (ns.map V.int) ∨ SqT K H l (ns.map V.int)) ∧ ns.length ≤ 1000 ∧
  ∀ (p : Addr) (c : Nat), H p = none → c ≤ ns.length → Q (.ref p) (upd H p (SetO w p (fun j => decide (j ∈ ns)) c))
theorem cr_setI (hc : X.calm = true) : CallR X (.type "set") (rSetI X.K X.w) := by
  intro pins s σ H vs us Q I r h
  obtain ⟨l, ns, rfl, hl, hf, q⟩ := h
  rw [Vals.ref1 r]
  have hn : H s.heap.objs.size = none := I.hok.fresh (Nat.le_refl _)
  rcases hl with hl | hl
  · obtain ⟨its, rv, pl, hsz⟩ := I.list hl
    exact call_set_lstI (P := X.prog) (w := X.w) ns (I.ok.hd hc) pl.isList (by simpa using rv.ints) (by unfold scanBound; omega) fun h' tk c R hcn k =>
      ⟨.ref s.heap.objs.size, _, I.laid (t' := tk) k (Nat.le_refl _) (setO_new R), rfl, q _ c hn hcn⟩
  · obtain ⟨its, rv, pl, hsz⟩ := I.tuple hl
    exact call_set_tupI (P := X.prog) (w := X.w) ns (I.ok.hd hc) pl (by simpa using rv.ints) (by unfold scanBound; omega) fun h' tk c R hcn k =>
      ⟨.ref s.heap.objs.size, _, I.laid (t' := tk) k (Nat.le_refl _) (setO_new R), rfl, q _ c hn hcn⟩
end
end Wk
end

section
set_option Elab.async false
set_option linter.all false
set_option maxRecDepth 100000
set_option maxHeartbeats 4000000
namespace Wk
open PySem PySem.Spec PyProof.Rows L2
/-! ### sorted(set) -/
abbrev leD : Addr × PyData → Addr × PyData → Bool := PySem.W.dataLe false fun q => q.2
theorem each_of {α β : Type} {R : α → β → Prop} (f : β → α) : ∀ l : List β, (∀ b ∈ l, R (f b) b) → PySem.W.EachIs R (l.map f) l
  | [], _ => .nil
  | b :: l, h => .cons (h b (by simp)) (each_of f l fun c hc => h c (by simp [hc]))
theorem each_refs : ∀ {out : List Value} {l : DL}, PySem.W.EachIs (fun v q => v = Value.ref q.1) out l → out = l.map fun q => Value.ref q.1
  | _, _, .nil => rfl
  | _, _, .cons h t => by rw [h, each_refs t, List.map_cons]
section
variable {P : Program} {w : World} {A : Around} {E : Value → Shared → Prop} {s : Shared}
theorem sorted_raw {a : Addr} {L : DL} {Q : Value → Shared → Prop} (R : RawSet w s.heap a (L.map (·.1))) (hh : A.handled = none) (hr : ∀ q ∈ L, Reads s.heap (.ref q.1) q.2 []) (hal : PySem.W.AllAlike (L.map (·.2))) (hk : ∀ q ∈ L, TupD q.2) (hu : A.units + 12 < cLine) (few : L.length ≤ 1000)
    (hQ : ∀ s' p (out : Array Value) (c : Nat) (L' : DL), (∀ b o, s.heap.get? b = some o → s'.heap.get? b = some o) → s'.gens = s.gens → s'.os = s.os → s.heap.objs.size ≤ p →
      s'.heap.get? p = some (seqObj "list" out c) → out.toList = L'.map (fun q => Value.ref q.1) → L'.Perm L → L'.Pairwise (fun q r => leD q r = true) → Q (.ref p) s') :
    wpAny (model P w) A (call (.builtin "sorted") [.ref a]) Q E s := by
  obtain ⟨es, ep, t, hS, hes, hf, hb, ris, led⟩ := R
  have hes2 : es.toList.map (·.2) = L.map fun q => Value.ref q.1 := by rw [hes, List.map_map]; rfl
  refine Calls.call_function_entry kind_sorted plain_sorted entry_sorted (args_sorted1 _) ?_
  unfold Builtin.«sorted»
  refine wpAny_bind (m := checkCount "sorted" 1 1 _) (wpAny_pure ?_)
  refine wpAny_bind (collect_set (A := A.in1) hh hS hf hb ris led fun s1 vs k1 hz g1 o1 pm => ?_)
  rw [hes2] at pm
  obtain ⟨L1, p1, rfl⟩ := perm_back _ pm.symm
  have hl1 : L1.length ≤ 1000 := by rw [p1.length_eq]; exact few
  refine wpAny_bind (wpAny_newList ?_ (by rw [sizeLine_eq, List.length_map]; omega))
  generalize hvs : L1.map (fun q => Value.ref q.1) = vs
  have hoL : (s1.heap.push (seqObj "list" vs.toArray 0)).get? s1.heap.objs.size = some (seqObj "list" vs.toArray 0) := Heap.get?_push_size _ rfl
  have hal1 : PySem.W.AllAlike (L1.map (·.2)) := fun d hd d' hd' => hal d ((p1.map _).mem_iff.mp hd) d' ((p1.map _).mem_iff.mp hd')
  have hk1 : PySem.W.Sortable (L1.map fun q => q.2) := .inl fun d hd => by
    obtain ⟨q, hq, rfl⟩ := List.mem_map.mp hd
    exact (hk q (p1.mem_iff.mp hq)).2.2
  have e1 : PySem.W.EachIs (fun v (q : Addr × PyData) => v = Value.ref q.1) vs L1 := by
    rw [← hvs]
    exact each_of _ L1 fun _ _ => rfl
  have er : PySem.W.EachIs (fun v (q : Addr × PyData) => ∃ as, Reads (s1.heap.push (seqObj "list" vs.toArray 0)) v q.2 as ∧ s1.heap.objs.size ∉ as) vs L1 := by
    rw [← hvs]
    refine each_of _ L1 fun q hq => ⟨[], PyProof.Rows.Reads.keeps (fun b o e => ?_) (hr q (p1.mem_iff.mp hq)), by simp⟩
    exact Heap.get?_push_of_some _ (k1 b o e)
  refine wpAny_bind (wpAny_holding (PySem.W.list_sort_data (s := { s1 with heap := s1.heap.push (seqObj "list" vs.toArray 0) }) (enc := fun q : Addr × PyData => q.2) hoL e1 er hal1 hk1 (by rw [sizeLine_eq]; omega) (fun q hq => ?_) fun out hlen eo => ?_))
  · have := (hk q (p1.mem_iff.mp hq)).2.1
    simp only [Around.in1_units]
    omega
  · obtain ⟨c, hc⟩ := sortedHeap_at (vs := vs) (out := out.toArray) hoL
    have pL : (L1.mergeSort leD).Perm L := (List.mergeSort_perm L1 leD).trans p1
    refine wpAny_pure ⟨_, rfl, hQ _ s1.heap.objs.size out.toArray c (L1.mergeSort leD) (fun b u e => ?_) g1 o1 hz hc (by simpa using each_refs eo) pL (PySem.W.sort_pairwise (PySem.W.sortLe_total _ _ _) L1)⟩
    have q := k1 b u e
    have hlt := Heap.lt_size q
    show (sortedHeap (s1.heap.push (seqObj "list" vs.toArray 0)) s1.heap.objs.size vs out.toArray).get? b = some u
    rw [sortedHeap_old (Nat.ne_of_lt hlt) (by rw [size_push']; exact Nat.lt_succ_of_lt hlt)]
    exact Heap.get?_push_of_some _ q
end
theorem vals_refs : ∀ L : DL, Vals (L.map fun q => V.ref q.1) (L.map fun q => Value.ref q.1)
  | [] => .nil
  | q :: L => .cons rfl (vals_refs L)
section
variable {X : Cx} {pins : List (Addr × Obj)} {σ : L2.St} {H : Hp} {s : Shared}
theorem dp_reads0 (I : Inv X pins σ H s) {d : PyData} {a : Addr} (h : Dp X.K H (.ref a) d) (hp : pureD d = true) : Reads s.heap (.ref a) d [] := by
  obtain ⟨as, r⟩ := Dp.reads I d _ (.ref a) h rfl
  obtain ⟨_, rfl⟩ := reads_key d _ _ hp r
  exact r
theorem inv_new_list (I : Inv X pins σ H s) {s' : Shared} {p : Addr} {out : Array Value} {c : Nat} {L' : DL} (k : ∀ b o, s.heap.get? b = some o → s'.heap.get? b = some o) (g : s'.gens = s.gens) (o : s'.os = s.os) (hp : s.heap.objs.size ≤ p)
    (hg : s'.heap.get? p = some (seqObj "list" out c)) (hout : out.toList = L'.map (fun q => Value.ref q.1)) (hfew : L'.length ≤ 1000) : Inv X pins σ (upd H p (.lst (L'.map fun q => V.ref q.1))) s' := by
  have hn : H p = none := I.hok.fresh hp
  have hv : Vals (L'.map fun q => V.ref q.1) out.toList := by rw [hout]; exact vals_refs L'
  have J : Inv X pins σ (upd H p (.lst (L'.map fun q => V.ref q.1))) { s with heap := s'.heap, gens := s'.gens, drawn := s'.drawn, toks := s'.toks } :=
    I.call (ch := []) (Un.laid k hp hn) (I.hok.laid k hp ⟨by rw [List.length_map, sizeLine_eq]; omega, out.toList, c, hv, hg⟩) (by rw [g]; exact I.bare) (fun _ z => nomatch z)
  have e : s' = { s with heap := s'.heap, gens := s'.gens, drawn := s'.drawn, toks := s'.toks } := by
    cases s'; cases s; cases o; rfl
  rw [e]
  exact J
def rSortD (K : PySem.W.Frag) (w : World) : List V → Hp → VK → Prop := fun vs H Q => ∃ (a : Addr) (L : DL), vs = [V.ref a] ∧ H a = some (SetDO w a (L.map (·.1))) ∧ (∀ q ∈ L, Dp K H (.ref q.1) q.2 ∧ TupD q.2) ∧ PySem.W.AllAlike (L.map (·.2)) ∧ L.length ≤ 1000 ∧
  ∀ (L' : DL) (p : Addr), L'.Perm L → L'.Pairwise (fun q r => leD q r = true) → H p = none → Q (.ref p) (upd H p (.lst (L'.map fun q => V.ref q.1)))
theorem cr_sortD (hc : X.calm = true) (hu : X.A.units + 64 < cLine) : CallR X (.builtin "sorted") (rSortD X.K X.w) := by
  intro pins s σ H vs us Q I r h
  obtain ⟨a, L, rfl, ha, hk, hal, few, q⟩ := h
  have R : RawSet X.w s.heap a (L.map (·.1)) := (I.hok a _ ha).1
  rw [Vals.ref1 r]
  refine sorted_raw R (I.ok.hd hc) (fun z hz => dp_reads0 I (hk z hz).1 (hk z hz).2.1) hal (fun z hz => (hk z hz).2) (by omega) few fun s' p out c L' k g o hp hg hout pm pw => ?_
  exact ⟨.ref p, _, inv_new_list I k g o hp hg hout (by rw [pm.length_eq]; exact few), rfl, q L' p pm pw (I.hok.fresh hp)⟩
/-- a set of tuples of ints, as HandS.TupSets makes it: no repeats -/
abbrev tupI (p : Addr × List Int) : Addr × PyData := (p.1, .tuple (p.2.map .int))
theorem setT_raw {P : Program} {w : World} {h : Heap} {a : Addr} {L : List (Addr × List Int)} (R : SetT0 P w h a L) : RawSet w h a ((L.map tupI).map (·.1)) := by
  obtain ⟨es, ep, t, ⟨o, ho, hex, hd⟩, hr, T, nd, pl, ld, room, few⟩ := R.ex
  have hs : es.size = L.length := by
    rw [← Array.length_toList, hr]
    exact List.length_map _
  have hz := T.sz
  rw [List.length_map] at hz
  refine ⟨es, ep, t, ⟨o, ho, hex.1, hd⟩, ?_, ?_, ?_, T.ris, ld⟩
  · rw [hr]
    unfold rowsOf
    rw [List.map_map, List.map_map, List.map_map]
    rfl
  · unfold SetTable.fits SetTable.fill
    rw [T.dm, Bool.and_eq_true, beq_iff_eq, decide_eq_true_eq, hz, hs]
    exact ⟨rfl, (by show L.length + 0 ≤ t.mask; omega)⟩
  · rw [hs]; unfold scanBound; omega
def rSortT (K : PySem.W.Frag) (P : Program) (w : World) : List V → Hp → VK → Prop := fun vs H Q => ∃ (a : Addr) (L : List (Addr × List Int)), vs = [V.ref a] ∧ H a = some (SetTO P w a L) ∧ (∀ q ∈ L, SqT K H q.1 (q.2.map V.int) ∧ q.2 ≠ []) ∧
  ∀ (L' : DL) (p : Addr), L'.Perm (L.map tupI) → (L.map (·.2)).Nodup → L'.Pairwise (fun q r => leD q r = true) → L.length ≤ 1000 → H p = none → Q (.ref p) (upd H p (.lst (L'.map fun q => V.ref q.1)))
theorem pure_ints : ∀ ns : List Int, pureDs (ns.map .int) = true
  | [] => rfl
  | n :: ns => by
    show pureDs (.int n :: ns.map .int) = true
    simp only [pureDs, pureD, pure_ints ns, Bool.and_self]
theorem tupD_ints {ns : List Int} (h : ns ≠ []) : TupD (.tuple (ns.map .int)) := by
  refine ⟨by simp only [pureD, pure_ints], ?_, ?_⟩
  · show PyData.depthAll (ns.map .int) + 1 ≤ 8
    rw [PySem.W.depth_ints]
    omega
  · cases ns with
    | nil => exact absurd rfl h
    | cons n ns => exact ⟨.int n, ns.map .int, rfl⟩
theorem cr_sortTI (hc : X.calm = true) (hu : X.A.units + 64 < cLine) : CallR X (.builtin "sorted") (rSortT X.K X.prog X.w) := by
  intro pins s σ H vs us Q I r h
  obtain ⟨a, L, rfl, ha, hk, q⟩ := h
  have R0 : SetT0 X.prog X.w s.heap a L := (I.hok a _ ha).1
  obtain ⟨es, ep, t, _, _, _, nd, _, _, _, few⟩ := R0.ex
  rw [Vals.ref1 r]
  have few2 : (L.map tupI).length ≤ 1000 := by rw [List.length_map]; omega
  have tup : ∀ z ∈ L.map tupI, Dp X.K H (.ref z.1) z.2 ∧ TupD z.2 := fun z hz => by
    obtain ⟨p, hp, rfl⟩ := List.mem_map.mp hz
    exact ⟨.tup (hk p hp).1 (dpAll_ints p.2), tupD_ints (hk p hp).2⟩
  refine sorted_raw (setT_raw R0) (I.ok.hd hc) (fun z hz => dp_reads0 I (tup z hz).1 (tup z hz).2.1) (fun d hd d' hd' => ?_) (fun z hz => (tup z hz).2) (by omega) few2 fun s' p out c L' k g o hp hg hout pm pw => ?_
  · obtain ⟨z, hz, rfl⟩ := List.mem_map.mp hd
    obtain ⟨z', hz', rfl⟩ := List.mem_map.mp hd'
    obtain ⟨p, _, rfl⟩ := List.mem_map.mp hz
    obtain ⟨p', _, rfl⟩ := List.mem_map.mp hz'
    simp only [PySem.W.alike]
    exact PySem.W.alike_ints _ _
  · exact ⟨.ref p, _, inv_new_list I k g o hp hg hout (by rw [pm.length_eq]; exact few2), rfl, q L' p pm nd pw (by omega) (I.hok.fresh hp)⟩
/-! ### min(xs) of data -/
def rMinD (K : PySem.W.Frag) : List V → Hp → VK → Prop := fun vs H Q => ∃ (l : Addr) (xs : List V) (ds : List PyData), vs = [V.ref l] ∧ SqL K H l xs ∧ DpAll K H xs ds ∧ ds ≠ [] ∧ (∀ d ∈ ds, TupD d) ∧ PySem.W.AllAlike ds ∧
  ∀ (i : Nat) v d, xs[i]? = some v → ds[i]? = some d → (∀ e ∈ ds, PySem.W.dataLt e d = false) → Q v H
theorem minD_spec : ∀ (xs : List PyData) (x : PyData), PySem.W.minD x xs ∈ x :: xs ∧ ∀ e ∈ x :: xs, PySem.W.dataLt e (PySem.W.minD x xs) = false
  | [], x => ⟨by simp [PySem.W.minD], fun e he => by
    rw [List.mem_singleton.mp he]
    exact PySem.W.dataLt_self x⟩
  | y :: xs, x => by
    have ez : PySem.W.minD x (y :: xs) = PySem.W.minD (if PySem.W.dataLt y x = true then y else x) xs := rfl
    rw [ez]
    clear ez
    obtain ⟨h1, h2⟩ := minD_spec xs (if PySem.W.dataLt y x = true then y else x)
    have tot := PySem.W.sortLe_total (α := PyData) (PyProof.Rows.listOrd PyProof.Rows.itemOrd) false PySem.W.keyToks
    have tr : ∀ a b c : PyData, PySem.W.dataLt b a = false → PySem.W.dataLt c b = false → PySem.W.dataLt c a = false := fun a b c hab hbc => by
      have := tot.trans a b c (by show (!PySem.W.dataLt b a) = true; rw [hab]; rfl) (by show (!PySem.W.dataLt c b) = true; rw [hbc]; rfl)
      have t2 : (!PySem.W.dataLt c a) = true := this
      simpa using t2
    have as : ∀ a b : PyData, PySem.W.dataLt a b = true → PySem.W.dataLt b a = false := fun a b h => by
      rcases tot.total a b with z | z
      · have t2 : (!PySem.W.dataLt b a) = true := z
        simpa using t2
      · have t2 : (!PySem.W.dataLt a b) = true := z
        rw [h] at t2
        cases t2
    generalize PySem.W.minD (if PySem.W.dataLt y x = true then y else x) xs = z at h1 h2 ⊢
    refine ⟨?_, fun e he => ?_⟩
    · rcases List.mem_cons.mp h1 with c | c
      · rw [c]
        split <;> simp
      · simp [c]
    · have hz : PySem.W.dataLt (if PySem.W.dataLt y x = true then y else x) z = false := h2 _ (by simp)
      rcases List.mem_cons.mp he with rfl | he
      · by_cases c : PySem.W.dataLt y e = true
        · rw [if_pos c] at hz
          exact tr _ _ _ hz (as _ _ c)
        · rw [if_neg c] at hz
          exact hz
      · rcases List.mem_cons.mp he with rfl | he
        · by_cases c : PySem.W.dataLt e x = true
          · rw [if_pos c] at hz
            exact hz
          · rw [if_neg c] at hz
            exact tr _ _ _ hz (by simpa using c)
        · exact h2 e (by simp [he])
theorem depthAll_le : ∀ (ds : List PyData) (n : Nat), (∀ d ∈ ds, d.depth ≤ n) → PyData.depthAll ds ≤ n
  | [], n, _ => by simp [PyData.depthAll]
  | d :: ds, n, h => by
    have h1 := h d (by simp)
    have h2 := depthAll_le ds n fun e he => h e (by simp [he])
    simp only [PyData.depthAll]
    omega
theorem cr_minD (hc : X.calm = true) (hu : X.A.units + 64 < cLine) : CallR X (.builtin "min") (rMinD X.K) := by
  intro pins s σ H vs us Q I r h
  obtain ⟨l, xs, ds, rfl, hl, hd, hne, ht, hal, q⟩ := h
  rw [Vals.ref1 r]
  obtain ⟨its, rv, pl, hsz⟩ := I.list hl
  obtain ⟨as, hr⟩ := Dp.readsAll I ds _ its hd rv
  have hpure : pureDs ds = true := (pureDs_iff ds).mpr fun d h => (ht d h).1
  obtain ⟨_, rfl⟩ := reads_keys ds _ _ hpure hr
  cases ds with
  | nil => exact absurd rfl hne
  | cons d0 ds =>
    refine PySem.W.min_list_data (I.ok.hd hc) pl.isList (x := d0) (xs := ds) (by simpa using hr) ⟨fun x hx y hy => hal x hx y hy, fun x hx e => ?_⟩ ?_ fun i v h' tk bs hi hb k => ?_
    · obtain ⟨_, _, y, ys, e2⟩ := ht x hx
      rw [e2] at e
      cases e
    · have := depthAll_le (d0 :: ds) 8 fun d h => (ht d h).2.1
      omega
    · have hi' : its[i]? = some v := by simpa using hi
      have hil : i < its.length := (List.getElem?_eq_some_iff.mp hi').1
      have hx : xs[i]? = some (xs[i]'(by rw [rv.length]; exact hil)) := List.getElem?_eq_getElem _
      obtain ⟨u, hu1, hu2⟩ := rv.get hx
      rw [hi'] at hu1
      cases hu1
      obtain ⟨d, hd1, hd2⟩ := dpAll_at' hd hx
      obtain ⟨m1, m2⟩ := minD_spec ds d0
      have e : d = PySem.W.minD d0 ds := by
        have I2 : Inv X pins σ H { s with heap := h', toks := tk } := I.kept k
        obtain ⟨cs, rc⟩ := Dp.reads I2 d _ _ hd2 hu2
        exact SeqAt.Reads.unique d _ v cs bs (pure_lay d (ht d (List.mem_of_getElem? hd1)).1) rc hb
      subst e
      exact ⟨_, H, I.kept k, hu2, q _ _ _ hx hd1 m2⟩
/-! ### x in a tuple of data; t.index(n) -/
def rInT (K : PySem.W.Frag) (neg : Bool) : R2 := fun x y H Q => ∃ d ds, Dp K H x d ∧ Dp K H y (.tuple ds) ∧ SeqAt.shaped d = true ∧ SeqAt.shaped (.tuple ds) = true ∧ Q (.bl (if neg then !(ds.any fun z => PyData.eqv z d) else ds.any fun z => PyData.eqv z d)) H
theorem op_inT (hu : X.A.units + 65 < cLine) : OpR X (compareOp .In) (rInT X.K false) := by
  intro pins s σ H x y v u Q I rx ry h
  obtain ⟨d, ds, hd, he, sd, se, q⟩ := h
  obtain ⟨as, r1⟩ := Dp.reads I d x v hd rx
  obtain ⟨bs, r2⟩ := Dp.reads I (.tuple ds) y u he ry
  exact SeqAt.in_tuple_reads r2 r1 (SeqAt.canLay_of_shaped se) (SeqAt.canLay_of_shaped sd) (room_in_shaped sd hu) ⟨.bl _, H, I, rfl, q⟩
theorem mt_tupIndexI : MtR X "tuple.index" (fun x xs H Q => ∃ (p : Addr) (ns : List Int) (k : Int), x = .ref p ∧ xs = [.int k] ∧ SqT X.K H p (ns.map V.int) ∧ k ∈ ns ∧ Q (.int (ns.idxOf k : Nat)) H) := by
  intro pins s σ H x xs v us Q I rx rs h
  obtain ⟨p, ns, k, rfl, rfl, hq, hk, q⟩ := h
  cases rx
  obtain ⟨u, rfl, t, rfl⟩ := vals1 rs
  obtain ⟨its, r, pl, hz⟩ := I.tuple hq
  exact PySem.SeqAt.tuple_index_ints (vs := its) pl (r.ints) hk ⟨.int (ns.idxOf k : Nat), H, I.tok _, ⟨_, rfl⟩, q⟩
end
/-- what can't be reached -/
def tNo : TE := fun _ _ _ => False
theorem pe_no {X : Cx} {e : Expr} : PE X e tNo := ⟨fun _ _ _ _ _ _ h => h.elim⟩
end Wk
end

section
set_option Elab.async false
set_option linter.all false
set_option maxRecDepth 100000
set_option maxHeartbeats 4000000
namespace Wk
open PySem PySem.Spec PyProof.Rows L2
/-! ### dicts whose keys are tuples of tuples -/
/-- key, where it stands, value -/
abbrev NL := List (PyData × Addr × V)
def nrow (p : (PyData × Addr × V) × Value) : NestedKey × Addr × Value := (kd p.1.1, p.1.2.1, p.2)
def DictRaw0 (P : Program) (w : World) (h : Heap) (a : Addr) (L : NL) : Prop := ∃ us : List Value, Vals (L.map (·.2.2)) us ∧ (a == sysModules) = false ∧ L.length ≤ 1000 ∧ (L.map fun x => kd x.1).Nodup ∧
  ∃ o es ep, h.get? a = some o ∧ o.ExactDict ∧ o.data = .dict es ep ∧ es.toList = ((L.zip us).map nrow).map (entryOfKey (nestedKind P w))
def DictNO (P : Program) (w : World) (a : Addr) (L : NL) : HO := .ext fun h => DictRaw0 P w h a L
/-- a key that is there -/
def KeyD (K : PySem.W.Frag) (H : Hp) (x : PyData × Addr × V) : Prop := Dp K H (.ref x.2.1) x.1 ∧ TupD x.1
theorem dictN_new {P : Program} {w : World} {H : Hp} {h : Heap} {a : Addr} {L : NL} (R : DictRaw0 P w h a L) : ObjOk P w H h a (DictNO P w a L) := by
  have ⟨us, h1, h2, h3, h4, o, es, ep, ho, r⟩ := R
  exact ⟨R, ⟨o, ho⟩, fun ha hb ⟨us, h1, h2, h3, h4, o, es, ep, ho, r⟩ k => ⟨us, h1, h2, h3, h4, o, es, ep, k o ho, r⟩⟩
theorem dictN_empty {P : Program} {w : World} {H : Hp} (h : Heap) (hb : sysModules < h.objs.size) : ObjOk P w H (h.push { cls := .type "dict", data := .dict #[] }) h.objs.size (DictNO P w h.objs.size []) :=
  dictN_new ⟨[], .nil, beq_eq_false_iff_ne.mpr (Ne.symm (Nat.ne_of_lt hb)), Nat.zero_le _, List.nodup_nil, _, #[], 0, Heap.get?_push_size _ rfl, ⟨rfl, rfl, rfl⟩, rfl, rfl⟩
section
variable {X : Cx} {pins : List (Addr × Obj)} {σ : L2.St} {H : Hp} {s : Shared}
def tDNewN (P : Program) (w : World) : TE := fun _ H Q => ∀ p, H p = none → Q (.ref p) (upd H p (DictNO P w p []))
theorem pe_dnewN {pos : Pos} : PE X (.Dict [] [] pos) (tDNewN X.prog X.w) := ⟨fun pins s σ H Q I h =>
  wpAny_Dict_empty ⟨.ref s.heap.objs.size, _, I.laid (a := s.heap.objs.size) (o := DictNO X.prog X.w s.heap.objs.size []) (t' := s.toks) (fun _ _ q => Heap.get?_push_of_some _ q) (Nat.le_refl _) (dictN_empty s.heap I.big), rfl, h _ (I.hok.fresh (Nat.le_refl _))⟩⟩
theorem nrows_len {L : NL} {us : List Value} (h : Vals (L.map (·.2.2)) us) : ((L.zip us).map nrow).length = L.length := by
  have := h.length
  rw [List.length_map] at this
  rw [List.length_map, List.length_zip]
  omega
theorem nrows_keys {L : NL} {us : List Value} (h : Vals (L.map (·.2.2)) us) : ((L.zip us).map nrow).map (·.1) = L.map fun x => kd x.1 := by
  have hl := h.length
  rw [List.length_map] at hl
  rw [List.map_map]
  have : ((·.1) ∘ nrow : (PyData × Addr × V) × Value → NestedKey) = (fun x => kd x.1) ∘ Prod.fst := by funext p; rfl
  rw [this, ← List.map_map, List.map_fst_zip (by omega)]
/-- the dict as the library has it -/
theorem dictN_of (I : Inv X pins σ H s) {a : Addr} {L : NL} (ha : H a = some (DictNO X.prog X.w a L)) (hk : ∀ x ∈ L, KeyD X.K H x) :
    ∃ us, Vals (L.map (·.2.2)) us ∧ (a == sysModules) = false ∧ L.length ≤ 1000 ∧ (L.map fun x => kd x.1).Nodup ∧ s.heap.DictOfH (nestedKind X.prog X.w) a ((L.zip us).map nrow) := by
  have R : DictRaw0 X.prog X.w s.heap a L := (I.hok a _ ha).1
  obtain ⟨us, h1, h2, h3, h4, o, es, ep, ho, hx, hd, he⟩ := R
  refine ⟨us, h1, h2, h3, h4, o, es, ep, ho, hx, hd, he, fun x hm => ?_, by rw [nrows_keys h1]; exact h4⟩
  obtain ⟨p, hp, rfl⟩ := List.mem_map.mp hm
  obtain ⟨d1, d2⟩ := hk p.1 (List.of_mem_zip hp).1
  have := Dp.key I d1 d2.1 d2.2.1
  exact ⟨this.is, this.dp⟩
theorem atKey_iff {L : NL} {us : List Value} (h : Vals (L.map (·.2.2)) us) (hk : ∀ x ∈ L, KeyD X.K H x) {d : PyData} (hd : TupD d) : (atKey ((L.zip us).map nrow) (kd d)).isSome = true ↔ d ∈ L.map (·.1) := by
  constructor
  · intro hs
    unfold atKey at hs
    rw [Option.isSome_map, List.find?_isSome] at hs
    obtain ⟨x, hx, e⟩ := hs
    have e := of_decide_eq_true e
    obtain ⟨p, hp, rfl⟩ := List.mem_map.mp hx
    have hm := (List.of_mem_zip hp).1
    have : p.1.1 = d := kd_inj _ _ (hk p.1 hm).2.1 hd.1 e
    rw [← this]
    exact List.mem_map.mpr ⟨p.1, hm, rfl⟩
  · intro hm
    obtain ⟨x, hx, rfl⟩ := List.mem_map.mp hm
    have : kd x.1 ∈ ((L.zip us).map nrow).map (·.1) := by
      rw [nrows_keys h]
      exact List.mem_map.mpr ⟨x, hx, rfl⟩
    obtain ⟨y, hy, ey⟩ := List.mem_map.mp this
    unfold atKey
    rw [Option.isSome_map, List.find?_isSome]
    exact ⟨y, hy, by simp [ey]⟩
def rInN (P : Program) (w : World) (K : PySem.W.Frag) (neg : Bool) : R2 := fun x y H Q => ∃ a b d L, x = .ref b ∧ y = .ref a ∧ Dp K H (.ref b) d ∧ TupD d ∧ H a = some (DictNO P w a L) ∧ (∀ x ∈ L, KeyD K H x) ∧ ∀ c : Bool, (c = true ↔ d ∈ L.map (·.1)) → Q (.bl (if neg then !c else c)) H
theorem op_inN (hu : X.A.units + 64 < cLine) : OpR X (compareOp .In) (rInN X.prog X.w X.K false) := by
  intro pins s σ H x y v u Q I rx ry h
  obtain ⟨a, b, d, L, rfl, rfl, hd, ht, ha, hk, q⟩ := h
  cases rx
  cases ry
  obtain ⟨us, h1, h2, h3, h4, hm⟩ := dictN_of I ha hk
  have kk := Dp.key I hd ht.1 ht.2.1
  exact wpAny_in_heap (knd := nestedKind X.prog X.w) (k := kd d) (by show X.A.units + 1 + 8 < cLine; omega) ⟨kk.is, kk.dp⟩ h2 hm ⟨.bl _, H, I.tok _, rfl, q _ (atKey_iff h1 hk ht)⟩
theorem op_notInN (hu : X.A.units + 64 < cLine) : OpR X (compareOp .NotIn) (rInN X.prog X.w X.K true) := by
  intro pins s σ H x y v u Q I rx ry h
  obtain ⟨a, b, d, L, rfl, rfl, hd, ht, ha, hk, q⟩ := h
  cases rx
  cases ry
  obtain ⟨us, h1, h2, h3, h4, hm⟩ := dictN_of I ha hk
  have kk := Dp.key I hd ht.1 ht.2.1
  show wpAny _ _ (do return Value.bool (!(← contains (Value.ref a) (Value.ref b)))) _ _ s
  exact wpAny_bind (wpAny_contains_heap (knd := nestedKind X.prog X.w) (k := kd d) (by show X.A.units + 1 + 8 < cLine; omega) ⟨kk.is, kk.dp⟩ h2 hm (wpAny_pure ⟨.bl _, H, I.tok _, rfl, q _ (atKey_iff h1 hk ht)⟩))
/-- d[k], k there -/
def rGetN (P : Program) (w : World) (K : PySem.W.Frag) : R2 := fun x y H Q => ∃ a b d L c v, x = .ref a ∧ y = .ref b ∧ Dp K H (.ref b) d ∧ TupD d ∧ H a = some (DictNO P w a L) ∧ (∀ x ∈ L, KeyD K H x) ∧ (d, c, v) ∈ L ∧ Q v H
theorem vals_zip {xs : List V} {us : List Value} (h : Vals xs us) : ∀ i (h1 : i < xs.length) (h2 : i < us.length), RelV xs[i] us[i] := fun i h1 h2 => by
  obtain ⟨u, e, r⟩ := h.get (List.getElem?_eq_getElem h1)
  rw [List.getElem?_eq_getElem h2] at e
  cases e
  exact r
theorem ix_nest (hu : X.A.units + 64 < cLine) : IxR X (rGetN X.prog X.w X.K) := by
  intro value slice pins s σ H x y v u Q I rx ry h hs
  obtain ⟨a, b, d, L, c, z, rfl, rfl, hd, ht, ha, hk, hmem, q⟩ := h
  cases rx
  cases ry
  obtain ⟨us, h1, h2, h3, h4, hm⟩ := dictN_of I ha hk
  have kk := Dp.key I hd ht.1 ht.2.1
  obtain ⟨i, hi, e⟩ := List.getElem_of_mem hmem
  have hl := h1.length
  rw [List.length_map] at hl
  have hr := vals_zip h1 i (by rw [List.length_map]; exact hi) (by omega)
  rw [List.getElem_map, e] at hr
  have hat : atKey ((L.zip us).map nrow) (kd d) = some (c, us[i]'(by omega)) := by
    refine atKey_of_get (i := i) (by rw [nrows_keys h1]; exact h4) ?_
    have hz : i < (L.zip us).length := by rw [List.length_zip]; omega
    rw [List.getElem?_map, List.getElem?_eq_getElem hz, List.getElem_zip, e]
    rfl
  exact subscriptTail_builtinR (x := us[i]'(by omega)) hm.typeIs PySem.F.slot_dict_getitem.lookup
    (wpAny_getItem_heap (knd := nestedKind X.prog X.w) (k := kd d) (Q := fun r s' => r = us[i]'(by omega) ∧ EP X pins σ Q r s') (by show X.A.units + 1 + 8 < cLine; omega) ⟨kk.is, kk.dp⟩ hm hat ⟨rfl, z, H, I.tok _, hr, q⟩) hs
/-- d[k] = v, k not there -/
def rSetN (P : Program) (w : World) (K : PySem.W.Frag) : TSet := fun o i v H Q => ∃ a b d L, o = .ref a ∧ i = .ref b ∧ Dp K H (.ref b) d ∧ TupD d ∧ H a = some (DictNO P w a L) ∧ (∀ x ∈ L, KeyD K H x) ∧ d ∉ L.map (·.1) ∧ L.length < 1000 ∧ Q (upd H a (DictNO P w a (L ++ [(d, b, v)])))
theorem stored_new (I : Inv X pins σ H s) {a b : Addr} {d : PyData} {L : NL} {v : V} {u : Value} {h' : Heap} {t' : Nat} (ha : H a = some (DictNO X.prog X.w a L)) (hk : ∀ x ∈ L, KeyD X.K H x) (ht : TupD d) (hn : d ∉ L.map (·.1)) (hl : L.length < 1000) (r : RelV v u)
    {us : List Value} (h1 : Vals (L.map (·.2.2)) us) (h2 : (a == sysModules) = false) (hd : h'.DictOfH (nestedKind X.prog X.w) a (storedH ((L.zip us).map nrow) (kd d) b u)) (hs : Heap.SameBut a s.heap h') :
    Inv X pins σ (upd H a (DictNO X.prog X.w a (L ++ [(d, b, v)]))) { s with heap := h', toks := t' } := by
  have hat : atKey ((L.zip us).map nrow) (kd d) = none := by
    cases e : atKey ((L.zip us).map nrow) (kd d) with
    | none => rfl
    | some p => exact absurd ((atKey_iff h1 hk ht).mp (by rw [e]; rfl)) hn
  rw [storedH_new hat] at hd
  obtain ⟨o, es, ep, ho, hx, hdt, he, _, nd⟩ := hd
  have hlen := h1.length
  rw [List.length_map] at hlen
  have e2 : (L.zip us).map nrow ++ [(kd d, b, u)] = ((L ++ [(d, b, v)]).zip (us ++ [u])).map nrow := by
    rw [List.zip_append hlen, List.map_append]
    rfl
  have v2 : Vals ((L ++ [(d, b, v)]).map (·.2.2)) (us ++ [u]) := by
    rw [List.map_append]
    exact h1.append (.cons r .nil)
  rw [e2] at he nd
  rw [nrows_keys v2] at nd
  exact I.write (e := a) (t' := t') (by rw [ha]; trivial) (.inl rfl) (fun c q hc e => (hs.2 c hc).trans e) ⟨o, ho⟩ (dictN_new ⟨us ++ [u], v2, h2, by rw [List.length_append]; exact hl, nd, o, es, ep, ho, hx, hdt, he⟩)
theorem set_nest (hu : X.A.units + 64 < cLine) : PSet X (rSetN X.prog X.w X.K) := by
  intro pins s σ H o i v ov iv u Q I ro ri rv h
  obtain ⟨a, b, d, L, rfl, rfl, hd, ht, ha, hk, hn, hl, q⟩ := h
  cases ro
  cases ri
  obtain ⟨us, h1, h2, h3, h4, hm⟩ := dictN_of I ha hk
  have kk := Dp.key I hd ht.1 ht.2.1
  exact wpAny_setItem_heap (knd := nestedKind X.prog X.w) (k := kd d) (hsz := by rw [nrows_len h1, sizeLine_eq]; omega) (by show X.A.units + 1 + 8 < cLine; omega) ⟨kk.is, kk.dp⟩ hm fun h' hm' hs =>
    ⟨_, stored_new I ha hk ht hn hl rv h1 h2 hm' hs, q⟩
theorem dictSet_nest {E : Value → Shared → Prop} (hu : X.A.units + 64 < cLine) (I : Inv X pins σ H s) {a b : Addr} {d : PyData} {L : NL} {v : V} {u : Value} {Q : Unit → Shared → Prop} (hd : Dp X.K H (.ref b) d) (ht : TupD d) (ha : H a = some (DictNO X.prog X.w a L)) (hk : ∀ x ∈ L, KeyD X.K H x) (hn : d ∉ L.map (·.1)) (hl : L.length < 1000) (r : RelV v u)
    (h : ∀ s', Inv X pins σ (upd H a (DictNO X.prog X.w a (L ++ [(d, b, v)]))) s' → Q () s') : wpAny (model X.prog X.w) X.A (dictSet a (.ref b) u) Q E s := by
  obtain ⟨us, h1, h2, h3, h4, hm⟩ := dictN_of I ha hk
  have kk := Dp.key I hd ht.1 ht.2.1
  exact wpAny_dictSet_heap (knd := nestedKind X.prog X.w) (k := kd d) (hsz := by rw [nrows_len h1, sizeLine_eq]; omega) (by show X.A.units + 8 < cLine; omega) ⟨kk.is, kk.dp⟩ hm fun h' hm' hs => h _ (stored_new I ha hk ht hn hl r h1 h2 hm' hs)
theorem call_lenN : CallR X (.builtin "len") (fun xs H Q => ∃ a L, xs = [V.ref a] ∧ H a = some (DictNO X.prog X.w a L) ∧ (∀ x ∈ L, KeyD X.K H x) ∧ Q (.int L.length) H) := by
  intro pins s σ H xs us Q I r h
  obtain ⟨a, L, rfl, ha, hk, q⟩ := h
  rw [Vals.ref1 r]
  obtain ⟨vs, h1, h2, h3, h4, hm⟩ := dictN_of I ha hk
  refine call_len_slot (n := L.length) hm.typeIs F.slot_dict_len (fun Q' hq => len_keyed (knd := nestedKind X.prog X.w) h2 (kvs := pairsH ((L.zip vs).map nrow)) ⟨_, hm, rfl⟩ ?_) (by omega) (by omega) ⟨.int L.length, H, I.tok _, ⟨_, rfl⟩, q⟩
  rw [pairsH_length, nrows_len h1]
  exact hq
/-! ### {k: v for target in iter}, keys tuples of tuples that differ -/
def tDcN (P : Program) (w : World) (K : PySem.W.Frag) (wi : TI) (g : TG) (tt : TT) (tk tv : TE) (vs : List Nat) : TE := fun σ H Q => wi σ H fun J H1 => ∀ D, H1 D = none → ∃ W : Nat → Nat → Hp → Prop, (∃ m, W 0 m (upd H1 D (DictNO P w D []))) ∧ ∀ i m H, W i m H →
  (J.stop i H ∧ Q (.ref D) H) ∨ (J.go i H ∧ ∃ Nx : Hp → Prop, (∀ H', Nx H' → ∃ m', m' < m ∧ W (i + 1) m' H') ∧ ∀ x H', J.yld i H x H' → g x (wipe σ vs) H' fun σ2 H2 => wipe σ2 vs = wipe σ vs ∧ tt σ2 H2 fun b H3 =>
    if b = true then tk σ2 H3 fun y H4 => tv σ2 H4 fun z H5 => ∃ L d b, y = .ref b ∧ Dp K H5 (.ref b) d ∧ TupD d ∧ H5 D = some (DictNO P w D L) ∧ (∀ x ∈ L, KeyD K H5 x) ∧ d ∉ L.map (·.1) ∧ L.length < 1000 ∧ Nx (upd H5 D (DictNO P w D (L ++ [(d, b, z)]))) else Nx H3)
theorem dcN_core {pins : List (Addr × Obj)} {s : Shared} {σ : L2.St} {H : Hp} {Q : VK} {kx vx tg iter : Expr} {ifs : List Expr} {scope : Scope} {own : List (Str × Nat)} {pos pos' : Pos} {wi : TI} {g : TG} {tt : TT} {tk tv : TE} {use : Option (Value → Sem Unit)} {Qf : Value → Shared → Prop} (hc : X.calm = true) (hu : X.A.units + 64 < cLine) (hN : X.N.Nodup) (I : Inv X pins σ H s) (hi : PI X tg iter wi) (ok : BlkOk X.N X.env.scope scope own)
    (hg : ∀ (s : Shared) (H : Hp) (C : Addr) (cl : List (Str × Addr)) (fp : List Addr), PG (X.blk s H scope (compEnvC scope cl C X.env) fp) tg g) (ht : ∀ (s : Shared) (H : Hp) (C : Addr) (cl : List (Str × Addr)) (fp : List Addr), PTs (X.blk s H scope (compEnvC scope cl C X.env) fp) ifs tt)
    (hk : ∀ (s : Shared) (H : Hp) (C : Addr) (cl : List (Str × Addr)) (fp : List Addr), PE (X.blk s H scope (compEnvC scope cl C X.env) fp) kx tk)
    (he : ∀ (s : Shared) (H : Hp) (C : Addr) (cl : List (Str × Addr)) (fp : List Addr), PE (X.blk s H scope (compEnvC scope cl C X.env) fp) vx tv) (hs : ∀ x, foldedSetIterable iter X.env x = pure x)
    (h : tDcN X.prog X.w X.K wi g tt tk tv (own.map (·.2)) σ H Q)
    (hRR : ∀ D C s' m H', Inv X pins σ H' s' → Q (.ref D) H' → s'.heap.Ns C m → FpOk X pins H' C → compPost (model X.prog X.w) X.A X.xe use Qf (.ref D) C (.ok .next) s') :
    wpAny (model X.prog X.w) X.A (comprehension (.DictComp kx vx [⟨tg, iter, ifs, 0⟩] scope pos) scope X.env pos' newDict false (eval iter X.env) use) Qf X.xe s := by
  have hfree : ∀ y ∈ scope.names, y.2 = .free → ∃ c, X.env.cells.lookup y.1 = some c := fun y hy e => (ok.free y hy e).elim (fun k => I.ok.has _ (.inl k)) (fun k => I.ok.has _ (.inr k))
  refine wpAny_comprehension_free (use := use) rfl hs (closure_ok hfree) ok.kind (fun y hy e => by rw [ok.uniq y hy, e]) (thn (hi.run pins s σ H _ I h) fun xv s1 hx => thn hx fun itv s2 h2 => ?_)
  obtain ⟨it, fp, tn, J, H2, rfl, I2, T, st2, f2, q⟩ := h2
  refine wpAny_newObj_type (newEnv_comp ?_)
  have hDn : H2 s2.heap.objs.size = none := I2.hok.fresh (Nat.le_refl _)
  obtain ⟨W, ⟨m0, w0⟩, turn⟩ := q _ hDn
  generalize hs3 : ({ s2 with heap := s2.heap.push { cls := .type "dict", data := .dict #[] } } : Shared) = s3
  have I3 : Inv X pins σ (upd H2 s2.heap.objs.size (DictNO X.prog X.w s2.heap.objs.size [])) s3 := by
    rw [← hs3]
    exact I2.laid (t' := s2.toks) (fun b o e => Heap.get?_push_of_some _ e) (Nat.le_refl _) (dictN_empty s2.heap I2.big)
  have h3 : s3.heap = s2.heap.push { cls := .type "dict", data := .dict #[] } := by rw [← hs3]
  have sz : ∀ b ∈ fp, b < s2.heap.objs.size := fun b hb => let ⟨o, e, _⟩ := T.obj _ _ st2 b hb; Heap.lt_size e
  generalize hDe : s2.heap.objs.size = D at *
  have f3 : ∀ b ∈ fp, FpOk X pins (upd H2 D (DictNO X.prog X.w D [])) b ∧ b < s3.heap.objs.size := fun b hb => by
    have hlt := sz b hb
    refine ⟨⟨?_, (f2 b hb).2⟩, by rw [h3, Heap.size_push, hDe]; exact Nat.lt_succ_of_lt hlt⟩
    rw [upd_ne (Nat.ne_of_lt hlt)]
    exact (f2 b hb).1
  have st3 : tn 0 s3.heap := T.keep _ _ _ st2 fun b _ o e => by rw [h3]; exact Heap.get?_push_of_some _ e
  have I4 := block_start I3 ok hN f3
  have nfp : ∀ b ∈ fp, (upd H2 D (DictNO X.prog X.w D [])) b = none := fun b hb => (f3 b hb).1.1
  generalize hH3 : upd H2 D (DictNO X.prog X.w D []) = H3 at I3 I4 w0 nfp f3
  have pg := hg s3 H3 s3.heap.objs.size (cellsFrom (s3.heap.objs.size + 1) scope.names (cloFrom X.env.cells scope.names [])) fp
  have pt := ht s3 H3 s3.heap.objs.size (cellsFrom (s3.heap.objs.size + 1) scope.names (cloFrom X.env.cells scope.names [])) fp
  have pk := hk s3 H3 s3.heap.objs.size (cellsFrom (s3.heap.objs.size + 1) scope.names (cloFrom X.env.cells scope.names [])) fp
  have pe := he s3 H3 s3.heap.objs.size (cellsFrom (s3.heap.objs.size + 1) scope.names (cloFrom X.env.cells scope.names [])) fp
  show codeAny _ _ (.compStart (.DictComp kx vx [⟨tg, iter, ifs, 0⟩] scope pos) 0 (.ref it) (.ref D) (compEnvC scope (cellsFrom (s3.heap.objs.size + 1) scope.names (cloFrom X.env.cells scope.names [])) s3.heap.objs.size X.env)) _ { s3 with heap := pushCells (s3.heap.push { cls := .type "dict", data := .dict #[] }) scope.names }
  generalize hce : compEnvC scope (cellsFrom (s3.heap.objs.size + 1) scope.names (cloFrom X.env.cells scope.names [])) s3.heap.objs.size X.env = ce at I4 pg pt pk pe ⊢
  have cL : ce.locals = s3.heap.objs.size := by subst hce; rfl
  generalize hs4 : ({ s3 with heap := pushCells (s3.heap.push { cls := .type "dict", data := .dict #[] }) scope.names } : Shared) = s4 at I4 ⊢
  have st4 : tn 0 s4.heap := T.keep _ _ _ st3 fun b _ o e => by rw [← hs4]; exact pushCells_keeps _ _ _ _ (Heap.get?_push_of_some _ e)
  have stat : ∀ {σ' : L2.St} {H' : Hp} {s' : Shared}, Inv (X.blk s3 H3 scope ce fp) [] σ' H' s' → (∀ b ∈ fp, H' b = none) → ∀ b ∈ fp, FpOk (X.blk s3 H3 scope ce fp) [] H' b := fun I' hn b hb =>
    ⟨hn b hb, (I'.ok.exf b hb).1, I'.ok.exfs b hb, .inl hb, fun x c e => (I'.ok.exf b hb).2 x c e, fun p hp => absurd (show p ∈ ([] : List (Addr × Obj)) ++ [] from hp) (by simp)⟩
  refine codeAny_compStart_dict ?loop (T.self X.A 0 _ _ _ st4 ?loop)
  refine compLoop_anyD (fun n s' => ∃ i H', Inv (X.blk s3 H3 scope ce fp) [] (wipe σ (own.map (·.2))) H' s' ∧ tn i s'.heap ∧ (∀ b ∈ fp, H' b = none) ∧ W i n H') ?_ m0 ⟨0, H3, I4, st4, nfp, w0⟩
  rintro n s5 ⟨i, H5, I5, st5, n5, w5⟩
  rcases turn i n H5 w5 with ⟨stop, qq⟩ | ⟨go, Nx, hNx, step⟩
  · refine thnF (T.done (X.blk s3 H3 scope ce fp) rfl rfl rfl hc i [] s5 _ H5 (fun _ _ => False) I5 (stat I5 n5) st5 stop) fun r s6 ⟨hr, I6⟩ => ?_
    subst hr
    have I7 : Inv X pins σ H5 s6 := I3.call' (ch := fp) I6.os I6.base I6.hok I6.bare fun b hb => ⟨(f3 b hb).1.2.2.2.1, (f3 b hb).1.2.1, (f3 b hb).1.2.2.2.2.1, (f3 b hb).1.2.2.2.2.2⟩
    have nC : H5 s3.heap.objs.size = none := by
      have z : H5 ce.locals = none := I6.free
      rwa [cL] at z
    obtain ⟨m, hn, _⟩ := I6.loc
    have hn : s6.heap.Ns ce.locals m := hn
    rw [cL] at hn
    exact hRR D s3.heap.objs.size s6 m H5 I7 qq hn (I3.fpOk (Nat.le_refl _) nC)
  · refine thnF (T.item (X.blk s3 H3 scope ce fp) rfl rfl rfl hc i [] s5 _ H5 (fun _ _ => False) I5 (stat I5 n5) st5 go) fun r s6 ⟨u, hr, h6⟩ => ?_
    subst hr
    refine thnF h6 fun _ s7 ⟨x, H7, I7, r7, y7, st7, n7⟩ => ?_
    have I7' := I7.pinned (stat I7 n7) (T.obj _ _ st7)
    refine thnF (pg.run _ s7 _ H7 x u _ I7' r7 (step x H7 y7)) fun _ s8 ⟨σ8, H8, I8, hw8, q8⟩ => ?_
    refine thnF (pt.run _ s8 σ8 H8 _ I8 q8) fun b s9 ⟨H9, I9, q9⟩ => ?_
    have fin : ∀ {s' : Shared} {H' : Hp}, Inv (X.blk s3 H3 scope ce fp) ([] ++ pinsAt fp s7.heap) σ8 H' s' → Nx H' → ∃ m, m < n ∧ ∃ i H', Inv (X.blk s3 H3 scope ce fp) [] (wipe σ (own.map (·.2))) H' s' ∧ tn i s'.heap ∧ (∀ b ∈ fp, H' b = none) ∧ W i m H' := fun {s' H'} I' nx => by
      obtain ⟨m', hm, w'⟩ := hNx H' nx
      have pin' : ∀ b ∈ fp, ∀ o, s7.heap.get? b = some o → s'.heap.get? b = some o ∧ H' b = none := fun b hb o e =>
        let z := I'.pin (b, o) (List.mem_append_right _ (List.mem_append_right _ (mem_pinsAt hb e)))
        ⟨z.1, z.2.1⟩
      refine ⟨m', hm, i + 1, H', (I'.unpinned (pins := [])).weak (by rw [← hw8, wipe_length]) (fun j v e => ?_), T.keep _ _ _ st7 fun b hb o e => (pin' b hb o e).1, fun b hb => ?_, w'⟩
      · rw [← hw8] at e
        exact (wipe_some e).1
      · obtain ⟨o, e, _⟩ := T.obj _ _ st7 b hb
        exact (pin' b hb o e).2
    cases b with
    | false =>
      simp only [Bool.false_eq_true, if_false] at q9 ⊢
      exact fin I9 q9
    | true =>
      simp only [if_true] at q9 ⊢
      refine thnF (pk.run _ s9 σ8 H9 _ I9 q9) fun z s10 ⟨yk, H10, I10, r10, q10⟩ => ?_
      refine thnF (pe.run _ s10 σ8 H10 _ I10 q10) fun z2 s11 ⟨yv, H11, I11, r11, L, d, b, ek, hd, htd, hD11, hkl, hno, hz11, nx⟩ => ?_
      subst ek
      cases r10
      exact dictSet_nest (X := X.blk s3 H3 scope ce fp) hu I11 hd htd hD11 hkl hno hz11 r11 fun s12 I12 => fin I12 nx
theorem pe_dcN {kx vx tg iter : Expr} {ifs : List Expr} {scope : Scope} {own : List (Str × Nat)} {pos : Pos} {wi : TI} {g : TG} {tt : TT} {tk tv : TE} (hc : X.calm = true) (hu : X.A.units + 64 < cLine) (hN : X.N.Nodup) (hi : PI X tg iter wi) (ok : BlkOk X.N X.env.scope scope own)
    (hg : ∀ (s : Shared) (H : Hp) (C : Addr) (cl : List (Str × Addr)) (fp : List Addr), PG (X.blk s H scope (compEnvC scope cl C X.env) fp) tg g) (ht : ∀ (s : Shared) (H : Hp) (C : Addr) (cl : List (Str × Addr)) (fp : List Addr), PTs (X.blk s H scope (compEnvC scope cl C X.env) fp) ifs tt)
    (hk : ∀ (s : Shared) (H : Hp) (C : Addr) (cl : List (Str × Addr)) (fp : List Addr), PE (X.blk s H scope (compEnvC scope cl C X.env) fp) kx tk)
    (he : ∀ (s : Shared) (H : Hp) (C : Addr) (cl : List (Str × Addr)) (fp : List Addr), PE (X.blk s H scope (compEnvC scope cl C X.env) fp) vx tv) (hs : ∀ x, foldedSetIterable iter X.env x = pure x := by intro _; rfl) :
    PE X (.DictComp kx vx [⟨tg, iter, ifs, 0⟩] scope pos) (tDcN X.prog X.w X.K wi g tt tk tv (own.map (·.2))) := by
  refine ⟨fun pins s σ H Q I h => ?_⟩
  rw [arm_eval_DictComp]
  refine dcN_core hc hu hN I hi ok hg ht hk he hs h fun D C s' m H' I' q hn f => ?_
  obtain ⟨f0, g1, g2, g3, g4, g5⟩ := f
  exact ⟨m, hn, fun h'' sb => ⟨.ref D, H', I'.turned (t' := s'.toks) (fun b o hb e => (sb.2 b hb).trans e) f0 g1 g3 g4 g5, rfl, q⟩⟩
theorem swN_true {kx vx : Expr} {gs : List Comprehension} {scope : Scope} {pos py : Pos} {y : Str} {l : Nat} {env : Env} (hk : env.scope.kind = .function) (hy : env.scope.names.lookup y = some .local) (hl : (py.line == pos.line) = true)
    (ha : (scope.names.any fun (n, k) => n == y && (k == .local || k == .cell)) = false) : swapsWith (.DictComp kx vx gs scope pos) (some (.Name y py)) l env = pure true := by
  have ky : env.kindOf y = some .local := hy
  have hb : env.blockKind = .function := by
    unfold Env.blockKind
    rw [hk]
    rfl
  unfold swapsWith
  simp only [hb, ky, ha, Expr.pos, hl]
  rfl
/-- name = {k: v for ..}, the name a local -/
theorem ps_setDcN {i : Nat} {y : Str} {py spos : Pos} {kx vx tg iter : Expr} {ifs : List Expr} {scope : Scope} {own : List (Str × Nat)} {pos : Pos} {wi : TI} {g : TG} {tt : TT} {tk tv : TE} (hc : X.calm = true) (hu : X.A.units + 64 < cLine) (hN : X.N.Nodup) (hy : X.N[i]? = some y) (hyl : X.env.scope.names.lookup y = some .local)
    (hsw : swapsWith (.DictComp kx vx [⟨tg, iter, ifs, 0⟩] scope pos) (some (.Name y py)) spos.line X.env = pure true) (hi : PI X tg iter wi) (ok : BlkOk X.N X.env.scope scope own)
    (hg : ∀ (s : Shared) (H : Hp) (C : Addr) (cl : List (Str × Addr)) (fp : List Addr), PG (X.blk s H scope (compEnvC scope cl C X.env) fp) tg g) (ht : ∀ (s : Shared) (H : Hp) (C : Addr) (cl : List (Str × Addr)) (fp : List Addr), PTs (X.blk s H scope (compEnvC scope cl C X.env) fp) ifs tt)
    (hk : ∀ (s : Shared) (H : Hp) (C : Addr) (cl : List (Str × Addr)) (fp : List Addr), PE (X.blk s H scope (compEnvC scope cl C X.env) fp) kx tk)
    (he : ∀ (s : Shared) (H : Hp) (C : Addr) (cl : List (Str × Addr)) (fp : List Addr), PE (X.blk s H scope (compEnvC scope cl C X.env) fp) vx tv) (hs : ∀ x, foldedSetIterable iter X.env x = pure x) :
    PS X (.Assign [.Name y py] (.DictComp kx vx [⟨tg, iter, ifs, 0⟩] scope pos) spos) (tAsg (tDcN X.prog X.w X.K wi g tt tk tv (own.map (·.2))) (gName i)) := by
  refine ⟨fun pins s σ H D I h => ?_⟩
  rw [exec_Assign_Name_used _ _ _ _ hsw]
  refine wpAny_bind (wpAny_standAt (wpAny_bind ?_))
  show wpAny _ X.A (do let _ ← comprehension (.DictComp kx vx [⟨tg, iter, ifs, 0⟩] scope pos) scope X.env (firstIterPos [⟨tg, iter, ifs, 0⟩] pos) newDict false (eval iter X.env) (some (assign (.Name y py) X.env))) _ _ s
  have h : tDcN X.prog X.w X.K wi g tt tk tv (own.map (·.2)) σ H (fun x H1 => gName i x σ H1 D.nx) := h
  refine wpAny_bind (thn (dcN_core (Qf := fun _ s' => SP X pins D .next s') hc hu hN I hi ok hg ht hk he hs h fun L C s' m H' I' q hn f => ?_) fun _ s' hq => wpAny_pure (wpAny_pure hq))
  show wpAny _ _ (assign (.Name y py) X.env (.ref L)) _ _ _
  refine wpAny_assign_Name (store_ok2 (v := V.ref L) I' hN hy (.inl hyl) rfl (fun s2 I2 ⟨a, sb, ha⟩ => ?_) (.inr hyl))
  obtain ⟨f0, f1, f2, f3, f4, f5⟩ := f
  have haC : C ≠ a := by
    rcases ha with z | z
    · rw [z]
      exact f1
    · exact fun e => f4 y a z e.symm
  exact ⟨m, hn.sameBut sb haC, fun h3 sb3 => ⟨_, H', I2.turned (t' := s2.toks) (fun b o hb e => (sb3.2 b hb).trans e) f0 f1 f3 f4 f5, q⟩⟩
/-! ### enumerate(t) of a tuple -/
def IteT (K : PySem.W.Frag) (a : Addr) : It :=
  ⟨fun i H => ∃ (xs : List V) (x : V), SqT K H a xs ∧ xs[i]? = some x, fun i H v H' => ∃ T x, v = .ref T ∧ H T = none ∧ H' = upd H T (.tup [.int (i : Nat), x]) ∧ ∀ xs, SqT K H a xs → xs[i]? = some x, fun i H => ∃ xs : List V, SqT K H a xs ∧ xs.length ≤ i⟩
end
end Wk
end

section
set_option Elab.async false
set_option linter.all false
set_option maxRecDepth 100000
set_option maxHeartbeats 4000000
namespace Wk
open PySem PySem.Spec PyProof.Rows L2
/-! ### data without lists -/
mutual
def noL : PyData → Bool
  | .none => true
  | .bool _ => true
  | .int _ => true
  | .str _ => true
  | .tuple xs => noLs xs
  | .list _ => false
  | .dict _ => false
def noLs : List PyData → Bool
  | [] => true
  | x :: xs => noL x && noLs xs
end
theorem noLs_iff : ∀ xs : List PyData, noLs xs = true ↔ ∀ x ∈ xs, noL x = true
  | [] => by simp [noLs]
  | x :: xs => by simp [noLs, noLs_iff xs]
theorem noLs_app {xs ys : List PyData} (h1 : noLs xs = true) (h2 : noLs ys = true) : noLs (xs ++ ys) = true := by
  rw [noLs_iff] at *
  intro x hx
  rcases List.mem_append.mp hx with h | h
  · exact h1 x h
  · exact h2 x h
theorem noLs_map {α : Type} (f : α → PyData) (l : List α) (h : ∀ x ∈ l, noL (f x) = true) : noLs (l.map f) = true := by
  rw [noLs_iff]
  intro x hx
  obtain ⟨y, hy, rfl⟩ := List.mem_map.mp hx
  exact h y hy
theorem noLs_ints (l : List Int) : noLs (l.map PyData.int) = true := noLs_map _ l fun _ _ => rfl
/-- no dict (the feed's mark) -/
def noF : PyData → Bool
  | .dict _ => false
  | _ => true
theorem noF_noL {d : PyData} (h : noL d = true) : noF d = true := by
  cases d <;> first | rfl | (simp [noL] at h)
/-! ### what a value stands for: tuples known to their records -/
mutual
inductive Bp (H : Hp) : V → PyData → Prop
  | non : Bp H .non .none
  | bl (b : Bool) : Bp H (.bl b) (.bool b)
  | int (i : Int) : Bp H (.int i) (.int i)
  | str (x : Str) : Bp H (.str x) (.str x)
  | lst {a : Addr} {xs : List V} {ds : List PyData} : H a = some (.lst xs) → BpAll H xs ds → Bp H (.ref a) (.list ds)
  | tup {a : Addr} {o : Obj} {xs : List V} {ds : List PyData} : H a = some (.frz o (.tup xs)) → o.dict = none → BpAll H xs ds → Bp H (.ref a) (.tuple ds)
inductive BpAll (H : Hp) : List V → List PyData → Prop
  | nil : BpAll H [] []
  | cons {v : V} {vs : List V} {d : PyData} {ds : List PyData} : Bp H v d → BpAll H vs ds → BpAll H (v :: vs) (d :: ds)
end
section
variable {K : PySem.W.Frag} {H H' : Hp}
mutual
theorem Bp.dp : ∀ {d : PyData} {v : V}, Bp H v d → Dp K H v d
  | .none, _, h => by cases h; exact .non
  | .bool _, _, h => by cases h; exact .bl _
  | .int _, _, h => by cases h; exact .int _
  | .str _, _, h => by cases h; exact .str _
  | .list ds, _, h => by cases h with | lst h1 h2 => exact .lst (.inl (.inl h1)) (BpAll.dp h2)
  | .tuple ds, _, h => by cases h with | tup h1 _ h2 => exact .tup (.inl (.inr ⟨_, h1⟩)) (BpAll.dp h2)
  | .dict _, _, h => by cases h
theorem BpAll.dp : ∀ {ds : List PyData} {vs : List V}, BpAll H vs ds → DpAll K H vs ds
  | [], _, h => by cases h; exact .nil
  | d :: ds, _, h => by cases h with | cons h1 h2 => exact .cons (Bp.dp h1) (BpAll.dp h2)
end
mutual
theorem bp_keep (hl : ∀ a xs, H a = some (.lst xs) → H' a = some (.lst xs)) (ht : ∀ a o xs, H a = some (.frz o (.tup xs)) → H' a = some (.frz o (.tup xs))) : ∀ {d : PyData} {v : V}, Bp H v d → Bp H' v d
  | .none, _, h => by cases h; exact .non
  | .bool _, _, h => by cases h; exact .bl _
  | .int _, _, h => by cases h; exact .int _
  | .str _, _, h => by cases h; exact .str _
  | .list ds, _, h => by cases h with | lst h1 h2 => exact .lst (hl _ _ h1) (bps_keep hl ht h2)
  | .tuple ds, _, h => by cases h with | tup h1 hd h2 => exact .tup (ht _ _ _ h1) hd (bps_keep hl ht h2)
  | .dict _, _, h => by cases h
theorem bps_keep (hl : ∀ a xs, H a = some (.lst xs) → H' a = some (.lst xs)) (ht : ∀ a o xs, H a = some (.frz o (.tup xs)) → H' a = some (.frz o (.tup xs))) : ∀ {ds : List PyData} {vs : List V}, BpAll H vs ds → BpAll H' vs ds
  | [], _, h => by cases h; exact .nil
  | d :: ds, _, h => by cases h with | cons h1 h2 => exact .cons (bp_keep hl ht h1) (bps_keep hl ht h2)
end
mutual
theorem bp_tup (ht : ∀ a o xs, H a = some (.frz o (.tup xs)) → H' a = some (.frz o (.tup xs))) : ∀ {d : PyData} {v : V}, noL d = true → Bp H v d → Bp H' v d
  | .none, _, _, h => by cases h; exact .non
  | .bool _, _, _, h => by cases h; exact .bl _
  | .int _, _, _, h => by cases h; exact .int _
  | .str _, _, _, h => by cases h; exact .str _
  | .list ds, _, n, h => by simp [noL] at n
  | .tuple ds, _, n, h => by
    simp only [noL] at n
    cases h with | tup h1 hd h2 => exact .tup (ht _ _ _ h1) hd (bps_tup ht n h2)
  | .dict _, _, _, h => by cases h
theorem bps_tup (ht : ∀ a o xs, H a = some (.frz o (.tup xs)) → H' a = some (.frz o (.tup xs))) : ∀ {ds : List PyData} {vs : List V}, noLs ds = true → BpAll H vs ds → BpAll H' vs ds
  | [], _, _, h => by cases h; exact .nil
  | d :: ds, _, n, h => by
    simp only [noLs, Bool.and_eq_true] at n
    cases h with | cons h1 h2 => exact .cons (bp_tup ht n.1 h1) (bps_tup ht n.2 h2)
end
theorem BpAll.len : ∀ {vs : List V} {ds : List PyData}, BpAll H vs ds → vs.length = ds.length
  | _, _, .nil => rfl
  | _, _, .cons _ t => by rw [List.length_cons, List.length_cons, BpAll.len t]
theorem BpAll.at : ∀ {vs : List V} {ds : List PyData}, BpAll H vs ds → ∀ {i : Nat} {d : PyData}, ds[i]? = some d → ∃ v, vs[i]? = some v ∧ Bp H v d
  | _, _, .nil, i, d, h => by simp at h
  | _, _, .cons a t, 0, d, h => by
    simp only [List.getElem?_cons_zero, Option.some.injEq] at h
    subst h
    exact ⟨_, rfl, a⟩
  | _, _, .cons a t, i + 1, d, h => by
    obtain ⟨v, h1, h2⟩ := BpAll.at t (i := i) (d := d) (by simpa using h)
    exact ⟨v, by simpa using h1, h2⟩
theorem BpAll.at' : ∀ {vs : List V} {ds : List PyData}, BpAll H vs ds → ∀ {i : Nat} {v : V}, vs[i]? = some v → ∃ d, ds[i]? = some d ∧ Bp H v d
  | _, _, .nil, i, d, h => by simp at h
  | _, _, .cons a t, 0, d, h => by
    simp only [List.getElem?_cons_zero, Option.some.injEq] at h
    subst h
    exact ⟨_, rfl, a⟩
  | _, _, .cons a t, i + 1, d, h => by
    obtain ⟨v, h1, h2⟩ := BpAll.at' t (i := i) (v := d) (by simpa using h)
    exact ⟨v, by simpa using h1, h2⟩
theorem BpAll.app : ∀ {vs ws : List V} {ds es : List PyData}, BpAll H vs ds → BpAll H ws es → BpAll H (vs ++ ws) (ds ++ es)
  | _, _, _, _, .nil, h => h
  | _, _, _, _, .cons a t, h => .cons a (BpAll.app t h)
theorem BpAll.ints : ∀ (ns : List Int), BpAll H (ns.map V.int) (ns.map PyData.int)
  | [] => .nil
  | n :: ns => .cons (.int n) (BpAll.ints ns)
theorem BpAll.toInts : ∀ {vs : List V} {ns : List Int}, BpAll H vs (ns.map PyData.int) → vs = ns.map V.int
  | _, [], h => by
    have h' : BpAll H _ [] := h
    cases h'
    rfl
  | _, n :: ns, h => by
    have h' : BpAll H _ (.int n :: ns.map PyData.int) := h
    cases h' with
    | cons a t =>
      cases a
      rw [BpAll.toInts t]
      rfl
theorem BpAll.toBools : ∀ {vs : List V} {ns : List Bool}, BpAll H vs (ns.map PyData.bool) → vs = ns.map V.bl
  | _, [], h => by
    have h' : BpAll H _ [] := h
    cases h'
    rfl
  | _, n :: ns, h => by
    have h' : BpAll H _ (.bool n :: ns.map PyData.bool) := h
    cases h' with
    | cons a t =>
      cases a
      rw [BpAll.toBools t]
      rfl
theorem BpAll.drop : ∀ {vs : List V} {ds : List PyData}, BpAll H vs ds → BpAll H vs.dropLast ds.dropLast
  | _, _, .nil => .nil
  | _, _, .cons a .nil => .nil
  | _, _, .cons a (.cons b t) => .cons a (BpAll.drop (.cons b t))
theorem BpAll.erase : ∀ {vs : List V} {ds : List PyData} (i : Nat), BpAll H vs ds → BpAll H (vs.eraseIdx i) (ds.eraseIdx i)
  | _, _, _, .nil => .nil
  | _, _, 0, .cons _ t => t
  | _, _, i + 1, .cons a t => .cons a (BpAll.erase i t)
end
/-! ### the feed: a dict that others turn -/
def feedO (c : Addr) (a b t : Int) : HO := .dK [(Sum.inr "cells", V.ref c), (Sum.inr "next", V.int a), (Sum.inr "rest", V.int b), (Sum.inr "turn", V.int t)]
def Feed (H : Hp) (o : HO) : Prop := ∃ (c : Addr) (a b t : Int) (ns : List Int), o = feedO c a b t ∧ H c = some (.lst (ns.map V.int)) ∧ ns.length ≤ 63
/-- all that was tracked is as it was, but for the feeds' numbers -/
def Sm (H H' : Hp) : Prop := ∀ a o, H a = some o → H' a = some o ∨ ∃ c x y t x' y' t', o = feedO c x y t ∧ H' a = some (feedO c x' y' t')
theorem Sm.refl (H : Hp) : Sm H H := fun _ _ h => .inl h
theorem Sm.of {H H' : Hp} (e : Same H H') : Sm H H' := fun a o h => .inl (e a o h)
theorem Sm.ndk {H H' : Hp} (e : Sm H H') {a : Addr} {o : HO} (h : H a = some o) (hn : ∀ kvs, o ≠ .dK kvs) : H' a = some o := by
  rcases e a o h with h | ⟨c, x, y, t, _, _, _, rfl, _⟩
  · exact h
  · exact absurd rfl (hn _)
theorem Sm.lst {H H' : Hp} (e : Sm H H') {a : Addr} {xs : List V} (h : H a = some (.lst xs)) : H' a = some (.lst xs) := e.ndk h fun _ z => nomatch z
theorem Sm.tup {H H' : Hp} (e : Sm H H') {a : Addr} {o : Obj} {u : HO} (h : H a = some (.frz o u)) : H' a = some (.frz o u) := e.ndk h fun _ z => nomatch z
theorem Sm.trans {H H1 H2 : Hp} (e : Sm H H1) (e2 : Sm H1 H2) : Sm H H2 := fun a o h => by
  rcases e a o h with h1 | ⟨c, x, y, t, x', y', t', rfl, h1⟩
  · exact e2 a o h1
  · rcases e2 a _ h1 with h2 | ⟨c2, _, _, _, x2, y2, t2, eq, h2⟩
    · exact .inr ⟨c, x, y, t, _, _, _, rfl, h2⟩
    · have : c2 = c := by
        unfold feedO at eq
        simp only [HO.dK.injEq, List.cons.injEq, Prod.mk.injEq, V.ref.injEq, true_and] at eq
        exact eq.1.symm
      subst this
      exact .inr ⟨c2, x, y, t, _, _, _, rfl, h2⟩
theorem Sm.new {H H' : Hp} {p : Addr} {o : HO} (e : Sm H H') (h : H p = none) : Sm H (upd H' p o) := fun a u ha => by
  rw [upd_ne (ne_of_none ha h)]
  exact e a u ha
theorem Sm.free {H H' : Hp} (e : Sm H H') {p : Addr} (h : H' p = none) : H p = none := by
  cases q : H p with
  | none => rfl
  | some o =>
    rcases e p o q with z | ⟨_, _, _, _, _, _, _, _, z⟩
    · rw [z] at h
      cases h
    · rw [z] at h
      cases h
theorem Feed.sm {H H' : Hp} (e : Sm H H') {a : Addr} {o : HO} (h : H a = some o) (f : Feed H o) : ∃ o', H' a = some o' ∧ Feed H' o' := by
  obtain ⟨c, x, y, t, ns, rfl, e2, e3⟩ := f
  rcases e a _ h with h | ⟨c2, _, _, _, x2, y2, t2, eq, h2⟩
  · exact ⟨_, h, c, x, y, t, ns, rfl, e.lst e2, e3⟩
  · have : c2 = c := by
      unfold feedO at eq
      simp only [HO.dK.injEq, List.cons.injEq, Prod.mk.injEq, V.ref.injEq, true_and] at eq
      exact eq.1.symm
    subst this
    exact ⟨_, h2, c2, x2, y2, t2, ns, rfl, e.lst e2, e3⟩
theorem Bp.sm {H H' : Hp} (e : Sm H H') {v : V} {d : PyData} (h : Bp H v d) : Bp H' v d := bp_keep (fun _ _ h => e.lst h) (fun _ _ _ h => e.tup h) h
theorem BpAll.sm {H H' : Hp} (e : Sm H H') {v : List V} {d : List PyData} (h : BpAll H v d) : BpAll H' v d := bps_keep (fun _ _ h => e.lst h) (fun _ _ _ h => e.tup h) h
/-- data, or the feed -/
def Rp (H : Hp) (v : V) (d : PyData) : Prop := Bp H v d ∨ (d = .dict [] ∧ ∃ p o, v = .ref p ∧ H p = some o ∧ Feed H o)
theorem Rp.sm {H H' : Hp} (e : Sm H H') {v : V} {d : PyData} (h : Rp H v d) : Rp H' v d := by
  rcases h with h | ⟨rfl, p, o, rfl, h, f⟩
  · exact .inl (h.sm e)
  · obtain ⟨o', h', f'⟩ := Feed.sm e h f
    exact .inr ⟨rfl, p, o', rfl, h', f'⟩
theorem Rp.bp {H : Hp} {v : V} {d : PyData} (h : Rp H v d) (n : noF d = true) : Bp H v d := by
  rcases h with h | ⟨rfl, _⟩
  · exact h
  · cases n
theorem Rp.int {H : Hp} {v : V} {i : Int} (h : Rp H v (.int i)) : v = .int i := by
  have := h.bp rfl
  cases this
  rfl
theorem Rp.bool {H : Hp} {v : V} {i : Bool} (h : Rp H v (.bool i)) : v = .bl i := by
  have := h.bp rfl
  cases this
  rfl
/-! ### slots -/
inductive DV where
  | d (x : PyData)
  /-- one's own list at p; one's own dict of tuple keys; a dict of int keys -/
  | l (p : Addr) (xs : List PyData)
  | n (p : Addr) (kvs : List (PyData × PyData))
  | s (p : Addr) (kvs : List (Int × Int))
abbrev DSt := List (Option DV)
def DV.ad : DV → Option Addr
  | .d _ => none
  | .l p _ => some p
  | .n p _ => some p
  | .s p _ => some p
section
variable (P : Program) (w : World) (H0 H : Hp)
def NRep (p : Addr) (kvs : List (PyData × PyData)) : Prop := ∃ L : NL, H p = some (DictNO P w p L) ∧ (∀ x ∈ L, Bp H (.ref x.2.1) x.1 ∧ TupD x.1) ∧ L.map (·.1) = kvs.map (·.1) ∧ BpAll H (L.map (·.2.2)) (kvs.map (·.2)) ∧ noLs (kvs.map (·.1)) = true ∧ noLs (kvs.map (·.2)) = true
def SlotOk (u : Option V) : DV → Prop
  | .d d => ∃ v, u = some v ∧ Rp H v d ∧ (noL d = true ∨ Rp H0 v d)
  | .l p ds => u = some (.ref p) ∧ H0 p = none ∧ ∃ xs, H p = some (.lst xs) ∧ BpAll H xs ds ∧ noLs ds = true
  | .n p kvs => u = some (.ref p) ∧ H0 p = none ∧ NRep P w H p kvs
  | .s p kvs => u = some (.ref p) ∧ H0 p = none ∧ H p = some (.dK (kvs.map fun q => (Sum.inl q.1, V.int q.2)))
structure Rep (σ : L2.St) (τ : DSt) : Prop where
  sm : Sm H0 H
  slot : ∀ (i : Nat) (x : DV), τ[i]? = some (some x) → ∃ u, σ[i]? = some u ∧ SlotOk P w H0 H u x
  inj : ∀ (i j : Nat) (x y : DV) (p : Addr), τ[i]? = some (some x) → τ[j]? = some (some y) → x.ad = some p → y.ad = some p → i = j
  len : σ.length = τ.length
end
def own (τ : DSt) (a : Addr) : Prop := ∃ (i : Nat) (x : DV), τ[i]? = some (some x) ∧ x.ad = some a
/-- lists and tuples of others stand; what is owned now was owned before or is new -/
def Fr (τ : DSt) (H : Hp) (τ' : DSt) (H' : Hp) : Prop := ∀ a o, H a = some o → (∀ kvs, o ≠ .dK kvs) → ¬ own τ a → H' a = some o ∧ ¬ own τ' a
theorem Fr.trans {τ τ1 τ2 : DSt} {H H1 H2 : Hp} (e : Fr τ H τ1 H1) (e2 : Fr τ1 H1 τ2 H2) : Fr τ H τ2 H2 := fun a o h n m => by
  obtain ⟨h1, m1⟩ := e a o h n m
  exact e2 a o h1 n m1
theorem Fr.refl (τ : DSt) (H : Hp) : Fr τ H τ H := fun _ _ h _ m => ⟨h, m⟩
theorem Fr.sm {τ : DSt} {H H' : Hp} (e : Sm H H') : Fr τ H τ H' := fun _ _ h n m => ⟨e.ndk h n, m⟩
theorem dict_no_sp {P : Program} {w : World} {p : Addr} {L : NL} : ∀ kvs, DictNO P w p L ≠ .dK kvs := fun _ z => nomatch z
section
variable {P : Program} {w : World} {H0 H H' : Hp} {σ : L2.St} {τ : DSt}
theorem NRep.sm (e : Sm H H') {p : Addr} {kvs : List (PyData × PyData)} (h : NRep P w H p kvs) : NRep P w H' p kvs := by
  obtain ⟨L, h1, h2, h3, h4, h5, h6⟩ := h
  exact ⟨L, e.ndk h1 dict_no_sp, fun x hx => ⟨(h2 x hx).1.sm e, (h2 x hx).2⟩, h3, h4.sm e, h5, h6⟩
theorem SlotOk.sm (e : Sm H H') {u : Option V} {x : DV} (h : SlotOk P w H0 H u x) : SlotOk P w H0 H' u x := by
  cases x with
  | d d =>
    obtain ⟨v, h1, h2, h3⟩ := h
    exact ⟨v, h1, h2.sm e, h3⟩
  | l p ds =>
    obtain ⟨h1, h2, xs, h3, h4, h5⟩ := h
    exact ⟨h1, h2, xs, e.lst h3, h4.sm e, h5⟩
  | n p kvs =>
    obtain ⟨h1, h2, h3⟩ := h
    exact ⟨h1, h2, h3.sm e⟩
  | s p kvs =>
    obtain ⟨h1, h2, h3⟩ := h
    refine ⟨h1, h2, ?_⟩
    rcases e p _ h3 with z | ⟨c, x, y, t, _, _, _, eq, _⟩
    · exact z
    · exfalso
      unfold feedO at eq
      simp only [HO.dK.injEq] at eq
      cases kvs with
      | nil => simp at eq
      | cons q r => simp at eq
theorem Rep.to (R : Rep P w H0 H σ τ) (e : Sm H H') : Rep P w H0 H' σ τ :=
  ⟨R.sm.trans e, fun i x hx => let ⟨u, h1, h2⟩ := R.slot i x hx; ⟨u, h1, h2.sm e⟩, R.inj, R.len⟩
/-- an owned object is what it is -/
theorem Rep.own_kind (R : Rep P w H0 H σ τ) {a : Addr} (h : own τ a) : H0 a = none ∧ ∃ o, H a = some o ∧ ∀ ob u, o ≠ .frz ob u := by
  obtain ⟨i, x, hx, hp⟩ := h
  obtain ⟨u, _, S⟩ := R.slot i x hx
  cases x with
  | d d => cases hp
  | l p ds =>
    cases hp
    obtain ⟨_, h2, xs, h3, _⟩ := S
    exact ⟨h2, _, h3, fun _ _ z => nomatch z⟩
  | n p kvs =>
    cases hp
    obtain ⟨_, h2, L, h3, _⟩ := S
    exact ⟨h2, _, h3, fun _ _ z => nomatch z⟩
  | s p kvs =>
    cases hp
    obtain ⟨_, h2, h3⟩ := S
    exact ⟨h2, _, h3, fun _ _ z => nomatch z⟩
theorem Rep.tup_free (R : Rep P w H0 H σ τ) {a : Addr} {o : Obj} {u : HO} (h : H a = some (.frz o u)) : ¬ own τ a := fun z => by
  obtain ⟨_, o', h1, h2⟩ := R.own_kind z
  rw [h] at h1
  cases h1
  exact h2 _ _ rfl
theorem Rep.old_free (R : Rep P w H0 H σ τ) {a : Addr} {o : HO} (h : H0 a = some o) : ¬ own τ a := fun z => by
  obtain ⟨h1, _⟩ := R.own_kind z
  rw [h] at h1
  cases h1
theorem Rep.new_free (R : Rep P w H0 H σ τ) {a : Addr} (h : H a = none) : ¬ own τ a := fun z => by
  obtain ⟨_, o, h1, _⟩ := R.own_kind z
  rw [h] at h1
  cases h1
theorem bp_fr {τ' : DSt} (R : Rep P w H0 H σ τ) (f : Fr τ H τ' H') {v : V} {d : PyData} (n : noL d = true) (h : Bp H v d) : Bp H' v d :=
  bp_tup (fun a o xs z => (f a _ z (fun _ q => nomatch q) (R.tup_free z)).1) n h
theorem bps_fr {τ' : DSt} (R : Rep P w H0 H σ τ) (f : Fr τ H τ' H') {v : List V} {d : List PyData} (n : noLs d = true) (h : BpAll H v d) : BpAll H' v d :=
  bps_tup (fun a o xs z => (f a _ z (fun _ q => nomatch q) (R.tup_free z)).1) n h
/-- a slot is stored: others stay -/
theorem Rep.set (R : Rep P w H0 H σ τ) {i : Nat} {v : V} {x : DV} (hs : SlotOk P w H0 H (some v) x) (hn : ∀ p, x.ad = some p → ∀ j y, j ≠ i → τ[j]? = some (some y) → y.ad ≠ some p) : Rep P w H0 H (σ.set i (some v)) (τ.set i (some x)) := by
  refine ⟨R.sm, fun j y hy => ?_, fun j k y z p hj hk ej ek => ?_, by rw [List.length_set, List.length_set, R.len]⟩
  · by_cases e : i = j
    · subst e
      by_cases hl : i < τ.length
      · rw [List.getElem?_set_self hl] at hy
        cases hy
        exact ⟨some v, List.getElem?_set_self (by rw [R.len]; exact hl), hs⟩
      · rw [List.getElem?_eq_none (by simpa using hl)] at hy
        cases hy
    · rw [List.getElem?_set_ne e] at hy
      obtain ⟨u, h1, h2⟩ := R.slot j y hy
      exact ⟨u, by rw [List.getElem?_set_ne e]; exact h1, h2⟩
  · by_cases e : i = j
    · subst e
      have hl : i < τ.length := by
        by_cases hl : i < τ.length
        · exact hl
        · rw [List.getElem?_eq_none (by simpa using hl)] at hj
          cases hj
      rw [List.getElem?_set_self hl] at hj
      cases hj
      by_cases e2 : i = k
      · exact e2
      · rw [List.getElem?_set_ne e2] at hk
        exact absurd ek (hn p ej k z (Ne.symm e2) hk)
    · rw [List.getElem?_set_ne e] at hj
      by_cases e2 : i = k
      · subst e2
        have hl : i < τ.length := by
          by_cases hl : i < τ.length
          · exact hl
          · rw [List.getElem?_eq_none (by simpa using hl)] at hk
            cases hk
        rw [List.getElem?_set_self hl] at hk
        cases hk
        exact absurd ej (hn p ek j y (fun q => e q.symm) hj)
      · rw [List.getElem?_set_ne e2] at hk
        exact R.inj j k y z p hj hk ej ek
theorem Rep.setD (R : Rep P w H0 H σ τ) {i : Nat} {v : V} {d : PyData} (h : Rp H v d) (n : noL d = true) : Rep P w H0 H (σ.set i (some v)) (τ.set i (some (.d d))) :=
  R.set ⟨v, rfl, h, .inl n⟩ fun p e => nomatch e
theorem own_set {i : Nat} {x : DV} {a : Addr} (h : own (τ.set i (some x)) a) : x.ad = some a ∨ own τ a := by
  obtain ⟨j, y, hy, e⟩ := h
  by_cases q : i = j
  · subst q
    by_cases hl : i < τ.length
    · rw [List.getElem?_set_self hl] at hy
      cases hy
      exact .inl e
    · rw [List.getElem?_eq_none (by simpa using hl)] at hy
      cases hy
  · rw [List.getElem?_set_ne q] at hy
    exact .inr ⟨j, y, hy, e⟩
theorem Fr.setD {i : Nat} {d : PyData} (e : Sm H H') : Fr τ H (τ.set i (some (.d d))) H' := fun a o h n m =>
  ⟨e.ndk h n, fun z => (own_set z).elim (fun q => nomatch q) m⟩
/-- a new list into a slot -/
theorem Rep.setL (R : Rep P w H0 H σ τ) {i : Nat} {p : Addr} {xs : List V} {ds : List PyData} (e : Sm H H') (hp : H p = none) (h : H' p = some (.lst xs)) (hb : BpAll H' xs ds) (n : noLs ds = true) :
    Rep P w H0 H' (σ.set i (some (.ref p))) (τ.set i (some (.l p ds))) :=
  (R.to e).set ⟨rfl, R.sm.free hp, xs, h, hb, n⟩ fun q eq j y _ hy ey => by
    cases eq
    exact R.new_free hp ⟨j, y, hy, ey⟩
theorem Fr.setN {i : Nat} {x : DV} {p : Addr} (e : Sm H H') (hp : H p = none) (hx : x.ad = some p) : Fr τ H (τ.set i (some x)) H' := fun a o h n m =>
  ⟨e.ndk h n, fun z => (own_set z).elim (fun q => by
    rw [hx] at q
    cases q
    rw [hp] at h
    cases h) m⟩
/-- an owned object is written -/
theorem SlotOk.other {p : Addr} {o' : HO} {u : Option V} {x : DV} (hp : H0 p = none) (hk : ∃ o, H p = some o ∧ ∀ ob u, o ≠ .frz ob u) (hx : x.ad ≠ some p) (h : SlotOk P w H0 H u x) (hsm : Sm H0 H) : SlotOk P w H0 (upd H p o') u x := by
  have ht : ∀ a o xs, H a = some (.frz o (.tup xs)) → upd H p o' a = some (.frz o (.tup xs)) := fun a o xs z => by
    rw [upd_ne (fun q => by
      subst q
      obtain ⟨o1, h1, h2⟩ := hk
      rw [z] at h1
      cases h1
      exact h2 _ _ rfl)]
    exact z
  cases x with
  | d d =>
    obtain ⟨v, h1, h2, h3⟩ := h
    refine ⟨v, h1, ?_, h3⟩
    rcases h3 with n | h3
    · exact .inl (bp_tup ht n (h2.bp (noF_noL n)))
    · exact h3.sm (hsm.new hp)
  | l q ds =>
    obtain ⟨h1, h2, xs, h3, h4, h5⟩ := h
    have ne : q ≠ p := fun z => hx (by rw [z]; rfl)
    exact ⟨h1, h2, xs, by rw [upd_ne ne]; exact h3, bps_tup ht h5 h4, h5⟩
  | n q kvs =>
    obtain ⟨h1, h2, L, h3, h4, h5, h6, h7, h8⟩ := h
    have ne : q ≠ p := fun z => hx (by rw [z]; rfl)
    refine ⟨h1, h2, L, by rw [upd_ne ne]; exact h3, fun x hm => ⟨bp_tup ht ?_ (h4 x hm).1, (h4 x hm).2⟩, h5, bps_tup ht h8 h6, h7, h8⟩
    rw [noLs_iff] at h7
    exact h7 _ (by rw [← h5]; exact List.mem_map.mpr ⟨x, hm, rfl⟩)
  | s q kvs =>
    obtain ⟨h1, h2, h3⟩ := h
    have ne : q ≠ p := fun z => hx (by rw [z]; rfl)
    exact ⟨h1, h2, by rw [upd_ne ne]; exact h3⟩
theorem Rep.write (R : Rep P w H0 H σ τ) {i : Nat} {p : Addr} {x y : DV} {o' : HO} (hx : τ[i]? = some (some x)) (px : x.ad = some p) (py : y.ad = some p) (hs : SlotOk P w H0 (upd H p o') (some (.ref p)) y) :
    Rep P w H0 (upd H p o') σ (τ.set i (some y)) := by
  have hk := R.own_kind ⟨i, x, hx, px⟩
  have hl : i < τ.length := (List.getElem?_eq_some_iff.mp hx).1
  refine ⟨R.sm.new hk.1, fun j z hz => ?_, fun j k a b q hj hk ej ek => ?_, by rw [List.length_set, R.len]⟩
  · by_cases e : i = j
    · subst e
      rw [List.getElem?_set_self hl] at hz
      cases hz
      obtain ⟨u, h1, h2⟩ := R.slot i x hx
      have : u = some (.ref p) := by
        cases x with
        | d d => cases px
        | l q ds => cases px; exact h2.1
        | n q ds => cases px; exact h2.1
        | s q ds => cases px; exact h2.1
      subst this
      exact ⟨_, h1, hs⟩
    · rw [List.getElem?_set_ne e] at hz
      obtain ⟨u, h1, h2⟩ := R.slot j z hz
      exact ⟨u, h1, h2.other hk.1 hk.2 (fun q => e (R.inj i j x z p hx hz px q)) R.sm⟩
  · by_cases e : i = j
    · subst e
      rw [List.getElem?_set_self hl] at hj
      cases hj
      by_cases e2 : i = k
      · exact e2
      · rw [List.getElem?_set_ne e2] at hk
        rw [py] at ej
        cases ej
        exact R.inj i k x b p hx hk px ek
    · rw [List.getElem?_set_ne e] at hj
      by_cases e2 : i = k
      · subst e2
        rw [List.getElem?_set_self hl] at hk
        cases hk
        rw [py] at ek
        cases ek
        exact R.inj j i a x p hj hx ej px
      · rw [List.getElem?_set_ne e2] at hk
        exact R.inj j k a b q hj hk ej ek
theorem Fr.write {i : Nat} {p : Addr} {x y : DV} {o' : HO} (hx : τ[i]? = some (some x)) (px : x.ad = some p) (py : y.ad = some p) : Fr τ H (τ.set i (some y)) (upd H p o') := fun a o h n m => by
  have ne : a ≠ p := fun z => m ⟨i, x, hx, by rw [px, z]⟩
  refine ⟨by rw [upd_ne ne]; exact h, fun z => (own_set z).elim (fun q => ?_) m⟩
  rw [py] at q
  cases q
  exact ne rfl
/-! ### names forgotten -/
def wipeD (τ : DSt) : List Nat → DSt
  | [] => τ
  | v :: vs => (wipeD τ vs).set v none
theorem Rep.none (R : Rep P w H0 H σ τ) (i : Nat) : Rep P w H0 H (σ.set i none) (τ.set i none) := by
  refine ⟨R.sm, fun j y hy => ?_, fun j k y z p hj hk ej ek => ?_, by rw [List.length_set, List.length_set, R.len]⟩
  · by_cases e : i = j
    · subst e
      by_cases hl : i < τ.length
      · rw [List.getElem?_set_self hl] at hy
        cases hy
      · rw [List.getElem?_eq_none (by simpa using hl)] at hy
        cases hy
    · rw [List.getElem?_set_ne e] at hy
      obtain ⟨u, h1, h2⟩ := R.slot j y hy
      exact ⟨u, by rw [List.getElem?_set_ne e]; exact h1, h2⟩
  · have out : ∀ {j : Nat} {y : DV}, (τ.set i Option.none)[j]? = some (some y) → τ[j]? = some (some y) := fun {j y} h => by
      by_cases e : i = j
      · subst e
        by_cases hl : i < τ.length
        · rw [List.getElem?_set_self hl] at h
          cases h
        · rw [List.getElem?_eq_none (by simpa using hl)] at h
          cases h
      · rw [List.getElem?_set_ne e] at h
        exact h
    exact R.inj j k y z p (out hj) (out hk) ej ek
theorem Rep.wipe (R : Rep P w H0 H σ τ) : ∀ vs : List Nat, Rep P w H0 H (wipe σ vs) (wipeD τ vs)
  | [] => R
  | v :: vs => (Rep.wipe R vs).none v
end
end Wk
end

section
set_option Elab.async false
set_option linter.all false
set_option maxRecDepth 100000
set_option maxHeartbeats 4000000
namespace Wk
open PySem PySem.Spec PyProof.Rows L2
/-! ### what parts of a program do on data -/
abbrev DTE := DSt → (PyData → Prop) → Prop
abbrev DTL := DSt → (List PyData → Prop) → Prop
abbrev DTT := DSt → (Bool → Prop) → Prop
abbrev DTA := DSt → (List PyData → Prop) → Prop
abbrev DG := PyData → DSt → (DSt → Prop) → Prop
abbrev DGs := List PyData → DSt → (DSt → Prop) → Prop
structure DE where
  nx : DSt → Prop
  rt : PyData → Prop
  rl : List PyData → Prop := fun _ => False
  bk : DSt → Prop := fun _ => False
  ct : DSt → Prop := fun _ => False
abbrev DS := DE → DSt → Prop
abbrev RpAll (H : Hp) : List V → List PyData → Prop := Paired (Rp H)
theorem RpAll.sm {H H' : Hp} (e : Sm H H') : ∀ {vs : List V} {ds : List PyData}, RpAll H vs ds → RpAll H' vs ds
  | _, _, .nil => .nil
  | _, _, .cons a t => .cons (a.sm e) (RpAll.sm e t)
theorem RpAll.bp {H : Hp} : ∀ {vs : List V} {ds : List PyData}, RpAll H vs ds → ds.all noF = true → BpAll H vs ds
  | _, _, .nil, _ => .nil
  | _, _, .cons a t, h => by
    rw [List.all_cons, Bool.and_eq_true] at h
    exact .cons (a.bp h.1) (RpAll.bp t h.2)
theorem RpAll.of {H : Hp} : ∀ {vs : List V} {ds : List PyData}, BpAll H vs ds → RpAll H vs ds
  | _, _, .nil => .nil
  | _, _, .cons a t => .cons (.inl a) (RpAll.of t)
theorem RpAll.app {H : Hp} : ∀ {vs ws : List V} {ds es : List PyData}, RpAll H vs ds → RpAll H ws es → RpAll H (vs ++ ws) (ds ++ es)
  | _, _, _, _, .nil, h => h
  | _, _, _, _, .cons a t, h => .cons a (RpAll.app t h)
theorem RpAll.len {H : Hp} : ∀ {vs : List V} {ds : List PyData}, RpAll H vs ds → vs.length = ds.length
  | _, _, .nil => rfl
  | _, _, .cons _ t => by rw [List.length_cons, List.length_cons, RpAll.len t]
def seqOf : PyData → Option (List PyData)
  | .list xs => some xs
  | .tuple xs => some xs
  | _ => none
theorem Rp.seq {K : PySem.W.Frag} {H : Hp} {v : V} {d : PyData} {xs : List PyData} (h : Rp H v d) (e : seqOf d = some xs) : ∃ p vs, v = .ref p ∧ ((d = .list xs ∧ H p = some (.lst vs) ∧ SqL K H p vs) ∨ (d = .tuple xs ∧ (∃ o, H p = some (.frz o (.tup vs)) ∧ o.dict = none) ∧ SqT K H p vs)) ∧ BpAll H vs xs := by
  cases d with
  | list ys =>
    cases e
    cases h.bp rfl with
    | lst h1 h2 => exact ⟨_, _, rfl, .inl ⟨rfl, h1, .inl (.inl h1)⟩, h2⟩
  | tuple ys =>
    cases e
    cases h.bp rfl with
    | tup h1 h3 h2 => exact ⟨_, _, rfl, .inr ⟨rfl, ⟨_, h1, h3⟩, .inl (.inr ⟨_, h1⟩)⟩, h2⟩
  | _ => cases e
section
variable (P : Program) (w : World)
structure SE (te : TE) (dt : DTE) : Prop where
  run : ∀ {H0 H : Hp} {σ : L2.St} {τ : DSt}, Rep P w H0 H σ τ → ∀ {F : PyData → Prop}, dt τ F → ∀ {Q : VK}, (∀ v H' d, Sm H H' → Rp H' v d → F d → Q v H') → te σ H Q
structure SL (te : TE) (dt : DTL) : Prop where
  run : ∀ {H0 H : Hp} {σ : L2.St} {τ : DSt}, Rep P w H0 H σ τ → ∀ {F : List PyData → Prop}, dt τ F → ∀ {Q : VK}, (∀ p H' xs ds, H p = none → Sm H H' → H' p = some (.lst xs) → BpAll H' xs ds → F ds → Q (.ref p) H') → te σ H Q
structure ST (tt : TT) (dt : DTT) : Prop where
  run : ∀ {H0 H : Hp} {σ : L2.St} {τ : DSt}, Rep P w H0 H σ τ → ∀ {F : Bool → Prop}, dt τ F → ∀ {Q : Bool → Hp → Prop}, (∀ b H', Sm H H' → F b → Q b H') → tt σ H Q
structure SA (ta : TA) (dt : DTA) : Prop where
  run : ∀ {H0 H : Hp} {σ : L2.St} {τ : DSt}, Rep P w H0 H σ τ → ∀ {F : List PyData → Prop}, dt τ F → ∀ {Q : List V → Hp → Prop}, (∀ vs H' ds, Sm H H' → RpAll H' vs ds → F ds → Q vs H') → ta σ H Q
structure SG (g : TG) (ws : List Nat) (dg : DG) : Prop where
  run : ∀ {H0 H : Hp} {σ : L2.St} {τ : DSt}, Rep P w H0 H σ τ → ∀ {v : V} {d : PyData} {F : DSt → Prop}, Rp H v d → dg d τ F → ∀ {Q : L2.St → Hp → Prop}, (∀ σ' τ', Rep P w H0 H σ' τ' → Fr τ H τ' H → (∀ vs : List Nat, (∀ i ∈ ws, i ∈ vs) → wipe σ' vs = wipe σ vs) → F τ' → Q σ' H) → g v σ H Q
structure SGs (g : TGs) (ws : List Nat) (dg : DGs) : Prop where
  run : ∀ {H0 H : Hp} {σ : L2.St} {τ : DSt}, Rep P w H0 H σ τ → ∀ {v : List V} {d : List PyData} {F : DSt → Prop}, BpAll H v d → dg d τ F → ∀ {Q : L2.St → Hp → Prop}, (∀ σ' τ', Rep P w H0 H σ' τ' → Fr τ H τ' H → (∀ vs : List Nat, (∀ i ∈ ws, i ∈ vs) → wipe σ' vs = wipe σ vs) → F τ' → Q σ' H) → g v σ H Q
/-- the ways out, carried -/
structure Way (H0 H : Hp) (τ : DSt) (D : DE) (E : Ends) : Prop where
  nx : ∀ σ' H' τ', Rep P w H0 H' σ' τ' → Fr τ H τ' H' → D.nx τ' → E.nx σ' H'
  bk : ∀ σ' H' τ', Rep P w H0 H' σ' τ' → Fr τ H τ' H' → D.bk τ' → E.bk σ' H'
  ct : ∀ σ' H' τ', Rep P w H0 H' σ' τ' → Fr τ H τ' H' → D.ct τ' → E.ct σ' H'
  rt : ∀ v H' d, Sm H0 H' → Rp H' v d → D.rt d → E.rt v H'
  rl : ∀ p H' xs ds, H0 p = none → Sm H0 H' → H' p = some (.lst xs) → BpAll H' xs ds → D.rl ds → E.rt (.ref p) H'
structure SS (ts : TS) (ds : DS) : Prop where
  run : ∀ {H0 H : Hp} {σ : L2.St} {τ : DSt}, Rep P w H0 H σ τ → ∀ {D : DE}, ds D τ → ∀ {E : Ends}, Way P w H0 H τ D E → ts E σ H
end
theorem Way.mono {P : Program} {w : World} {H0 H H1 : Hp} {τ τ1 : DSt} {D : DE} {E : Ends} (W : Way P w H0 H τ D E) (f : Fr τ H τ1 H1) : Way P w H0 H1 τ1 D E :=
  ⟨fun a b c r g h => W.nx a b c r (f.trans g) h, fun a b c r g h => W.bk a b c r (f.trans g) h, fun a b c r g h => W.ct a b c r (f.trans g) h, W.rt, W.rl⟩
section
variable (X : Cx) (K : PySem.W.Frag)
structure PD (e : Expr) (te : TE) (dt : DTE) : Prop where
  hK : X.K = K
  pe : PE X e te
  se : SE X.prog X.w te dt
structure PLd (e : Expr) (te : TE) (dt : DTL) : Prop where
  hK : X.K = K
  pe : PE X e te
  se : SL X.prog X.w te dt
structure PTd (e : Expr) (tt : TT) (dt : DTT) : Prop where
  hK : X.K = K
  pe : PT X e tt
  se : ST X.prog X.w tt dt
structure PWd (e : Expr) (tt : TT) (dt : DTT) : Prop where
  hK : X.K = K
  pe : PW X e tt
  se : ST X.prog X.w tt dt
structure PAd (es : List Expr) (ta : TA) (dt : DTA) : Prop where
  hK : X.K = K
  pe : PA X es ta
  se : SA X.prog X.w ta dt
structure PGd (e : Expr) (g : TG) (ws : List Nat) (dg : DG) : Prop where
  hK : X.K = K
  pe : PG X e g
  se : SG X.prog X.w g ws dg
structure PGsd (e : List Expr) (g : TGs) (ws : List Nat) (dg : DGs) : Prop where
  hK : X.K = K
  pe : PGs X e g
  se : SGs X.prog X.w g ws dg
structure PSd (st : Stmt) (ts : TS) (ds : DS) : Prop where
  hK : X.K = K
  pe : PS X st ts
  se : SS X.prog X.w ts ds
structure PSsd (st : List Stmt) (ts : TS) (ds : DS) : Prop where
  hK : X.K = K
  pe : PSs X st ts
  se : SS X.prog X.w ts ds
end
/-! ### names, constants -/
def DV.val : DV → Option PyData
  | .d x => some x
  | .l _ xs => some (.list xs)
  | _ => none
def dVar (i : Nat) : DTE := fun τ F => ∃ x d, τ[i]? = some (some x) ∧ x.val = some d ∧ F d
def dC (d : PyData) : DTE := fun _ F => F d
section
variable {X : Cx} {K : PySem.W.Frag} {pos : Pos}
theorem se_var {P : Program} {w : World} {i : Nat} : SE P w (tVar i) (dVar i) := ⟨fun {H0 H σ τ} R {F} h {Q} k => by
  obtain ⟨x, d, hx, hv, hf⟩ := h
  obtain ⟨u, hu, S⟩ := R.slot i x hx
  cases x with
  | d d =>
    cases hv
    obtain ⟨v, rfl, hr, _⟩ := S
    exact ⟨v, hu, k v H d (Sm.refl H) hr hf⟩
  | l p ds =>
    cases hv
    obtain ⟨rfl, _, xs, h3, h4, _⟩ := S
    exact ⟨.ref p, hu, k _ H _ (Sm.refl H) (.inl (.lst h3 h4)) hf⟩
  | n p kvs => cases hv
  | s p kvs => cases hv⟩
theorem dv (i : Nat) {x : Str} (hN : X.N[i]? = some x := by rfl) (hv : Vis X.env.scope x := by first | exact Or.inl rfl | exact Or.inr (Or.inl rfl) | exact Or.inr (Or.inr rfl)) (hd : (x == ("__debug__" : Str)) = false := by decide)
    (hcd : (x == ("__classdict__" : Str)) = false := by decide) (hK : X.K = K := by rfl) : PD X K (.Name x pos) (tVar i) (dVar i) := by
  have hK := hK
  subst hK
  exact ⟨rfl, pe_var hN hv hd hcd, se_var⟩
theorem se_c {P : Program} {w : World} {v : V} {d : PyData} (h : ∀ H, Bp H v d) : SE P w (tC v) (dC d) := ⟨fun {_ _ _ _} R {F} hf {Q} k => k v _ d (Sm.refl _) (.inl (h _)) hf⟩
theorem dint {n : Int} {k} (hK : X.K = K := by rfl) : PD X K (.Constant (.int n) k pos) (tC (.int n)) (dC (.int n)) := by
  have hK := hK
  subst hK
  exact ⟨rfl, pe_int, se_c fun _ => .int _⟩
theorem dbl {b : Bool} {k} (hK : X.K = K := by rfl) : PD X K (.Constant (.bool b) k pos) (tC (.bl b)) (dC (.bool b)) := by
  have hK := hK
  subst hK
  exact ⟨rfl, pe_bl, se_c fun _ => .bl _⟩
theorem dnon {k} (hK : X.K = K := by rfl) : PD X K (.Constant .none k pos) (tC .non) (dC .none) := by
  have hK := hK
  subst hK
  exact ⟨rfl, pe_non, se_c fun _ => .non⟩
theorem dstr {x : Str} {k} (hK : X.K = K := by rfl) : PD X K (.Constant (.str x) k pos) (tC (.str x)) (dC (.str x)) := by
  have hK := hK
  subst hK
  exact ⟨rfl, pe_str, se_c fun _ => .str _⟩
end
/-! ### operators -/
structure SOp (r : R2) (rd : PyData → PyData → (PyData → Prop) → Prop) : Prop where
  run : ∀ {H : Hp} {x y : V} {d e : PyData} {F : PyData → Prop} {Q : VK}, Rp H x d → Rp H y e → rd d e F → (∀ v H' z, Sm H H' → Rp H' v z → F z → Q v H') → r x y H Q
def dOp (rd : PyData → PyData → (PyData → Prop) → Prop) (a b : DTE) : DTE := fun τ F => a τ fun d => b τ fun e => rd d e F
theorem se_op {P : Program} {w : World} {r : R2} {rd : PyData → PyData → (PyData → Prop) → Prop} {ta tb : TE} {da db : DTE} (hs : SOp r rd) (ha : SE P w ta da) (hb : SE P w tb db) : SE P w (tOp r ta tb) (dOp rd da db) :=
  ⟨fun {_ _ _ _} R {F} h {Q} k => ha.run R h fun v H1 d e1 r1 h1 => hb.run (R.to e1) h1 fun u H2 e e2 r2 h2 => hs.run (r1.sm e2) r2 h2 fun z H3 f e3 r3 h3 => k z H3 f ((e1.trans e2).trans e3) r3 h3⟩
def dI2 (f : Int → Int → PyData) : PyData → PyData → (PyData → Prop) → Prop := fun d e F => ∃ i j, d = .int i ∧ e = .int j ∧ F (f i j)
def dI2c (C : Int → Int → Prop) (f : Int → Int → PyData) : PyData → PyData → (PyData → Prop) → Prop := fun d e F => ∃ i j, d = .int i ∧ e = .int j ∧ C i j ∧ F (f i j)
theorem so_I0 {g : Int → Int → V} {f : Int → Int → PyData} (h : ∀ H i j, Bp H (g i j) (f i j)) : SOp (rI0 g) (dI2 f) := ⟨fun {H x y d e F Q} r1 r2 h1 k => by
  obtain ⟨i, j, rfl, rfl, hf⟩ := h1
  exact ⟨i, j, r1.int, r2.int, k _ H _ (Sm.refl H) (.inl (h _ _ _)) hf⟩⟩
theorem so_I {C : Int → Int → Prop} {g : Int → Int → V} {f : Int → Int → PyData} (h : ∀ H i j, Bp H (g i j) (f i j)) : SOp (rI C g) (dI2c C f) := ⟨fun {H x y d e F Q} r1 r2 h1 k => by
  obtain ⟨i, j, rfl, rfl, hc, hf⟩ := h1
  exact ⟨i, j, r1.int, r2.int, hc, k _ H _ (Sm.refl H) (.inl (h _ _ _)) hf⟩⟩
section
variable {X : Cx} {K : PySem.W.Frag} {pos : Pos} {a b : Expr} {ta tb : TE} {da db : DTE}
theorem dadd (ha : PD X K a ta da) (hb : PD X K b tb db) : PD X K (.BinOp a .Add b pos) (tOp (rI0 fun i j => .int (i + j)) ta tb) (dOp (dI2 fun i j => .int (i + j)) da db) := by
  have hK := ha.hK
  subst hK
  exact ⟨rfl, pe_op op_add ha.pe hb.pe, se_op (so_I0 fun _ _ _ => .int _) ha.se hb.se⟩
theorem dsub (ha : PD X K a ta da) (hb : PD X K b tb db) : PD X K (.BinOp a .Sub b pos) (tOp (rI0 fun i j => .int (i - j)) ta tb) (dOp (dI2 fun i j => .int (i - j)) da db) := by
  have hK := ha.hK
  subst hK
  exact ⟨rfl, pe_op op_sub ha.pe hb.pe, se_op (so_I0 fun _ _ _ => .int _) ha.se hb.se⟩
theorem dmul (ha : PD X K a ta da) (hb : PD X K b tb db) : PD X K (.BinOp a .Mult b pos) (tOp (rI CMul fun i j => .int (i * j)) ta tb) (dOp (dI2c CMul fun i j => .int (i * j)) da db) := by
  have hK := ha.hK
  subst hK
  exact ⟨rfl, pe_op op_mul ha.pe hb.pe, se_op (so_I fun _ _ _ => .int _) ha.se hb.se⟩
theorem dmod (ha : PD X K a ta da) (hb : PD X K b tb db) : PD X K (.BinOp a .Mod b pos) (tOp (rI (fun _ j => 0 < j) fun i j => .int (i % j)) ta tb) (dOp (dI2c (fun _ j => 0 < j) fun i j => .int (i % j)) da db) := by
  have hK := ha.hK
  subst hK
  exact ⟨rfl, pe_op op_mod ha.pe hb.pe, se_op (so_I fun _ _ _ => .int _) ha.se hb.se⟩
theorem dfdiv (ha : PD X K a ta da) (hb : PD X K b tb db) : PD X K (.BinOp a .FloorDiv b pos) (tOp (rI CDiv fun i j => .int (i / j)) ta tb) (dOp (dI2c CDiv fun i j => .int (i / j)) da db) := by
  have hK := ha.hK
  subst hK
  exact ⟨rfl, pe_op op_fdiv ha.pe hb.pe, se_op (so_I fun _ _ _ => .int _) ha.se hb.se⟩
/-- comparisons of ints -/
theorem dcmpI {op : CmpOp} {g : Int → Int → Bool} (ho : OpR X (compareOp op) (rI0 fun i j => .bl (g i j))) (hm : behindInMarks op b = false) (ha : PD X K a ta da) (hb : PD X K b tb db) : PD X K (.Compare a [op] [b] pos) (tOp (rI0 fun i j => .bl (g i j)) ta tb) (dOp (dI2 fun i j => .bool (g i j)) da db) := by
  have hK := ha.hK
  subst hK
  exact ⟨rfl, pe_cmpR ho ha.pe hb.pe hm, se_op (so_I0 fun _ _ _ => .bl _) ha.se hb.se⟩
theorem dlt (ha : PD X K a ta da) (hb : PD X K b tb db) : PD X K (.Compare a [.Lt] [b] pos) (tOp (rI0 fun i j => .bl (decide (i < j))) ta tb) (dOp (dI2 fun i j => .bool (decide (i < j))) da db) := dcmpI op_lt (nomark _) ha hb
theorem dle (ha : PD X K a ta da) (hb : PD X K b tb db) : PD X K (.Compare a [.LtE] [b] pos) (tOp (rI0 fun i j => .bl (decide (i ≤ j))) ta tb) (dOp (dI2 fun i j => .bool (decide (i ≤ j))) da db) := dcmpI op_le (nomark _) ha hb
theorem dgt (ha : PD X K a ta da) (hb : PD X K b tb db) : PD X K (.Compare a [.Gt] [b] pos) (tOp (rI0 fun i j => .bl (decide (j < i))) ta tb) (dOp (dI2 fun i j => .bool (decide (j < i))) da db) := dcmpI op_gt (nomark _) ha hb
theorem dge (ha : PD X K a ta da) (hb : PD X K b tb db) : PD X K (.Compare a [.GtE] [b] pos) (tOp (rI0 fun i j => .bl (decide (j ≤ i))) ta tb) (dOp (dI2 fun i j => .bool (decide (j ≤ i))) da db) := dcmpI op_ge (nomark _) ha hb
end
/-- == of data -/
def dEqD : PyData → PyData → (PyData → Prop) → Prop := fun d e F => noF d = true ∧ noF e = true ∧ SeqAt.shaped d = true ∧ SeqAt.shaped e = true ∧ F (.bool (PyData.eqv d e))
def dNeD : PyData → PyData → (PyData → Prop) → Prop := fun d e F => noF d = true ∧ noF e = true ∧ SeqAt.shaped d = true ∧ SeqAt.shaped e = true ∧ F (.bool (!PyData.eqv d e))
theorem so_eqD {K : PySem.W.Frag} : SOp (rEqD K) dEqD := ⟨fun {H x y d e F Q} r1 r2 h k => by
  obtain ⟨n1, n2, s1, s2, hf⟩ := h
  exact ⟨d, e, (r1.bp n1).dp, (r2.bp n2).dp, s1, s2, k _ H _ (Sm.refl H) (.inl (.bl _)) hf⟩⟩
theorem so_neD {K : PySem.W.Frag} : SOp (rNeD K) dNeD := ⟨fun {H x y d e F Q} r1 r2 h k => by
  obtain ⟨n1, n2, s1, s2, hf⟩ := h
  exact ⟨d, e, (r1.bp n1).dp, (r2.bp n2).dp, s1, s2, k _ H _ (Sm.refl H) (.inl (.bl _)) hf⟩⟩
/-- x in xs -/
def dInD (neg : Bool) : PyData → PyData → (PyData → Prop) → Prop := fun d e F => ∃ ds, e = .list ds ∧ noF d = true ∧ SeqAt.shaped d = true ∧ SeqAt.shaped (.list ds) = true ∧ F (.bool (if neg then !(ds.any fun z => PyData.eqv z d) else ds.any fun z => PyData.eqv z d))
def dInT (neg : Bool) : PyData → PyData → (PyData → Prop) → Prop := fun d e F => ∃ ds, e = .tuple ds ∧ noF d = true ∧ SeqAt.shaped d = true ∧ SeqAt.shaped (.tuple ds) = true ∧ F (.bool (if neg then !(ds.any fun z => PyData.eqv z d) else ds.any fun z => PyData.eqv z d))
theorem so_inD {K : PySem.W.Frag} : SOp (rInD K) (dInD false) := ⟨fun {H x y d e F Q} r1 r2 h k => by
  obtain ⟨ds, rfl, n1, s1, s2, hf⟩ := h
  exact ⟨d, ds, (r1.bp n1).dp, (r2.bp rfl).dp, s1, s2, k _ H _ (Sm.refl H) (.inl (.bl _)) hf⟩⟩
theorem so_notInD {K : PySem.W.Frag} : SOp (rNotInD K) (dInD true) := ⟨fun {H x y d e F Q} r1 r2 h k => by
  obtain ⟨ds, rfl, n1, s1, s2, hf⟩ := h
  exact ⟨d, ds, (r1.bp n1).dp, (r2.bp rfl).dp, s1, s2, k _ H _ (Sm.refl H) (.inl (.bl _)) hf⟩⟩
theorem so_inT {K : PySem.W.Frag} : SOp (rInT K false) (dInT false) := ⟨fun {H x y d e F Q} r1 r2 h k => by
  obtain ⟨ds, rfl, n1, s1, s2, hf⟩ := h
  exact ⟨d, ds, (r1.bp n1).dp, (r2.bp rfl).dp, s1, s2, k _ H _ (Sm.refl H) (.inl (.bl _)) hf⟩⟩
def rIsNn : R2 := fun x y H Q => y = .non ∧ Q (.bl (decide (x = .non))) H
def rNotNn : R2 := fun x y H Q => y = .non ∧ Q (.bl (!decide (x = .non))) H
def isNo : PyData → Bool
  | .none => true
  | _ => false
theorem rp_non {H : Hp} {v : V} {d : PyData} (h : Rp H v d) : decide (v = .non) = isNo d := by
  rcases h with h | ⟨rfl, p, o, rfl, _⟩
  · cases h <;> rfl
  · rfl
theorem so_isN : SOp rIsNn (fun d e F => e = .none ∧ F (.bool (isNo d))) := ⟨fun {H x y d e F Q} r1 r2 h k => by
  obtain ⟨rfl, hf⟩ := h
  refine ⟨?_, ?_⟩
  · cases r2.bp rfl
    rfl
  · rw [rp_non r1]
    exact k _ H _ (Sm.refl H) (.inl (.bl _)) hf⟩
theorem so_notN : SOp rNotNn (fun d e F => e = .none ∧ F (.bool (!isNo d))) := ⟨fun {H x y d e F Q} r1 r2 h k => by
  obtain ⟨rfl, hf⟩ := h
  refine ⟨?_, ?_⟩
  · cases r2.bp rfl
    rfl
  · rw [rp_non r1]
    exact k _ H _ (Sm.refl H) (.inl (.bl _)) hf⟩
section
variable {X : Cx} {K : PySem.W.Frag} {pos : Pos} {a b : Expr} {ta tb : TE} {da db : DTE}
theorem deq (hu : X.A.units + 64 < cLine) (ha : PD X K a ta da) (hb : PD X K b tb db) : PD X K (.Compare a [.Eq] [b] pos) (tOp (rEqD K) ta tb) (dOp dEqD da db) := by
  have hK := ha.hK
  subst hK
  exact ⟨rfl, pe_cmpR (op_eqD hu) ha.pe hb.pe (nomark _), se_op so_eqD ha.se hb.se⟩
theorem dne (hu : X.A.units + 64 < cLine) (ha : PD X K a ta da) (hb : PD X K b tb db) : PD X K (.Compare a [.NotEq] [b] pos) (tOp (rNeD K) ta tb) (dOp dNeD da db) := by
  have hK := ha.hK
  subst hK
  exact ⟨rfl, pe_cmpR (op_neD hu) ha.pe hb.pe (nomark _), se_op so_neD ha.se hb.se⟩
theorem din (hu : X.A.units + 65 < cLine) (ha : PD X K a ta da) (hb : PD X K b tb db) (hm : behindInMarks .In b = false := by rfl) : PD X K (.Compare a [.In] [b] pos) (tOp (rInD K) ta tb) (dOp (dInD false) da db) := by
  have hK := ha.hK
  subst hK
  exact ⟨rfl, pe_cmpR (op_inD hu) ha.pe hb.pe hm, se_op so_inD ha.se hb.se⟩
theorem dnin (hu : X.A.units + 65 < cLine) (ha : PD X K a ta da) (hb : PD X K b tb db) (hm : behindInMarks .NotIn b = false := by rfl) : PD X K (.Compare a [.NotIn] [b] pos) (tOp (rNotInD K) ta tb) (dOp (dInD true) da db) := by
  have hK := ha.hK
  subst hK
  exact ⟨rfl, pe_cmpR (op_notInD hu) ha.pe hb.pe hm, se_op so_notInD ha.se hb.se⟩
theorem dinT (hu : X.A.units + 65 < cLine) (ha : PD X K a ta da) (hb : PD X K b tb db) (hm : behindInMarks .In b = false := by rfl) : PD X K (.Compare a [.In] [b] pos) (tOp (rInT K false) ta tb) (dOp (dInT false) da db) := by
  have hK := ha.hK
  subst hK
  exact ⟨rfl, pe_cmpR (op_inT hu) ha.pe hb.pe hm, se_op so_inT ha.se hb.se⟩
theorem disN (ha : PD X K a ta da) (hb : PD X K b tb db) : PD X K (.Compare a [.Is] [b] pos) (tOp rIsNn ta tb) (dOp (fun d e F => e = .none ∧ F (.bool (isNo d))) da db) := by
  have hK := ha.hK
  subst hK
  exact ⟨rfl, pe_cmpR op_isN ha.pe hb.pe (nomark _), se_op so_isN ha.se hb.se⟩
theorem dnotN (ha : PD X K a ta da) (hb : PD X K b tb db) : PD X K (.Compare a [.IsNot] [b] pos) (tOp rNotNn ta tb) (dOp (fun d e F => e = .none ∧ F (.bool (!isNo d))) da db) := by
  have hK := ha.hK
  subst hK
  exact ⟨rfl, pe_cmpR op_notN ha.pe hb.pe (nomark _), se_op so_notN ha.se hb.se⟩
end
/-! ### xs[i] -/
def dIx : PyData → PyData → (PyData → Prop) → Prop := fun d e F => ∃ xs i z, seqOf d = some xs ∧ e = .int i ∧ atI xs i = some z ∧ F z
theorem BpAll.atI {H : Hp} {vs : List V} {ds : List PyData} (h : BpAll H vs ds) {i : Int} {z : PyData} (e : atI ds i = some z) : ∃ v, L2.atI vs i = some v ∧ Bp H v z := by
  unfold L2.atI at e ⊢
  rw [h.len]
  cases hi : ixN ds.length i with
  | none => rw [hi] at e; cases e
  | some j =>
    rw [hi] at e
    exact h.at (by simpa using e)
theorem so_ix {K : PySem.W.Frag} : SOp (rIx K) dIx := ⟨fun {H x y d e F Q} r1 r2 h k => by
  obtain ⟨xs, i, z, hs, rfl, hz, hf⟩ := h
  obtain ⟨p, vs, rfl, hk, hb⟩ := r1.seq (K := K) hs
  obtain ⟨v, hv, hvb⟩ := hb.atI hz
  rcases hk with ⟨_, _, hk⟩ | ⟨_, _, hk⟩
  · exact .inl ⟨p, vs, i, v, rfl, r2.int, hk, hv, k v H z (Sm.refl H) (.inl hvb) hf⟩
  · exact .inr (.inl ⟨p, vs, i, v, rfl, r2.int, hk, hv, k v H z (Sm.refl H) (.inl hvb) hf⟩)⟩
theorem dIx_nat {xs : List PyData} {d z : PyData} {k : Nat} {F : PyData → Prop} (hs : seqOf d = some xs) (hz : xs[k]? = some z) (hf : F z) : dIx d (.int (k : Nat)) F :=
  ⟨xs, (k : Nat), z, hs, rfl, by rw [atI_nat]; exact hz, hf⟩
section
variable {X : Cx} {K : PySem.W.Frag} {pos : Pos} {a b : Expr} {ta tb : TE} {da db : DTE}
theorem dix (ha : PD X K a ta da) (hb : PD X K b tb db) (hp : PlainIx b := by exact fun _ _ => rfl) : PD X K (.Subscript a b pos) (tOp (rIx K) ta tb) (dOp dIx da db) := by
  have hK := ha.hK
  subst hK
  exact ⟨rfl, pe_ix ix_seq ha.pe hb.pe hp, se_op so_ix ha.se hb.se⟩
end
/-! ### tests -/
def dB (d : DTE) : DTT := fun τ F => d τ fun x => ∃ b, x = .bool b ∧ F b
theorem st_B {P : Program} {w : World} {te : TE} {dt : DTE} (h : SE P w te dt) : ST P w (tB te) (dB dt) := ⟨fun {_ _ _ _} R {F} hh {Q} k => h.run R hh fun v H' d e r hf => by
  obtain ⟨b, rfl, hf⟩ := hf
  exact ⟨b, r.bool, k b H' e hf⟩⟩
theorem st_T {P : Program} {w : World} {te : TE} {dt : DTE} (h : SE P w te dt) : ST P w (tTest te) (dB dt) := ⟨fun {_ _ _ _} R {F} hh {Q} k => h.run R hh fun v H' d e r hf => by
  obtain ⟨b, rfl, hf⟩ := hf
  exact ⟨b, r.bool, k b H' e hf⟩⟩
def dAnd (t u : DTT) : DTT := fun τ F => t τ fun c => if c = true then u τ F else F false
def dOr (t u : DTT) : DTT := fun τ F => t τ fun c => if c = true then F true else u τ F
def dNot (t : DTT) : DTT := fun τ F => t τ fun c => F (!c)
theorem st_and {P : Program} {w : World} {t u : TT} {d e : DTT} (h1 : ST P w t d) (h2 : ST P w u e) : ST P w (tAnd t u) (dAnd d e) := ⟨fun {_ _ _ _} R {F} hh {Q} k => h1.run R hh fun c H' s hf => by
  cases c with
  | true => exact h2.run (R.to s) hf fun c H2 s2 hf => k c H2 (s.trans s2) hf
  | false => exact k false H' s hf⟩
theorem st_or {P : Program} {w : World} {t u : TT} {d e : DTT} (h1 : ST P w t d) (h2 : ST P w u e) : ST P w (tOr t u) (dOr d e) := ⟨fun {_ _ _ _} R {F} hh {Q} k => h1.run R hh fun c H' s hf => by
  cases c with
  | false => exact h2.run (R.to s) hf fun c H2 s2 hf => k c H2 (s.trans s2) hf
  | true => exact k true H' s hf⟩
theorem st_not {P : Program} {w : World} {t : TT} {d : DTT} (h1 : ST P w t d) : ST P w (tNot t) (dNot d) := ⟨fun {_ _ _ _} R {F} hh {Q} k => h1.run R hh fun c H' s hf => k _ H' s hf⟩
section
variable {X : Cx} {K : PySem.W.Frag} {pos : Pos} {a b : Expr} {rest : List Expr} {ta tb : TE} {da db : DTE} {t u : TT} {d e : DTT}
theorem tval (h : PD X K a ta da) (he : ∀ whole, isTrue a X.env whole = (do let v ← whole; standAt a.pos; holding [v] (truthy v)) := by intro _; rfl) : PTd X K a (tB ta) (dB da) := by
  have hK := h.hK
  subst hK
  exact ⟨rfl, pt_val h.pe he, st_B h.se⟩
/-- a comparison as a test -/
theorem tcmp {op : CmpOp} {r : R2} {rd : PyData → PyData → (PyData → Prop) → Prop} (ho : OpR X (compareOp op) r) (hs : SOp r rd) (hm : behindInMarks op b = false) (ha : PD X K a ta da) (hb : PD X K b tb db) : PTd X K (.Compare a [op] [b] pos) (tTest (tOp r ta tb)) (dB (dOp rd da db)) := by
  have hK := ha.hK
  subst hK
  exact ⟨rfl, pt_cmpR ho ha.pe hb.pe hm, st_T (se_op hs ha.se hb.se)⟩
theorem tand1 (h : PTd X K a t d) : PWd X K (.BoolOp .And [a] pos) t d := by
  have hK := h.hK
  subst hK
  exact ⟨rfl, pw_and1 h.pe, h.se⟩
theorem tor1 (h : PTd X K a t d) : PWd X K (.BoolOp .Or [a] pos) t d := by
  have hK := h.hK
  subst hK
  exact ⟨rfl, pw_or1 h.pe, h.se⟩
theorem tand (h : PTd X K a t d) (k : PWd X K (.BoolOp .And (b :: rest) pos) u e) : PWd X K (.BoolOp .And (a :: b :: rest) pos) (tAnd t u) (dAnd d e) := by
  have hK := h.hK
  subst hK
  exact ⟨rfl, pw_and h.pe k.pe, st_and h.se k.se⟩
theorem tor (h : PTd X K a t d) (k : PWd X K (.BoolOp .Or (b :: rest) pos) u e) : PWd X K (.BoolOp .Or (a :: b :: rest) pos) (tOr t u) (dOr d e) := by
  have hK := h.hK
  subst hK
  exact ⟨rfl, pw_or h.pe k.pe, st_or h.se k.se⟩
theorem tw (h : PWd X K a t d) : PTd X K a t d := by
  have hK := h.hK
  subst hK
  exact ⟨rfl, h.pe.pt, h.se⟩
theorem tnot (h : PTd X K a t d) : PTd X K (.UnaryOp .Not a pos) (tNot t) (dNot d) := by
  have hK := h.hK
  subst hK
  exact ⟨rfl, pt_not h.pe, st_not h.se⟩
end
def dAndV (a b : DTE) : DTE := fun τ F => a τ fun x => ∃ c, x = .bool c ∧ if c = true then b τ F else F (.bool false)
def dOrV (a b : DTE) : DTE := fun τ F => a τ fun x => ∃ c, x = .bool c ∧ if c = true then F (.bool true) else b τ F
def dNotV (a : DTE) : DTE := fun τ F => a τ fun x => ∃ c, x = .bool c ∧ F (.bool (!c))
def dIf (t : DTT) (a b : DTE) : DTE := fun τ F => t τ fun c => if c = true then a τ F else b τ F
section
variable {X : Cx} {K : PySem.W.Frag} {pos : Pos} {a b c : Expr} {rest : List Expr} {ta tb : TE} {da db : DTE} {t u : TT} {d e : DTT}
theorem done_ {op : BoolOp} (h : PD X K a ta da) : PD X K (.BoolOp op [a] pos) ta da := by
  have hK := h.hK
  subst hK
  exact ⟨rfl, pe_one h.pe, h.se⟩
theorem dand (h : PD X K a ta da) (k : PD X K (.BoolOp .And (b :: rest) pos) tb db) : PD X K (.BoolOp .And (a :: b :: rest) pos) (tAndV ta tb) (dAndV da db) := by
  have hK := h.hK
  subst hK
  exact ⟨rfl, pe_and h.pe k.pe, ⟨fun {_ _ _ _} R {F} hh {Q} q => h.se.run R hh fun v H' d e r hf => by
  obtain ⟨c, rfl, hf⟩ := hf
  refine ⟨c, r.bool, ?_⟩
  cases c with
  | true => exact k.se.run (R.to e) hf fun v H2 d s r hf => q v H2 d (e.trans s) r hf
  | false => exact q _ H' _ e (.inl (.bl _)) hf⟩⟩
theorem dor (h : PD X K a ta da) (k : PD X K (.BoolOp .Or (b :: rest) pos) tb db) : PD X K (.BoolOp .Or (a :: b :: rest) pos) (tOrV ta tb) (dOrV da db) := by
  have hK := h.hK
  subst hK
  exact ⟨rfl, pe_or h.pe k.pe, ⟨fun {_ _ _ _} R {F} hh {Q} q => h.se.run R hh fun v H' d e r hf => by
  obtain ⟨c, rfl, hf⟩ := hf
  refine ⟨c, r.bool, ?_⟩
  cases c with
  | false => exact k.se.run (R.to e) hf fun v H2 d s r hf => q v H2 d (e.trans s) r hf
  | true => exact q _ H' _ e (.inl (.bl _)) hf⟩⟩
theorem dnot (h : PD X K a ta da) : PD X K (.UnaryOp .Not a pos) (tNotV ta) (dNotV da) := by
  have hK := h.hK
  subst hK
  exact ⟨rfl, pe_not h.pe, ⟨fun {_ _ _ _} R {F} hh {Q} q => h.se.run R hh fun v H' d e r hf => by
  obtain ⟨c, rfl, hf⟩ := hf
  exact ⟨c, r.bool, q _ H' _ e (.inl (.bl _)) hf⟩⟩⟩
theorem dif_ (hc : PTd X K c t d) (ha : PD X K a ta da) (hb : PD X K b tb db) : PD X K (.IfExp c a b pos) (tIf t ta tb) (dIf d da db) := by
  have hK := hc.hK
  subst hK
  exact ⟨rfl, pe_ifExp hc.pe ha.pe hb.pe, ⟨fun {_ _ _ _} R {F} hh {Q} q => hc.se.run R hh fun v H' e hf => by
  cases v with
  | true => exact ha.se.run (R.to e) hf fun v H2 d s r hf => q v H2 d (e.trans s) r hf
  | false => exact hb.se.run (R.to e) hf fun v H2 d s r hf => q v H2 d (e.trans s) r hf⟩⟩
end
/-! ### argument lists, displays -/
def daNil : DTA := fun _ F => F []
def daCons (a : DTE) (r : DTA) : DTA := fun τ F => a τ fun x => r τ fun xs => F (x :: xs)
def daStar (a : DTE) (r : DTA) : DTA := fun τ F => a τ fun x => ∃ ys, seqOf x = some ys ∧ r τ fun xs => F (ys ++ xs)
def tTupB (t : TA) : TE := fun σ H Q => t σ H fun xs H1 => xs.length ≤ sizeLine ∧ ∀ (p : Addr) (o : Obj), H1 p = none → o.dict = none → Q (.ref p) (upd H1 p (.frz o (.tup xs)))
def dTup (a : DTA) : DTE := fun τ F => a τ fun xs => xs.length ≤ 100000 ∧ xs.all noF = true ∧ F (.tuple xs)
def dLst (a : DTA) : DTL := fun τ F => a τ fun xs => xs.length ≤ 100000 ∧ xs.all noF = true ∧ F xs
theorem noF_bp {H : Hp} : ∀ {vs : List V} {ds : List PyData}, BpAll H vs ds → ds.all noF = true
  | _, _, .nil => rfl
  | _, _, .cons a t => by
    rw [List.all_cons, noF_bp t, Bool.and_true]
    cases a <;> rfl
section
variable {X : Cx} {K : PySem.W.Frag} {pos p : Pos} {e : Expr} {es : List Expr} {te : TE} {de : DTE} {t : TA} {da : DTA}
theorem anil (hK : X.K = K := by rfl) : PAd X K [] tNil daNil := by
  have hK := hK
  subst hK
  exact ⟨rfl, pa_nil, ⟨fun {_ _ _ _} R {F} h {Q} k => k [] _ [] (Sm.refl _) .nil h⟩⟩
theorem acons (ha : PD X K e te de) (hr : PAd X K es t da) (hs : starEach (e :: es) X.env = (false, eval e X.env) :: starEach es X.env := by rfl) : PAd X K (e :: es) (tCons te t) (daCons de da) := by
  have hK := ha.hK
  subst hK
  exact ⟨rfl, pa_cons ha.pe hr.pe hs, ⟨fun {_ _ _ _} R {F} h {Q} k => ha.se.run R h fun v H1 d e1 r1 h1 =>
  hr.se.run (R.to e1) h1 fun vs H2 ds e2 r2 h2 => k (v :: vs) H2 (d :: ds) (e1.trans e2) (.cons (r1.sm e2) r2) h2⟩⟩
theorem astar (ha : PD X K e te de) (hr : PAd X K es t da) (hs : starEach (.Starred e p :: es) X.env = (true, eval e X.env) :: starEach es X.env := by rfl) : PAd X K (.Starred e p :: es) (StX.tStar K te t) (daStar de da) := by
  have hK := ha.hK
  subst hK
  exact ⟨rfl, StX.pa_star ha.pe hr.pe hs, ⟨fun {_ _ _ _} R {F} h {Q} k => ha.se.run R h fun v H1 d e1 r1 h1 => by
  obtain ⟨ys, hy, h1⟩ := h1
  obtain ⟨p, vs, rfl, hk, hb⟩ := r1.seq (K := X.K) hy
  refine ⟨p, vs, rfl, hk.elim (fun z => .inr z.2.2) (fun z => .inl z.2.2), hr.se.run (R.to e1) h1 fun ws H2 ds e2 r2 h2 => ?_⟩
  exact k _ H2 _ (e1.trans e2) (RpAll.app (.of (hb.sm e2)) r2) h2⟩⟩
theorem pe_tupB {x1} (h : PA X es t) : PE X (.Tuple es x1 pos) (tTupB t) := by
  refine ⟨fun pins s σ H Q I hq => ?_⟩
  refine wpAny_Tuple_spliced (thn (h.run pos pins s σ H _ I hq) fun us s1 ⟨xs, H1, I1, r, z, q⟩ => ⟨by rw [← r.length]; exact z, ?_⟩)
  have hf : H1 s1.heap.objs.size = none := I1.hok.fresh (Nat.le_refl _)
  refine ⟨.ref s1.heap.objs.size, upd H1 s1.heap.objs.size (.frz { cls := .type "tuple", data := .seq us.toArray } (.tup xs)), I1.laid (t' := s1.toks) (fun b u e => Heap.get?_push_of_some _ e) (Nat.le_refl _) ?_, rfl, q _ _ hf rfl⟩
  exact ⟨Heap.get?_push_size _ rfl, z, us, r, ⟨_, Heap.get?_push_size _ rfl, rfl, _, rfl⟩⟩
theorem dtup {x1} (h : PAd X K es t da) : PD X K (.Tuple es x1 pos) (tTupB t) (dTup da) := by
  have hK := h.hK
  subst hK
  exact ⟨rfl, pe_tupB h.pe, ⟨fun {_ _ _ _} R {F} hh {Q} k => h.se.run R hh fun vs H1 ds e1 r1 h1 => by
  obtain ⟨hz, hn, hf⟩ := h1
  have hb := r1.bp hn
  refine ⟨by rw [hb.len]; exact Nat.le_trans hz (by decide), fun p o hp ho => k _ _ _ (e1.new (e1.free hp)) (.inl (.tup upd_same ho (hb.sm ((Sm.refl H1).new hp)))) hf⟩⟩⟩
theorem ldisp (h : PAd X K es t da) : PLd X K (.List es pos) (tLst t) (dLst da) := by
  have hK := h.hK
  subst hK
  exact ⟨rfl, pe_lst h.pe, ⟨fun {_ _ _ _} R {F} hh {Q} k => h.se.run R hh fun vs H1 ds e1 r1 h1 => by
  obtain ⟨hz, hn, hf⟩ := h1
  have hb := r1.bp hn
  refine ⟨by rw [hb.len]; exact Nat.le_trans hz (by decide), fun p hp => k p _ vs ds (e1.free hp) (e1.new (e1.free hp)) upd_same (hb.sm ((Sm.refl H1).new hp)) hf⟩⟩⟩
theorem dofl {dl : DTL} (h : PLd X K e te dl) : PD X K e te (fun τ F => dl τ fun xs => F (.list xs)) := by
  have hK := h.hK
  subst hK
  exact ⟨rfl, h.pe, ⟨fun {_ _ _ _} R {F} hh {Q} k => h.se.run R hh fun p H' xs ds hp e1 h1 hb hf => k _ H' _ e1 (.inl (.lst h1 hb)) hf⟩⟩
end
end Wk
end

section
set_option Elab.async false
set_option linter.all false
set_option maxRecDepth 100000
set_option maxHeartbeats 4000000
namespace Wk
open PySem PySem.Spec PyProof.Rows L2
/-! ### calls of what is built in -/
structure SC (r : List V → Hp → VK → Prop) (rd : List PyData → (PyData → Prop) → Prop) : Prop where
  run : ∀ {H : Hp} {vs : List V} {ds : List PyData} {F : PyData → Prop} {Q : VK}, RpAll H vs ds → rd ds F → (∀ v H' z, Sm H H' → Rp H' v z → F z → Q v H') → r vs H Q
structure SCL (r : List V → Hp → VK → Prop) (rd : List PyData → (List PyData → Prop) → Prop) : Prop where
  run : ∀ {H : Hp} {vs : List V} {ds : List PyData} {F : List PyData → Prop} {Q : VK}, RpAll H vs ds → rd ds F → (∀ p H' xs zs, H p = none → Sm H H' → H' p = some (.lst xs) → BpAll H' xs zs → F zs → Q (.ref p) H') → r vs H Q
def dCall (rd : List PyData → (PyData → Prop) → Prop) (a : DTA) : DTE := fun τ F => a τ fun ds => rd ds F
def dCallL (rd : List PyData → (List PyData → Prop) → Prop) (a : DTA) : DTL := fun τ F => a τ fun ds => rd ds F
theorem rpOne {H : Hp} {vs : List V} {d : PyData} (h : RpAll H vs [d]) : ∃ v, vs = [v] ∧ Rp H v d := by
  cases h with | cons a t => cases t; exact ⟨_, rfl, a⟩
theorem rpTwo {H : Hp} {vs : List V} {d e : PyData} (h : RpAll H vs [d, e]) : ∃ v u, vs = [v, u] ∧ Rp H v d ∧ Rp H u e := by
  cases h with | cons a t => cases t with | cons b t => cases t; exact ⟨_, _, rfl, a, b⟩
section
variable {X : Cx} {K : PySem.W.Frag} {pos p : Pos} {x : Str} {id T : String} {e : Expr} {es : List Expr} {t : TA} {da : DTA} {r : List V → Hp → VK → Prop} {rd : List PyData → (PyData → Prop) → Prop} {rl : List PyData → (List PyData → Prop) → Prop}
theorem se_call {P : Program} {w : World} (hs : SC r rd) (ha : SA P w t da) : SE P w (tCB r t) (dCall rd da) := ⟨fun {_ _ _ _} R {F} h {Q} k => ha.run R h fun vs H1 ds e1 r1 h1 => hs.run r1 h1 fun v H2 z e2 r2 hf => k v H2 z (e1.trans e2) r2 hf⟩
theorem sl_call {P : Program} {w : World} (hs : SCL r rl) (ha : SA P w t da) : SL P w (tCB r t) (dCallL rl da) := ⟨fun {_ _ _ _} R {F} h {Q} k => ha.run R h fun vs H1 ds e1 r1 h1 => hs.run r1 h1 fun p H2 xs zs hp e2 h2 hb hf => k p H2 xs zs (e1.free hp) (e1.trans e2) h2 hb hf⟩
theorem dcallB (hc : CallR X (.builtin id) r) (hs : SC r rd) (hg : Gl X x) (hm : X.mg x = none) (hv : bootBuiltins x = some (.builtin id)) (ha : PAd X K (e :: es) t da) (hn : x ≠ "__name__" := by decide) (hdb : (x == ("__debug__" : Str)) = false := by decide)
    (he : starEach (e :: es) X.env = (false, eval e X.env) :: starEach es X.env := by rfl) (hpl : (backTo pos (starEach es X.env)).any (·.1) = false := by rfl) : PD X K (.Call (.Name x p) (e :: es) [] pos) (tCB r t) (dCall rd da) := by
  have hK := ha.hK
  subst hK
  exact ⟨rfl, pe_callB hc hg hm hv ha.pe hn hdb he hpl, se_call hs ha.se⟩
theorem dcallT (hc : CallR X (.type T) r) (hs : SC r rd) (hg : Gl X x) (hm : X.mg x = none) (hv : bootBuiltins x = some (.type T)) (ha : PAd X K (e :: es) t da) (hn : x ≠ "__name__" := by decide) (hdb : (x == ("__debug__" : Str)) = false := by decide)
    (he : starEach (e :: es) X.env = (false, eval e X.env) :: starEach es X.env := by rfl) (hpl : (backTo pos (starEach es X.env)).any (·.1) = false := by rfl) : PD X K (.Call (.Name x p) (e :: es) [] pos) (tCB r t) (dCall rd da) := by
  have hK := ha.hK
  subst hK
  exact ⟨rfl, pe_callTy hc hg hm hv ha.pe hn hdb he hpl, se_call hs ha.se⟩
theorem lcallB (hc : CallR X (.builtin id) r) (hs : SCL r rl) (hg : Gl X x) (hm : X.mg x = none) (hv : bootBuiltins x = some (.builtin id)) (ha : PAd X K (e :: es) t da) (hn : x ≠ "__name__" := by decide) (hdb : (x == ("__debug__" : Str)) = false := by decide)
    (he : starEach (e :: es) X.env = (false, eval e X.env) :: starEach es X.env := by rfl) (hpl : (backTo pos (starEach es X.env)).any (·.1) = false := by rfl) : PLd X K (.Call (.Name x p) (e :: es) [] pos) (tCB r t) (dCallL rl da) := by
  have hK := ha.hK
  subst hK
  exact ⟨rfl, pe_callB hc hg hm hv ha.pe hn hdb he hpl, sl_call hs ha.se⟩
theorem lcallT (hc : CallR X (.type T) r) (hs : SCL r rl) (hg : Gl X x) (hm : X.mg x = none) (hv : bootBuiltins x = some (.type T)) (ha : PAd X K (e :: es) t da) (hn : x ≠ "__name__" := by decide) (hdb : (x == ("__debug__" : Str)) = false := by decide)
    (he : starEach (e :: es) X.env = (false, eval e X.env) :: starEach es X.env := by rfl) (hpl : (backTo pos (starEach es X.env)).any (·.1) = false := by rfl) : PLd X K (.Call (.Name x p) (e :: es) [] pos) (tCB r t) (dCallL rl da) := by
  have hK := ha.hK
  subst hK
  exact ⟨rfl, pe_callTy hc hg hm hv ha.pe hn hdb he hpl, sl_call hs ha.se⟩
end
/-- len -/
def dLen : List PyData → (PyData → Prop) → Prop := fun ds F => ∃ d xs, ds = [d] ∧ seqOf d = some xs ∧ F (.int xs.length)
def rLenC (K : PySem.W.Frag) : List V → Hp → VK → Prop := fun xs H Q => ∃ p ys, xs = [.ref p] ∧ (SqL K H p ys ∨ SqT K H p ys) ∧ Q (.int ys.length) H
theorem sc_len {K : PySem.W.Frag} : SC (rLenC K) dLen := ⟨fun {H vs ds F Q} r h k => by
  obtain ⟨d, xs, rfl, hs, hf⟩ := h
  obtain ⟨v, rfl, r1⟩ := rpOne r
  obtain ⟨p, ws, rfl, hk, hb⟩ := r1.seq (K := K) hs
  refine ⟨p, ws, rfl, hk.elim (fun z => .inl z.2.2) (fun z => .inr z.2.2), k _ H _ (Sm.refl H) (.inl ?_) hf⟩
  rw [hb.len]
  exact .int _⟩
def dAll : List PyData → (PyData → Prop) → Prop := fun ds F => ∃ bs : List Bool, ds = [.list (bs.map .bool)] ∧ F (.bool (bs.all id))
theorem sc_all {K : PySem.W.Frag} : SC (rAll K) dAll := ⟨fun {H vs ds F Q} r h k => by
  obtain ⟨bs, rfl, hf⟩ := h
  obtain ⟨v, rfl, r1⟩ := rpOne r
  cases r1.bp rfl with
  | lst h1 h2 =>
    rw [h2.toBools] at h1
    exact ⟨_, bs, rfl, .inl (.inl h1), k _ H _ (Sm.refl H) (.inl (.bl _)) hf⟩⟩
def dMax : List PyData → (PyData → Prop) → Prop := fun ds F => ∃ ns : List Int, ds = [.list (ns.map .int)] ∧ 0 < ns.length ∧ ∀ m, m ∈ ns → (∀ y, y ∈ ns → y ≤ m) → F (.int m)
def dMin : List PyData → (PyData → Prop) → Prop := fun ds F => ∃ ns : List Int, ds = [.list (ns.map .int)] ∧ 0 < ns.length ∧ ∀ m, m ∈ ns → (∀ y, y ∈ ns → m ≤ y) → F (.int m)
theorem sc_max {K : PySem.W.Frag} : SC (rMax K) dMax := ⟨fun {H vs ds F Q} r h k => by
  obtain ⟨bs, rfl, h0, hf⟩ := h
  obtain ⟨v, rfl, r1⟩ := rpOne r
  cases r1.bp rfl with
  | lst h1 h2 =>
    rw [h2.toInts] at h1
    exact ⟨_, bs, rfl, .inl (.inl h1), h0, fun m hm hl => k _ H _ (Sm.refl H) (.inl (.int _)) (hf m hm hl)⟩⟩
theorem sc_min {K : PySem.W.Frag} : SC (rMin K) dMin := ⟨fun {H vs ds F Q} r h k => by
  obtain ⟨bs, rfl, h0, hf⟩ := h
  obtain ⟨v, rfl, r1⟩ := rpOne r
  cases r1.bp rfl with
  | lst h1 h2 =>
    rw [h2.toInts] at h1
    exact ⟨_, bs, rfl, .inl (.inl h1), h0, fun m hm hl => k _ H _ (Sm.refl H) (.inl (.int _)) (hf m hm hl)⟩⟩
def dMinD : List PyData → (PyData → Prop) → Prop := fun ds F => ∃ xs, ds = [.list xs] ∧ xs ≠ [] ∧ (∀ d ∈ xs, TupD d) ∧ PySem.W.AllAlike xs ∧ ∀ m, m ∈ xs → (∀ e ∈ xs, PySem.W.dataLt e m = false) → F m
theorem sc_minD {K : PySem.W.Frag} : SC (rMinD K) dMinD := ⟨fun {H vs ds F Q} r h k => by
  obtain ⟨xs, rfl, h0, ht, hal, hf⟩ := h
  obtain ⟨v, rfl, r1⟩ := rpOne r
  cases r1.bp rfl with
  | lst h1 h2 =>
    refine ⟨_, _, xs, rfl, .inl (.inl h1), h2.dp, h0, ht, hal, fun i v d hv hd hm => k v H d (Sm.refl H) (.inl ?_) (hf d (List.mem_of_getElem? hd) hm)⟩
    obtain ⟨v', e1, e2⟩ := h2.at hd
    rw [hv] at e1
    cases e1
    exact e2⟩
def dInt1 : List PyData → (PyData → Prop) → Prop := fun ds F => ∃ i, ds = [.int i] ∧ F (.int i)
def rInt1 : List V → Hp → VK → Prop := fun xs H Q => (∃ i, xs = [.int i] ∧ Q (.int i) H) ∨ ∃ k, xs = [.bl k] ∧ Q (.int (if k then 1 else 0)) H
theorem sc_int1 : SC rInt1 dInt1 := ⟨fun {H vs ds F Q} r h k => by
  obtain ⟨i, rfl, hf⟩ := h
  obtain ⟨v, rfl, r1⟩ := rpOne r
  exact .inl ⟨i, by rw [r1.int], k _ H _ (Sm.refl H) (.inl (.int _)) hf⟩⟩
/-! ### isinstance -/
def isKind : String → PyData → Option Bool
  | "int", .int _ => some true
  | "int", .bool _ => some true
  | "int", .none => some false
  | "int", .str _ => some false
  | "int", .tuple _ => some false
  | "int", .list _ => some false
  | "bool", .int _ => some false
  | "bool", .bool _ => some true
  | "bool", .none => some false
  | "bool", .str _ => some false
  | "bool", .tuple _ => some false
  | "bool", .list _ => some false
  | "str", .int _ => some false
  | "str", .bool _ => some false
  | "str", .none => some false
  | "str", .str _ => some true
  | "str", .tuple _ => some false
  | "str", .list _ => some false
  | "tuple", .int _ => some false
  | "tuple", .bool _ => some false
  | "tuple", .none => some false
  | "tuple", .str _ => some false
  | "tuple", .tuple _ => some true
  | "tuple", .list _ => some false
  | "list", .int _ => some false
  | "list", .bool _ => some false
  | "list", .none => some false
  | "list", .str _ => some false
  | "list", .tuple _ => some false
  | "list", .list _ => some true
  | _, _ => none
def dataTy : PyData → String
  | .none => "NoneType"
  | .bool _ => "bool"
  | .int _ => "int"
  | .str _ => "str"
  | .tuple _ => "tuple"
  | .list _ => "list"
  | .dict _ => "dict"
theorem bp_ty {K : PySem.W.Frag} {H : Hp} {v : V} {d : PyData} (h : Bp H v d) : TyX K H v (.type (dataTy d)) := by
  cases h with
  | non => exact .base .non
  | bl => exact .base (.bl _)
  | int => exact .base (.int _)
  | str => exact .base (.str _)
  | lst h1 _ => exact .base (.lst h1)
  | tup h1 _ _ => exact .fTuple h1
theorem kind_ok {K : PySem.W.Frag} {T : String} {d : PyData} {b : Bool} (h : isKind T d = some b) : PySem.W.kitOne K (.type (dataTy d)) (.type T) = some b := by
  refine kit_ty ?_
  unfold isKind at h
  split at h <;> cases h <;> rfl
def tIsi (K : PySem.W.Frag) (T : String) (ta : TE) : TE := tCB (rIsi K) (tCons ta (tCons (tC (.ty T)) tNil))
def dIsi (T : String) (da : DTE) : DTE := fun τ F => da τ fun d => ∃ b, noF d = true ∧ isKind T d = some b ∧ F (.bool b)
section
variable {X : Cx} {K : PySem.W.Frag} {pos p p2 : Pos} {a : Expr} {ta : TE} {da : DTE}
theorem disi {y : Str} (T : String) (hg : Gl X "isinstance") (hm : X.mg "isinstance" = none) (hg2 : Gl X y) (hm2 : X.mg y = none) (hv2 : bootBuiltins y = some (.type T)) (ha : PD X K a ta da) (hn2 : y ≠ "__name__" := by decide) (hd2 : (y == ("__debug__" : Str)) = false := by decide)
    (hs : starEach [a, .Name y p2] X.env = (false, eval a X.env) :: starEach [.Name y p2] X.env := by rfl) (hs2 : starEach [.Name y p2] X.env = (false, eval (.Name y p2) X.env) :: starEach [] X.env := by rfl) (hpl : (backTo pos (starEach [.Name y p2] X.env)).any (·.1) = false := by rfl) :
    PD X K (.Call (.Name "isinstance" p) [a, .Name y p2] [] pos) (tIsi K T ta) (dIsi T da) := by
  have hK := ha.hK
  subst hK
  exact ⟨rfl, pe_callB call_isi hg hm (by decide +kernel) (pa_cons ha.pe (pa_cons (pe_bltn hg2 hm2 hv2 rfl hn2 hd2) pa_nil hs2) hs) (by decide) (by decide) hs hpl, ⟨fun {_ _ _ _} R {F} h {Q} k => ha.se.run R h fun v H1 d e1 r1 h1 => by
    obtain ⟨b, hn, hb, hf⟩ := h1
    exact ⟨v, .ty T, .type (dataTy d), .type T, b, rfl, .ty T, bp_ty (r1.bp hn), kind_ok hb, k _ H1 _ e1 (.inl (.bl _)) hf⟩⟩⟩
end
/-! ### tuple(x), tuple(range(n)), list(..) -/
def kTupB (K : PySem.W.Frag) (x : V) (H : Hp) (Q : VK) : Prop :=
  (∃ p xs, x = .ref p ∧ SqL K H p xs ∧ ∀ (q : Addr) (o : Obj), H q = none → o.dict = none → Q (.ref q) (upd H q (.frz o (.tup xs)))) ∨ (∃ p xs, x = .ref p ∧ SqT K H p xs ∧ Q (.ref p) H)
def tTupRgB (te : L2.St → Hp → (Int → Int → Hp → Prop) → Prop) : TE := fun σ H Q => te σ H fun a b H1 => RgOk a b ∧ ∀ (q : Addr) (o : Obj), H1 q = none → o.dict = none → Q (.ref q) (upd H1 q (.frz o (.tup (rgV a b))))
section
variable {X : Cx} {K : PySem.W.Frag} {a e : Expr} {ta : TE} {da : DTE} {dl : DTL} {te : L2.St → Hp → (Int → Int → Hp → Prop) → Prop}
theorem rl_tupleB (pins : List (Addr × Obj)) (s : Shared) (σ : L2.St) (H : Hp) (x : V) (v : Value) (Q : VK) (I : Inv X pins σ H s) (r : RelV x v) (h : kTupB X.K x H Q) :
    wpAny (model X.prog X.w) X.A (call (.type "tuple") [v]) (EP X pins σ Q) X.xe s := by
  rcases h with ⟨p, xs, rfl, hs, q⟩ | ⟨p, xs, rfl, hs, q⟩
  · obtain rfl : v = .ref p := r
    obtain ⟨its, rv, pl, hz⟩ := I.list hs
    refine call_tuple_list pl.isList (fun h' hk => ?_) (by rw [List.size_toArray, ← rv.length]; exact hz)
    have I1 : Inv X pins σ H { s with heap := h' } := I.kept (t' := s.toks) hk
    have I2 : Inv X pins σ (upd H h'.objs.size (.frz { cls := .type "tuple", data := .seq its.toArray } (.tup xs))) { s with heap := h'.push { cls := .type "tuple", data := .seq its.toArray } } :=
      I1.laid (t' := s.toks) (fun b o e => Heap.get?_push_of_some _ e) (Nat.le_refl _) (show ObjOk X.prog X.w _ _ _ (.frz _ (.tup xs)) from ⟨Heap.get?_push_size _ rfl, hz, its, rv, IsTup.new _ _⟩)
    exact ⟨.ref h'.objs.size, _, I2, rfl, q _ _ (I1.hok.fresh (Nat.le_refl _)) rfl⟩
  · obtain rfl : v = .ref p := r
    obtain ⟨its, rv, pl, hz⟩ := I.tuple hs
    exact call_tuple_tup pl ⟨.ref p, H, I, rfl, q⟩
theorem pe_tupleOfB {p pos : Pos} (hg : Gl X "tuple") (hm : X.mg "tuple" = none) (ha : PE X a ta) (na : starEach [a] X.env = (false, eval a X.env) :: starEach [] X.env := by rfl) :
    PE X (.Call (.Name "tuple" p) [a] [] pos) (tThen ta (kTupB X.K)) := by
  refine ⟨fun pins s σ H Q I h => ?_⟩
  exact Call_ (ld_blt I hg hm boot_tuple (PyProof.Rows.callWith_type1 (one_arg ha I h (fun v s2 x H2 I2 r q => rl_tupleB pins s2 σ H2 x v Q I2 r q) na) na))
theorem pe_tupRgB {p pos : Pos} (hc : X.calm = true) (hg : Gl X "tuple") (hm : X.mg "tuple" = none) (he : PRg X e te) (na : starEach [e] X.env = (false, eval e X.env) :: starEach [] X.env := by rfl) : PE X (.Call (.Name "tuple" p) [e] [] pos) (tTupRgB te) := by
  refine ⟨fun pins s σ H Q I h => ?_⟩
  refine Call_ (ld_blt I hg hm boot_tuple (PyProof.Rows.callWith_type1 (args_cons (thn (he pins s σ H _ I h) fun x s1 ⟨r, a, b, t, u, v, H1, ex, hr, I1, ok, q⟩ => args_nil ?_) na) na))
  subst ex
  obtain ⟨b1, b2, b3, b4, b5⟩ := ok
  refine call_tuple_range (n := (b - a).toNat) (I1.ok.hd hc) hr (small_one b1 b2 b3 b4) (rangeSize_nat a b) b5 fun h' tk acc hk hi => ?_
  have I2 : Inv X pins σ H1 { s1 with heap := h', toks := tk } := I1.kept hk
  refine ⟨.ref h'.objs.size, _, I2.laid (t' := tk) (fun c o e => Heap.get?_push_of_some _ e) (Nat.le_refl _) (show ObjOk X.prog X.w _ _ _ (.frz _ (.tup (rgV a b))) from ⟨Heap.get?_push_size _ rfl, ?_, acc.toList, vals_rg hi, ?_⟩), rfl, q _ _ (I2.hok.fresh (Nat.le_refl _)) rfl⟩
  · rw [rgV_length, sizeLine_eq]; omega
  · rw [Array.toArray_toList]; exact IsTup.new _ _
/-- tuple(x), x a list or a tuple -/
theorem dtupOf {p pos : Pos} (hg : Gl X "tuple") (hm : X.mg "tuple" = none) (ha : PD X K a ta da) (na : starEach [a] X.env = (false, eval a X.env) :: starEach [] X.env := by rfl) :
    PD X K (.Call (.Name "tuple" p) [a] [] pos) (tThen ta (kTupB K)) (fun τ F => da τ fun d => ∃ xs, seqOf d = some xs ∧ F (.tuple xs)) := by
  have hK := ha.hK
  subst hK
  exact ⟨rfl, pe_tupleOfB hg hm ha.pe na, ⟨fun {_ _ _ _} R {F} h {Q} k => ha.se.run R h fun v H1 d e1 r1 h1 => by
    obtain ⟨xs, hs, hf⟩ := h1
    obtain ⟨p, vs, rfl, hk, hb⟩ := r1.seq (K := X.K) hs
    rcases hk with ⟨rfl, _, hk⟩ | ⟨rfl, _, hk⟩
    · exact .inl ⟨p, vs, rfl, hk, fun q o hq ho => k _ _ _ (e1.new (e1.free hq)) (.inl (.tup upd_same ho (hb.sm ((Sm.refl H1).new hq)))) hf⟩
    · exact .inr ⟨p, vs, rfl, hk, k _ H1 _ e1 r1 hf⟩⟩⟩
/-- tuple([..]) of a new list -/
theorem dtupOfL {p pos : Pos} (hg : Gl X "tuple") (hm : X.mg "tuple" = none) (ha : PLd X K a ta dl) (na : starEach [a] X.env = (false, eval a X.env) :: starEach [] X.env := by rfl) :
    PD X K (.Call (.Name "tuple" p) [a] [] pos) (tThen ta (kTupB K)) (fun τ F => dl τ fun xs => F (.tuple xs)) := by
  have hK := ha.hK
  subst hK
  exact ⟨rfl, pe_tupleOfB hg hm ha.pe na, ⟨fun {_ _ _ _} R {F} h {Q} k => ha.se.run R h fun p H1 vs xs hp e1 h1 hb hf =>
    .inl ⟨p, vs, rfl, .inl (.inl h1), fun q o hq ho => k _ _ _ (e1.new (e1.free hq)) (.inl (.tup upd_same ho (hb.sm ((Sm.refl H1).new hq)))) hf⟩⟩⟩
def rgD (n : Nat) : List PyData := (List.range n).map fun i => .int (i : Nat)
theorem bp_rg {H : Hp} {n : Int} : BpAll H (rgV 0 n) (rgD n.toNat) := by
  unfold rgV rgD
  rw [Int.sub_zero]
  have h : ∀ l : List Nat, BpAll H (l.map fun i => V.int (0 + (i : Nat))) (l.map fun i => PyData.int (i : Nat)) := by
    intro l
    induction l with
    | nil => exact .nil
    | cons x l ih => exact .cons (by
        show Bp H (V.int (0 + (x : Nat))) (PyData.int (x : Nat))
        rw [Int.zero_add]
        exact .int _) ih
  exact h _
theorem dtupRg {p p2 pos pos2 : Pos} (hc : X.calm = true) (hg : Gl X "tuple") (hm : X.mg "tuple" = none) (hg2 : Gl X "range") (hm2 : X.mg "range" = none) (ha : PD X K a ta da) (na : starEach [Expr.Call (.Name "range" p2) [a] [] pos2] X.env = (false, eval (Expr.Call (.Name "range" p2) [a] [] pos2) X.env) :: starEach [] X.env := by rfl) (na2 : starEach [a] X.env = (false, eval a X.env) :: starEach [] X.env := by rfl) :
    PD X K (.Call (.Name "tuple" p) [.Call (.Name "range" p2) [a] [] pos2] [] pos) (tTupRgB (tRg1 ta)) (fun τ F => da τ fun d => ∃ n : Int, d = .int n ∧ 0 ≤ n ∧ n ≤ 100000 ∧ F (.tuple (rgD n.toNat))) := by
  have hK := ha.hK
  subst hK
  exact ⟨rfl, pe_tupRgB hc hg hm (prg_1 hg2 hm2 ha.pe na2) na, ⟨fun {_ _ _ _} R {F} h {Q} k => ha.se.run R h fun v H1 d e1 r1 h1 => by
    obtain ⟨n, rfl, h0, hn, hf⟩ := h1
    exact ⟨n, r1.int, RgOk.of_le (by omega) (by omega) (by omega) (by omega), fun q o hq ho => k _ _ _ (e1.new (e1.free hq)) (.inl (.tup upd_same ho bp_rg)) hf⟩⟩⟩
theorem llistRg {p p2 pos pos2 : Pos} (hc : X.calm = true) (hg : Gl X "list") (hm : X.mg "list" = none) (hg2 : Gl X "range") (hm2 : X.mg "range" = none) (ha : PD X K a ta da) (na : starEach [Expr.Call (.Name "range" p2) [a] [] pos2] X.env = (false, eval (Expr.Call (.Name "range" p2) [a] [] pos2) X.env) :: starEach [] X.env := by rfl) (na2 : starEach [a] X.env = (false, eval a X.env) :: starEach [] X.env := by rfl) :
    PLd X K (.Call (.Name "list" p) [.Call (.Name "range" p2) [a] [] pos2] [] pos) (tLstRg (tRg1 ta)) (fun τ F => da τ fun d => ∃ n : Int, d = .int n ∧ 0 ≤ n ∧ n ≤ 100000 ∧ F (rgD n.toNat)) := by
  have hK := ha.hK
  subst hK
  exact ⟨rfl, pe_listRg hc hg hm (prg_1 hg2 hm2 ha.pe na2) na, ⟨fun {_ _ _ _} R {F} h {Q} k => ha.se.run R h fun v H1 d e1 r1 h1 => by
    obtain ⟨n, rfl, h0, hn, hf⟩ := h1
    exact ⟨n, r1.int, RgOk.of_le (by omega) (by omega) (by omega) (by omega), fun q hq => k q _ _ _ (e1.free hq) (e1.new (e1.free hq)) upd_same bp_rg hf⟩⟩⟩
end
def rListC (K : PySem.W.Frag) : List V → Hp → VK → Prop := fun xs H Q => ∃ p ys, xs = [.ref p] ∧ (SqL K H p ys ∨ SqT K H p ys) ∧ ∀ l, H l = none → Q (.ref l) (upd H l (.lst ys))
theorem scl_list {K : PySem.W.Frag} : SCL (rListC K) (fun ds F => ∃ d xs, ds = [d] ∧ seqOf d = some xs ∧ F xs) := ⟨fun {H vs ds F Q} r h k => by
  obtain ⟨d, xs, rfl, hs, hf⟩ := h
  obtain ⟨v, rfl, r1⟩ := rpOne r
  obtain ⟨p, ws, rfl, hk, hb⟩ := r1.seq (K := K) hs
  exact ⟨p, ws, rfl, hk.elim (fun z => .inl z.2.2) (fun z => .inr z.2.2), fun l hl => k l _ _ _ hl ((Sm.refl H).new hl) upd_same (hb.sm ((Sm.refl H).new hl)) hf⟩⟩
/-! ### sorted(set(x)) -/
section
variable {X : Cx} {K : PySem.W.Frag} {pos pos2 p p2 : Pos} {a : Expr} {ta : TE} {da : DTE}
def dSortI (da : DTE) : DTL := fun τ F => da τ fun d => ∃ ns : List Int, seqOf d = some (ns.map .int) ∧ ns.length < 64 ∧ ∀ rs : List Int, rs.Pairwise (· < ·) → (∀ k, k ∈ rs ↔ k ∈ ns) → F (rs.map .int)
theorem lsortI (hc : X.calm = true) (hg : Gl X "sorted") (hm : X.mg "sorted" = none) (hg2 : Gl X "set") (hm2 : X.mg "set" = none) (ha : PD X K a ta da)
    (na : starEach [Expr.Call (.Name "set" p2) [a] [] pos2] X.env = (false, eval (Expr.Call (.Name "set" p2) [a] [] pos2) X.env) :: starEach [] X.env := by rfl) (na2 : starEach [a] X.env = (false, eval a X.env) :: starEach [] X.env := by rfl) :
    PLd X K (.Call (.Name "sorted" p) [.Call (.Name "set" p2) [a] [] pos2] [] pos) (tCB (rSortedSet X.w) (tCons (tCB (rSetI K X.w) (tCons ta tNil)) tNil)) (dSortI da) := by
  have hK := ha.hK
  subst hK
  exact ⟨rfl, pe_callB (cr_sortedSet hc) hg hm (by decide +kernel) (pa_cons (pe_callTy (cr_setI hc) hg2 hm2 (by decide +kernel) (pa_cons ha.pe pa_nil na2) (by decide) (by decide) na2 rfl) pa_nil na) (by decide) (by decide) na rfl, ⟨fun {_ _ _ _} R {F} h {Q} k => ha.se.run R h fun v H1 d e1 r1 h1 => by
    obtain ⟨ns, hs, hl, hf⟩ := h1
    obtain ⟨q, vs, rfl, hk, hb⟩ := r1.seq (K := X.K) hs
    rw [hb.toInts] at hk
    refine ⟨q, ns, rfl, hk.elim (fun z => .inl z.2.2) (fun z => .inr z.2.2), by omega, fun s c hs2 hcn => ?_⟩
    have f1 : Sm H1 (upd H1 s (SetO X.w s (fun j => decide (j ∈ ns)) c)) := (Sm.refl H1).new hs2
    refine ⟨s, _, c, rfl, upd_same, by omega, fun rs p ps pm _ hp => k p _ _ _ (e1.free (f1.free hp)) ((e1.trans f1).new (e1.free (f1.free hp))) upd_same (BpAll.ints rs) (hf rs ps fun j => ?_)⟩
    rw [pm j]
    simp⟩⟩
def dSortD (da : DTE) : DTL := fun τ F => da τ fun d => ∃ ds, d = .list ds ∧ ds.length ≤ 1000 ∧ (∀ x ∈ ds, TupD x) ∧ PySem.W.AllAlike ds ∧
  ∀ rs : List PyData, (∃ sub : List PyData, sub.Sublist ds ∧ rs.Perm sub) → (∀ x ∈ ds, x ∈ rs) → rs.Pairwise (fun x y => PySem.W.dataLe false (fun z : PyData => z) x y = true) → F rs
theorem le_enc (x y : Addr × PyData) : leD x y = PySem.W.dataLe false (fun z : PyData => z) x.2 y.2 := rfl
theorem lsortD (hc : X.calm = true) (hu : X.A.units + 64 < cLine) (hg : Gl X "sorted") (hm : X.mg "sorted" = none) (hg2 : Gl X "set") (hm2 : X.mg "set" = none) (ha : PD X K a ta da)
    (na : starEach [Expr.Call (.Name "set" p2) [a] [] pos2] X.env = (false, eval (Expr.Call (.Name "set" p2) [a] [] pos2) X.env) :: starEach [] X.env := by rfl) (na2 : starEach [a] X.env = (false, eval a X.env) :: starEach [] X.env := by rfl) :
    PLd X K (.Call (.Name "sorted" p) [.Call (.Name "set" p2) [a] [] pos2] [] pos) (tCB (rSortD K X.w) (tCons (tCB (rSetD K X.w) (tCons ta tNil)) tNil)) (dSortD da) := by
  have hK := ha.hK
  subst hK
  exact ⟨rfl, pe_callB (cr_sortD hc hu) hg hm (by decide +kernel) (pa_cons (pe_callTy (cr_setD hc hu) hg2 hm2 (by decide +kernel) (pa_cons ha.pe pa_nil na2) (by decide) (by decide) na2 rfl) pa_nil na) (by decide) (by decide) na rfl, ⟨fun {_ _ _ _} R {F} h {Q} k => ha.se.run R h fun v H1 d e1 r1 h1 => by
    obtain ⟨ds, rfl, hl, ht, hal, hf⟩ := h1
    obtain ⟨q, vs, rfl, hk, hb⟩ := r1.seq (K := X.K) rfl
    have hk : SqL X.K H1 q vs := hk.elim (fun z => z.2.2) (fun z => nomatch z.1)
    refine ⟨q, vs, ds, rfl, hk, hb.dp, ht, hl, fun s L hs2 hsub hall hL => ?_⟩
    have f1 : Sm H1 (upd H1 s (SetDO X.w s (L.map (·.1)))) := (Sm.refl H1).new hs2
    obtain ⟨sub, hs3, hs4⟩ := hsub
    have hlen : L.length ≤ 1000 := by
      have := hs4.length_eq
      rw [List.length_map] at this
      have h2 := hs3.length_le
      omega
    have memD : ∀ z ∈ L, z.2 ∈ ds := fun z hz => (List.of_mem_zip (hL z hz).2).2
    have bpL : ∀ z ∈ L, Bp H1 (.ref z.1) z.2 := fun z hz => by
      obtain ⟨i, hi, e⟩ := List.getElem_of_mem (hL z hz).2
      rw [List.getElem_zip, Prod.mk.injEq] at e
      rw [List.length_zip] at hi
      obtain ⟨v, e1, e2⟩ := hb.at (i := i) (List.getElem?_eq_getElem (by omega))
      rw [List.getElem?_eq_getElem (by omega), e.1] at e1
      cases e1
      rw [e.2] at e2
      exact e2
    refine ⟨s, L, rfl, upd_same, fun z hz => ⟨((bpL z hz).sm f1).dp, (hL z hz).1.2⟩, fun x hx y hy => ?_, hlen, fun L' p pm pw hp => ?_⟩
    · obtain ⟨z, hz, rfl⟩ := List.mem_map.mp hx
      obtain ⟨z', hz', rfl⟩ := List.mem_map.mp hy
      exact hal _ (memD z hz) _ (memD z' hz')
    · have f2 := (e1.trans f1).new (o := .lst (L'.map fun q => V.ref q.1)) (e1.free (f1.free hp))
      have f3 := f1.new (o := .lst (L'.map fun q => V.ref q.1)) (f1.free hp)
      refine k p _ (L'.map fun q => V.ref q.1) (L'.map (·.2)) (e1.free (f1.free hp)) f2 upd_same ?_ (hf _ ⟨sub, hs3, (pm.map _).trans hs4⟩ (fun x hx => ((pm.map _).mem_iff).mpr (hall x hx)) ?_)
      · have : ∀ l : DL, (∀ z ∈ l, z ∈ L) → BpAll (upd (upd H1 s (SetDO X.w s (L.map (·.1)))) p (.lst (L'.map fun q => V.ref q.1))) (l.map fun q => V.ref q.1) (l.map (·.2)) := by
          intro l
          induction l with
          | nil => exact fun _ => .nil
          | cons z l ih => exact fun h => .cons ((bpL z (h z (by simp))).sm f3) (ih fun y hy => h y (by simp [hy]))
        exact this L' fun z hz => pm.mem_iff.mp hz
      · rw [List.pairwise_map]
        exact pw⟩⟩
end
end Wk
end

section
set_option Elab.async false
set_option linter.all false
set_option maxRecDepth 100000
set_option maxHeartbeats 4000000
namespace Wk
open PySem PySem.Spec PyProof.Rows L2
/-! ### targets -/
def dgName (i : Nat) : DG := fun d τ F => noL d = true ∧ F (τ.set i (some (.d d)))
def dgNil : DGs := fun xs τ F => xs = [] ∧ F τ
def dgCons (g : DG) (r : DGs) : DGs := fun xs τ F => ∃ x ys, xs = x :: ys ∧ g x τ fun τ' => r ys τ' F
def dgTup (n : Nat) (g : DGs) : DG := fun d τ F => ∃ xs, d = .tuple xs ∧ xs.length = n ∧ g xs τ F
theorem wipe_get (σ : L2.St) (vs : List Nat) (i : Nat) : (wipe σ vs)[i]? = if i ∈ vs ∧ i < σ.length then some none else σ[i]? := by
  induction vs with
  | nil => simp [wipe]
  | cons v vs ih =>
    show ((wipe σ vs).set v none)[i]? = _
    by_cases e : v = i
    · subst e
      by_cases hl : v < σ.length
      · rw [List.getElem?_set_self (by rw [wipe_length]; exact hl), if_pos ⟨by simp, hl⟩]
      · rw [if_neg (fun z => hl z.2), List.getElem?_eq_none (by rw [List.length_set, wipe_length]; omega), List.getElem?_eq_none (by omega)]
    · rw [List.getElem?_set_ne e, ih]
      have : (i ∈ v :: vs) ↔ i ∈ vs := by
        rw [List.mem_cons]
        exact ⟨fun h => h.elim (fun z => absurd z.symm e) id, .inr⟩
      simp only [this]
theorem wipe_set {σ : L2.St} {vs : List Nat} {i : Nat} {u : Option V} (h : i ∈ vs) : wipe (σ.set i u) vs = wipe σ vs := by
  apply List.ext_getElem?
  intro j
  rw [wipe_get, wipe_get, List.length_set]
  by_cases c : j ∈ vs ∧ j < σ.length
  · rw [if_pos c, if_pos c]
  · rw [if_neg c, if_neg c]
    by_cases e : i = j
    · subst e
      have : ¬ i < σ.length := fun z => c ⟨h, z⟩
      rw [List.getElem?_eq_none (by rw [List.length_set]; omega), List.getElem?_eq_none (by omega)]
    · rw [List.getElem?_set_ne e]
theorem wipe_wipe {σ : L2.St} {vs : List Nat} : wipe (wipe σ vs) vs = wipe σ vs := by
  apply List.ext_getElem?
  intro j
  rw [wipe_get, wipe_get, wipe_length]
  by_cases c : j ∈ vs ∧ j < σ.length
  · rw [if_pos c, if_pos c]
  · rw [if_neg c, if_neg c]
section
variable {P : Program} {w : World} {K : PySem.W.Frag}
theorem sg_name {i : Nat} : SG P w (gName i) [i] (dgName i) := ⟨fun {_ H _ _} R {v d F} r h {Q} k => k _ _ (R.setD r h.1) (Fr.setD (Sm.refl H)) (fun vs hv => wipe_set (hv i (by simp))) h.2⟩
theorem sgs_nil : SGs P w gNil [] dgNil := ⟨fun {_ H _ _} R {v d F} r h {Q} k => by
  obtain ⟨rfl, hf⟩ := h
  cases r
  exact ⟨rfl, k _ _ R (Fr.refl _ _) (fun _ _ => rfl) hf⟩⟩
theorem sgs_cons {g : TG} {gs : TGs} {ws vs : List Nat} {dg : DG} {dgs : DGs} (h1 : SG P w g ws dg) (h2 : SGs P w gs vs dgs) : SGs P w (gCons g gs) (ws ++ vs) (dgCons dg dgs) := ⟨fun {_ H _ _} R {v d F} r h {Q} k => by
  obtain ⟨x, ys, rfl, hf⟩ := h
  cases r with
  | cons a t =>
    refine ⟨_, _, rfl, h1.run R (.inl a) hf fun σ1 τ1 R1 f1 w1 hf => h2.run R1 t hf fun σ2 τ2 R2 f2 w2 hf => k σ2 τ2 R2 (f1.trans f2) (fun us hu => ?_) hf⟩
    rw [w2 us fun i hi => hu i (List.mem_append_right _ hi), w1 us fun i hi => hu i (List.mem_append_left _ hi)]⟩
theorem sg_tup {gs : TGs} {ws : List Nat} {dgs : DGs} {n : Nat} (h : SGs P w gs ws dgs) : SG P w (gTup K n gs) ws (dgTup n dgs) := ⟨fun {_ H _ _} R {v d F} r h1 {Q} k => by
  obtain ⟨xs, rfl, hl, hf⟩ := h1
  cases r.bp rfl with
  | tup a b c => exact ⟨_, _, rfl, .inl (.inr ⟨_, a⟩), by rw [c.len]; exact hl, h.run R c hf k⟩⟩
end
section
variable {X : Cx} {K : PySem.W.Frag} {pos : Pos} {e : Expr} {es : List Expr} {g : TG} {gs : TGs} {ws vs : List Nat} {dg : DG} {dgs : DGs}
theorem gname (i : Nat) {x : Str} (hN : X.N.Nodup) (hi : X.N[i]? = some x := by rfl) (hx : Loc X.env.scope x := by first | exact Or.inl rfl | exact Or.inr rfl) (hf : X.fn x = true ∨ X.env.scope.names.lookup x = some .local := by first | exact .inl rfl | exact .inr rfl | assumption) (hK : X.K = K := by rfl) : PGd X K (.Name x pos) (gName i) [i] (dgName i) := by
  have hK := hK
  subst hK
  exact ⟨rfl, pg_name hN hi hx hf, sg_name⟩
theorem gnil (hK : X.K = K := by rfl) : PGsd X K [] gNil [] dgNil := by
  have hK := hK
  subst hK
  exact ⟨rfl, pgs_nil, sgs_nil⟩
theorem gcons (h1 : PGd X K e g ws dg) (h2 : PGsd X K es gs vs dgs) (hs : (assignEach (e :: es) X.env).map (·.2) = assign e X.env :: (assignEach es X.env).map (·.2) := by rfl) : PGsd X K (e :: es) (gCons g gs) (ws ++ vs) (dgCons dg dgs) := by
  have hK := h1.hK
  subst hK
  exact ⟨rfl, pgs_cons h1.pe h2.pe hs, sgs_cons h1.se h2.se⟩
theorem gtup {k n : Nat} (hc : X.calm = true) (h : PGsd X K es gs ws dgs) (hn : (assignEach es X.env).length = n := by rfl) (hst : (assignEach es X.env).findIdx? (·.1) = none := by rfl) : PGd X K (.Tuple es k pos) (gTup K n gs) ws (dgTup n dgs) := by
  have hK := h.hK
  subst hK
  exact ⟨rfl, pg_tup hc h.pe hn hst, sg_tup h.se⟩
end
/-! ### a comprehension's turn -/
def dColl (xs : List PyData) (body : PyData → (List PyData → Prop) → Prop) (F : List PyData → Prop) : Prop :=
  ∃ W : Nat → List PyData → Prop, W 0 [] ∧ (∀ i acc x, W i acc → xs[i]? = some x → body x (fun ys => W (i + 1) (acc ++ ys))) ∧ ∀ acc, W xs.length acc → F acc
/-- what a turn gives, told item by item -/
theorem dColl_map {xs : List PyData} {body : PyData → (List PyData → Prop) → Prop} {F : List PyData → Prop} (f : PyData → List PyData) (h : ∀ x ∈ xs, ∀ R : List PyData → Prop, R (f x) → body x R) (hf : F (xs.flatMap f)) : dColl xs body F := by
  refine ⟨fun i acc => acc = (xs.take i).flatMap f, by simp, fun i acc x hw hx => ?_, fun acc hw => ?_⟩
  · refine h x (List.mem_of_getElem? hx) _ ?_
    show acc ++ f x = _
    rw [show acc = _ from hw, List.take_add_one, hx, List.flatMap_append]
    simp
  · rw [hw, List.take_length]
    exact hf
theorem dColl_enc {α : Type} {zs : List α} {enc : α → PyData} {body : PyData → (List PyData → Prop) → Prop} {F : List PyData → Prop} (g : α → List PyData) (h : ∀ z ∈ zs, ∀ R : List PyData → Prop, R (g z) → body (enc z) R) (hf : F (zs.flatMap g)) : dColl (zs.map enc) body F := by
  refine ⟨fun i acc => acc = (zs.take i).flatMap g, by simp, fun i acc x hw hx => ?_, fun acc hw => ?_⟩
  · rw [List.getElem?_map] at hx
    cases e : zs[i]? with
    | none => rw [e] at hx; cases hx
    | some z =>
      rw [e] at hx
      cases hx
      refine h z (List.mem_of_getElem? e) _ ?_
      show acc ++ g z = _
      rw [show acc = _ from hw, List.take_add_one, e, List.flatMap_append]
      simp
  · rw [List.length_map] at hw
    rw [hw, List.take_length]
    exact hf
/-- each turn one item -/
theorem dColl_one {α : Type} {zs : List α} {enc : α → PyData} {body : PyData → (List PyData → Prop) → Prop} {F : List PyData → Prop} (g : α → PyData) (h : ∀ z ∈ zs, ∀ R : List PyData → Prop, R [g z] → body (enc z) R) (hf : F (zs.map g)) : dColl (zs.map enc) body F := by
  refine dColl_enc (fun z => [g z]) h ?_
  have : ∀ l : List α, l.flatMap (fun z => [g z]) = l.map g := by
    intro l
    induction l with
    | nil => rfl
    | cons z l ih => rw [List.flatMap_cons, ih]; rfl
  rw [this]
  exact hf
/-- each turn one item, of which something is known -/
theorem dColl_rel {xs : List PyData} {body : PyData → (List PyData → Prop) → Prop} {F : List PyData → Prop} (G : PyData → PyData → Prop) (h : ∀ x ∈ xs, ∀ R : List PyData → Prop, (∀ y, G x y → R [y]) → body x R) (hf : ∀ ys : List PyData, ys.length = xs.length → (∀ (i : Nat) (x y : PyData), xs[i]? = some x → ys[i]? = some y → G x y) → F ys) : dColl xs body F := by
  refine ⟨fun i acc => acc.length = i ∧ ∀ (j : Nat) (x y : PyData), xs[j]? = some x → acc[j]? = some y → G x y, ⟨rfl, fun j x y _ hy => by simp at hy⟩, fun i acc x hw hx => ?_, fun acc hw => hf acc hw.1 hw.2⟩
  refine h x (List.mem_of_getElem? hx) _ fun y hg => ⟨by rw [List.length_append, hw.1]; rfl, fun j x2 y2 hx2 hy2 => ?_⟩
  by_cases c : j < acc.length
  · rw [List.getElem?_append_left c] at hy2
    exact hw.2 j x2 y2 hx2 hy2
  · rw [List.getElem?_append_right (by omega)] at hy2
    have : j - acc.length = 0 := by
      by_cases d : j - acc.length = 0
      · exact d
      · rw [List.getElem?_eq_none (by simp; omega)] at hy2
        cases hy2
    rw [this] at hy2
    have e : j = i := by omega
    subst e
    rw [hx] at hx2
    cases hx2
    simp at hy2
    subst hy2
    exact hg
def dBody (g : DG) (t : DTT) (e : DTE) (vs : List Nat) (τ : DSt) : PyData → (List PyData → Prop) → Prop := fun x R => g x (wipeD τ vs) fun τ2 => t τ2 fun b => if b = true then e τ2 fun y => noL y = true ∧ R [y] else R []
def dYes : DTT := fun _ F => F true
theorem st_yes {P : Program} {w : World} : ST P w tYes dYes := ⟨fun {_ H _ _} R {F} h {Q} k => k true H (Sm.refl H) h⟩
/-- the new list while it grows -/
def Acc (H1 : Hp) (D : Addr) (W : List PyData → Prop) (n : Nat) (H : Hp) : Prop := ∃ xs acc, Sm H1 H ∧ H D = some (.lst xs) ∧ BpAll H xs acc ∧ noLs acc = true ∧ acc.length ≤ n ∧ W acc
section
variable {P : Program} {w : World} {H0 H1 Hc : Hp} {σ : L2.St} {τ : DSt} {g : TG} {tt : TT} {te : TE} {dg : DG} {dt : DTT} {de : DTE} {ws vs : List Nat} {D : Addr} {x : V} {d : PyData}
theorem acc_add {H4 : Hp} {xs : List V} {acc : List PyData} {y : V} {z : PyData} {W : List PyData → Prop} {n : Nat} (hD : H1 D = none) (s : Sm H1 H4) (hl : H4 D = some (.lst xs)) (hb : BpAll H4 xs acc) (hn : noLs acc = true) (hz : acc.length ≤ n) (r : Rp H4 y z) (nz : noL z = true) (hW : W (acc ++ [z])) :
    Acc H1 D W (n + 1) (upd H4 D (.lst (xs ++ [y]))) := by
  have ht : ∀ a o ys, H4 a = some (.frz o (.tup ys)) → upd H4 D (.lst (xs ++ [y])) a = some (.frz o (.tup ys)) := fun a o ys q => by
    rw [upd_ne (fun e => by subst e; rw [hl] at q; cases q)]
    exact q
  have nn : noLs (acc ++ [z]) = true := noLs_app hn (by simp [noLs, nz])
  exact ⟨_, _, s.new hD, upd_same, bps_tup ht nn (hb.app (.cons (r.bp (noF_noL nz)) .nil)), nn, by rw [List.length_append]; simp; omega, hW⟩
theorem lc_step {W : List PyData → Prop} {n : Nat} {xs : List V} {acc : List PyData} (R : Rep P w H0 H1 σ τ) (hg : SG P w g ws dg) (hw : ∀ i ∈ ws, i ∈ vs) (ht : ST P w tt dt) (he : SE P w te de) (hD : H1 D = none) (s : Sm H1 Hc) (hl : Hc D = some (.lst xs)) (hb : BpAll Hc xs acc) (hn : noLs acc = true) (hz : acc.length ≤ n) (hz2 : n < 100000)
    (r : Rp Hc x d) (hh : dBody dg dt de vs τ d fun ys => W (acc ++ ys)) :
    g x (wipe σ vs) Hc fun σ2 H2 => wipe σ2 vs = wipe σ vs ∧ tt σ2 H2 fun b H3 => if b = true then te σ2 H3 fun y H4 => ∃ acc, H4 D = some (.lst acc) ∧ acc.length < sizeLine ∧ Acc H1 D W (n + 1) (upd H4 D (.lst (acc ++ [y]))) else Acc H1 D W (n + 1) H3 := by
  refine hg.run ((R.to s).wipe vs) r hh fun σ2 τ2 R2 _ w2 h2 => ⟨by rw [w2 vs hw, wipe_wipe], ht.run R2 h2 fun b H3 s3 h3 => ?_⟩
  cases b with
  | true =>
    refine he.run (R2.to s3) h3 fun y H4 z s4 ry hy => ?_
    have s5 := s3.trans s4
    exact ⟨xs, s5.lst hl, by rw [hb.len]; exact Nat.lt_of_lt_of_le (show acc.length < 100000 by omega) (by decide), acc_add hD (s.trans s5) (s5.lst hl) (hb.sm s5) hn hz ry hy.1 hy.2⟩
  | false =>
    have h3 : W (acc ++ []) := h3
    rw [List.append_nil] at h3
    exact ⟨xs, acc, s.trans s3, s3.lst hl, hb.sm s3, hn, by omega, h3⟩
/-- over a tuple or a list that an expression gives -/
def dLc (src : DTE) (g : DG) (t : DTT) (e : DTE) (vs : List Nat) (tup : Bool) : DTL := fun τ F => src τ fun d => ∃ xs, d = (if tup then .tuple xs else .list xs) ∧ xs.length ≤ 90000 ∧ dColl xs (dBody g t e vs τ) F
def dLcR (src : DTA) (g : DG) (t : DTT) (e : DTE) (vs : List Nat) : DTL := fun τ F => src τ fun ds => ∃ n : Nat, ds = [.int (n : Nat)] ∧ n ≤ 90000 ∧ dColl (rgD n) (dBody g t e vs τ) F
theorem sl_lcT {K : PySem.W.Frag} {tl : TE} {dl : DTE} (hl : SE P w tl dl) (hg : SG P w g ws dg) (hw : ∀ i ∈ ws, i ∈ vs) (ht : ST P w tt dt) (he : SE P w te de) : SL P w (tLc (iTup K tl) g tt te vs) (dLc dl dg dt de vs true) := ⟨fun {H0 H _ _} R {F} h {Q} k => hl.run R h fun v H1 d e1 r1 h1 => by
  obtain ⟨xs, rfl, hz, W, w0, ws2, wd⟩ := h1
  cases r1.bp rfl with
  | @tup a o us ds ha ho hb =>
    refine ⟨a, rfl, ⟨us, .inl (.inr ⟨_, ha⟩)⟩, fun D hD => lc_tup (xs := us) (fun i H' => Acc H1 D (W i) i H') ⟨[], [], (Sm.refl H1).new hD, upd_same, .nil, rfl, Nat.le_refl _, w0⟩ (fun i H' _ p => ?_) (fun i x H' hx p => ?_) (fun H' p => ?_)⟩
    · obtain ⟨_, _, s, _⟩ := p
      exact .inl (.inr ⟨_, s.tup ha⟩)
    · obtain ⟨ys, acc, s, p1, p2, p3, p4, p5⟩ := p
      obtain ⟨d, hd, hbx⟩ := hb.at' hx
      have hi := (List.getElem?_eq_some_iff.mp hd).1
      exact lc_step (R.to e1) hg hw ht he hD s p1 p2 p3 p4 (by omega) (.inl (hbx.sm s)) (ws2 i acc d p5 hd)
    · obtain ⟨ys, acc, s, p1, p2, p3, p4, p5⟩ := p
      rw [hb.len] at p5
      exact k D H' ys acc (e1.free hD) (e1.trans s) p1 p2 (wd acc p5)⟩
theorem sl_lcL {K : PySem.W.Frag} {tl : TE} {dl : DTE} (hl : SE P w tl dl) (hg : SG P w g ws dg) (hw : ∀ i ∈ ws, i ∈ vs) (ht : ST P w tt dt) (he : SE P w te de) : SL P w (tLc (iList K tl) g tt te vs) (dLc dl dg dt de vs false) := ⟨fun {H0 H _ _} R {F} h {Q} k => hl.run R h fun v H1 d e1 r1 h1 => by
  obtain ⟨xs, rfl, hz, W, w0, ws2, wd⟩ := h1
  cases r1.bp rfl with
  | @lst a us ds ha hb =>
    refine ⟨a, rfl, ⟨us, .inl (.inl ha)⟩, fun D hD => lc_list (xs := us) (fun i H' => Acc H1 D (W i) i H') ⟨[], [], (Sm.refl H1).new hD, upd_same, .nil, rfl, Nat.le_refl _, w0⟩ (fun i H' _ p => ?_) (fun i x H' hx p => ?_) (fun H' p => ?_)⟩
    · obtain ⟨_, _, s, _⟩ := p
      exact .inl (.inl (s.lst ha))
    · obtain ⟨ys, acc, s, p1, p2, p3, p4, p5⟩ := p
      obtain ⟨d, hd, hbx⟩ := hb.at' hx
      have hi := (List.getElem?_eq_some_iff.mp hd).1
      exact lc_step (R.to e1) hg hw ht he hD s p1 p2 p3 p4 (by omega) (.inl (hbx.sm s)) (ws2 i acc d p5 hd)
    · obtain ⟨ys, acc, s, p1, p2, p3, p4, p5⟩ := p
      rw [hb.len] at p5
      exact k D H' ys acc (e1.free hD) (e1.trans s) p1 p2 (wd acc p5)⟩
theorem rgD_at {n i : Nat} (h : i < n) : (rgD n)[i]? = some (.int (i : Nat)) := by
  unfold rgD
  rw [List.getElem?_map, List.getElem?_range h]
  rfl
theorem rgD_len {n : Nat} : (rgD n).length = n := by unfold rgD; rw [List.length_map, List.length_range]
theorem sl_lcR {ta : TA} {da : DTA} (hl : SA P w ta da) (hg : SG P w g ws dg) (hw : ∀ i ∈ ws, i ∈ vs) (ht : ST P w tt dt) (he : SE P w te de) : SL P w (tLc (iRng1 ta) g tt te vs) (dLcR da dg dt de vs) := ⟨fun {H0 H _ _} R {F} h {Q} k => hl.run R h fun v H1 d e1 r1 h1 => by
  obtain ⟨n, rfl, hz, W, w0, ws2, wd⟩ := h1
  obtain ⟨v, rfl, r2⟩ := rpOne r1
  refine ⟨n, by rw [r2.int], by omega, by omega, fun D hD => lc_range (lo := 0) (n := (n : Int).toNat) (fun i H' => Acc H1 D (W i) i H') ⟨[], [], (Sm.refl H1).new hD, upd_same, .nil, rfl, Nat.le_refl _, w0⟩ (fun i H' hi p => ?_) (fun H' p => ?_)⟩
  · obtain ⟨ys, acc, s, p1, p2, p3, p4, p5⟩ := p
    rw [Int.zero_add]
    have hi : i < n := by simpa using hi
    exact lc_step (R.to e1) hg hw ht he hD s p1 p2 p3 p4 (by omega) (.inl (.int _)) (ws2 i acc _ p5 (rgD_at hi))
  · obtain ⟨ys, acc, s, p1, p2, p3, p4, p5⟩ := p
    have p5 : W n acc := by simpa using p5
    refine k D H' ys acc (e1.free hD) (e1.trans s) p1 p2 (wd acc ?_)
    rw [rgD_len]
    exact p5⟩
end
section
variable {X : Cx} {K : PySem.W.Frag} {elt tg iter : Expr} {ifs : List Expr} {scope : Scope} {own : List (Str × Nat)} {pos : Pos} {tl : TE} {dl : DTE} {g : TG} {tt : TT} {te : TE} {dg : DG} {dt : DTT} {de : DTE} {ws : List Nat}
structure PTsd (X : Cx) (K : PySem.W.Frag) (ifs : List Expr) (t : TT) (d : DTT) : Prop where
  hK : X.K = K
  pe : PTs X ifs t
  se : ST X.prog X.w t d
theorem yes (hK : X.K = K := by rfl) : PTsd X K [] tYes dYes := by
  have hK := hK
  subst hK
  exact ⟨rfl, pts_nil, st_yes⟩
theorem only {c : Expr} (h : PTd X K c tt dt) : PTsd X K [c] tt dt := by
  have hK := h.hK
  subst hK
  exact ⟨rfl, pts_one h.pe, h.se⟩
/-- the parts of a comprehension, together -/
structure PLc (X : Cx) (K : PySem.W.Frag) (elt tg : Expr) (ifs : List Expr) (scope : Scope) (own : List (Str × Nat)) (g : TG) (tt : TT) (te : TE) (dg : DG) (dt : DTT) (de : DTE) : Prop where
  hK : X.K = K
  hc : X.calm = true
  hN : X.N.Nodup
  ok : BlkOk X.N X.env.scope scope own
  pg : ∀ (s : Shared) (H : Hp) (C : Addr) (cl : List (Str × Addr)) (fp : List Addr), PG (X.blk s H scope (compEnvC scope cl C X.env) fp) tg g
  pt : ∀ (s : Shared) (H : Hp) (C : Addr) (cl : List (Str × Addr)) (fp : List Addr), PTs (X.blk s H scope (compEnvC scope cl C X.env) fp) ifs tt
  pe : ∀ (s : Shared) (H : Hp) (C : Addr) (cl : List (Str × Addr)) (fp : List Addr), PE (X.blk s H scope (compEnvC scope cl C X.env) fp) elt te
  sg : ∃ ws, SG X.prog X.w g ws dg ∧ ∀ i ∈ ws, i ∈ own.map (·.2)
  st : ST X.prog X.w tt dt
  se : SE X.prog X.w te de
theorem plc (hc : X.calm = true) (hN : X.N.Nodup) (ok : BlkOk X.N X.env.scope scope own) (hg : ∀ (s : Shared) (H : Hp) (C : Addr) (cl : List (Str × Addr)) (fp : List Addr), PGd (X.blk s H scope (compEnvC scope cl C X.env) fp) K tg g ws dg) (hw : ∀ i ∈ ws, i ∈ own.map (·.2)) (ht : ∀ (s : Shared) (H : Hp) (C : Addr) (cl : List (Str × Addr)) (fp : List Addr), PTsd (X.blk s H scope (compEnvC scope cl C X.env) fp) K ifs tt dt) (he : ∀ (s : Shared) (H : Hp) (C : Addr) (cl : List (Str × Addr)) (fp : List Addr), PD (X.blk s H scope (compEnvC scope cl C X.env) fp) K elt te de) (hK : X.K = K := by rfl) :
    PLc X K elt tg ifs scope own g tt te dg dt de := by
  have hK := hK
  subst hK
  exact ⟨rfl, hc, hN, ok, fun a b c d e => (hg a b c d e).pe, fun a b c d e => (ht a b c d e).pe, fun a b c d e => (he a b c d e).pe, ⟨ws, (hg X.s_0 X.H_0 0 [] []).se, hw⟩, (ht X.s_0 X.H_0 0 [] []).se, (he X.s_0 X.H_0 0 [] []).se⟩
theorem lcT (hi : PD X K iter tl dl) (h : PLc X K elt tg ifs scope own g tt te dg dt de) (hs : ∀ x, foldedSetIterable iter X.env x = pure x := by intro _; rfl) : PLd X K (.ListComp elt [⟨tg, iter, ifs, 0⟩] scope pos) (tLc (iTup K tl) g tt te (own.map (·.2))) (dLc dl dg dt de (own.map (·.2)) true) := by
  have hK := hi.hK
  subst hK
  obtain ⟨ws, h1, h2⟩ := h.sg
  exact ⟨rfl, pe_lc h.hc h.hN (pi_tup hi.pe) h.ok h.pg h.pt h.pe hs, sl_lcT hi.se h1 h2 h.st h.se⟩
theorem lcL (hi : PD X K iter tl dl) (h : PLc X K elt tg ifs scope own g tt te dg dt de) (hs : ∀ x, foldedSetIterable iter X.env x = pure x := by intro _; rfl) : PLd X K (.ListComp elt [⟨tg, iter, ifs, 0⟩] scope pos) (tLc (iList K tl) g tt te (own.map (·.2))) (dLc dl dg dt de (own.map (·.2)) false) := by
  have hK := hi.hK
  subst hK
  obtain ⟨ws, h1, h2⟩ := h.sg
  exact ⟨rfl, pe_lc h.hc h.hN (pi_list hi.pe) h.ok h.pg h.pt h.pe hs, sl_lcL hi.se h1 h2 h.st h.se⟩
theorem lcR {a : Expr} {ta : TA} {da : DTA} {p pos2 : Pos} (hg : Gl X "range") (hm : X.mg "range" = none) (ha : PAd X K [a] ta da) (h : PLc X K elt tg ifs scope own g tt te dg dt de) (hst : starEach [a] X.env = [(false, eval a X.env)] := by rfl) (hs : ∀ x, foldedSetIterable (Expr.Call (.Name "range" p) [a] [] pos2) X.env x = pure x := by intro _; rfl) :
    PLd X K (.ListComp elt [⟨tg, .Call (.Name "range" p) [a] [] pos2, ifs, 0⟩] scope pos) (tLc (iRng1 ta) g tt te (own.map (·.2))) (dLcR da dg dt de (own.map (·.2))) := by
  have hK := ha.hK
  subst hK
  obtain ⟨ws, h1, h2⟩ := h.sg
  exact ⟨rfl, pe_lc h.hc h.hN (pi_range1 hg hm ha.pe hst) h.ok h.pg h.pt h.pe hs, sl_lcR ha.se h1 h2 h.st h.se⟩
end
end Wk
end

section
set_option Elab.async false
set_option linter.all false
set_option maxRecDepth 100000
set_option maxHeartbeats 4000000
namespace Wk
open PySem PySem.Spec PyProof.Rows L2
/-! ### xs.index(y) -/
def dIdxL (d0 d1 : DTE) : DTE := fun τ F => d0 τ fun d => ∃ ds : List PyData, d = .list ds ∧ d1 τ fun e => ∃ (j : Nat) (z : PyData), noF e = true ∧ SeqAt.shaped (.list ds) = true ∧ SeqAt.shaped e = true ∧ ds[j]? = some z ∧ PyData.eqv z e = true ∧
  (∀ (m : Nat) (z' : PyData), m < j → ds[m]? = some z' → PyData.eqv z' e = false) ∧ F (.int (j : Nat))
def dIdxT (d0 d1 : DTE) : DTE := fun τ F => d0 τ fun d => ∃ ns : List Int, d = .tuple (ns.map .int) ∧ d1 τ fun e => ∃ k : Int, e = .int k ∧ k ∈ ns ∧ F (.int (ns.idxOf k : Nat))
def tTIx (K : PySem.W.Frag) (to te : TE) : TE := fun σ H Q => to σ H fun x H1 => (∃ p o xs, x = .ref p ∧ H1 p = some (.frz o (.tup xs)) ∧ o.dict = none) ∧ te σ H1 fun y H2 => ∃ (p : Addr) (ns : List Int) (k : Int), x = .ref p ∧ y = .int k ∧ SqT K H2 p (ns.map V.int) ∧ k ∈ ns ∧ Q (.int (ns.idxOf k : Nat)) H2
section
variable {X : Cx} {K : PySem.W.Frag} {o e : Expr} {apos cpos : Pos} {to te : TE} {d0 d1 : DTE}
theorem dindexL (hu : X.A.units + 65 < cLine) (ho : PD X K o to d0) (he : PD X K e te d1) (hbase : attributeBase o "index" X.env (eval o X.env) = eval o X.env := by rfl)
    (hfew : ((backTo cpos (starEach (e :: []) X.env)).all (fun x => !x.1) && (backToKw cpos (keywordEach [] X.env)).all (fun x => x.1.isSome)
      && decide ((e :: ([] : List Expr)).length + ([] : List Keyword).length + (if ([] : List Keyword).isEmpty then 0 else 1) < 30)) = true := by rfl)
    (hline : (apos.endLine == cpos.line) = true := by rfl) (hs : starEach (e :: []) X.env = (false, eval e X.env) :: starEach [] X.env := by rfl) : PD X K (.Call (.Attribute o "index" apos) [e] [] cpos) (tBM K "list" (rIndexD K) to (tCons te tNil)) (dIdxL d0 d1) := by
  have hK := ho.hK
  subst hK
  exact ⟨rfl, pe_bm PySem.F.plainAttrs_list PySem.F.slot_list_index PySem.F.type_list_index (mt_indexD hu) ho.pe (pa_cons he.pe pa_nil hs) hbase hfew hline hs rfl, ⟨fun {_ _ _ _} R {F} h {Q} k => ho.se.run R h fun v H1 d e1 r1 h1 => by
    obtain ⟨ds, rfl, h1⟩ := h1
    cases r1.bp rfl with
    | @lst a us _ ha hb =>
      refine ⟨.inl ⟨rfl, us, .inl (.inl ha)⟩, he.se.run (R.to e1) h1 fun y H2 e e2 r2 h2 => ?_⟩
      obtain ⟨j, z, n1, s1, s2, hz, hq, hno, hf⟩ := h2
      exact ⟨a, y, e, ds, j, z, rfl, rfl, (Bp.lst (e2.lst ha) (hb.sm e2)).dp, (r2.bp n1).dp, s1, s2, hz, hq, hno, k _ H2 _ (e1.trans e2) (.inl (.int _)) hf⟩⟩⟩
theorem pe_tidx (ho : PE X o to) (he : PE X e te) (hbase : attributeBase o "index" X.env (eval o X.env) = eval o X.env := by rfl)
    (hfew : ((backTo cpos (starEach (e :: []) X.env)).all (fun x => !x.1) && (backToKw cpos (keywordEach [] X.env)).all (fun x => x.1.isSome)
      && decide ((e :: ([] : List Expr)).length + ([] : List Keyword).length + (if ([] : List Keyword).isEmpty then 0 else 1) < 30)) = true := by rfl)
    (hline : (apos.endLine == cpos.line) = true := by rfl) (hs : starEach (e :: []) X.env = (false, eval e X.env) :: starEach [] X.env := by rfl) : PE X (.Call (.Attribute o "index" apos) [e] [] cpos) (tTIx X.K to te) := by
  refine ⟨fun pins s σ H Q I h => ?_⟩
  refine wpAny_Call_method_late hbase hfew hline rfl (thn (ho.run pins s σ H _ I h) fun v s1 ⟨x, H1, I1, r1, ⟨p, ob, xs, ex, hp, hd⟩, q1⟩ => ?_)
  subst ex
  cases r1
  obtain ⟨g1, g2, its, g3, g4⟩ := I1.hok p _ hp
  obtain ⟨o2, g5, g6, _⟩ := g4
  have eo : o2 = ob := by
    rw [g1] at g5
    exact (Option.some.inj g5).symm
  subst eo
  refine ⟨"tuple", "tuple.index", PySem.F.plainAttrs_tuple, PySem.F.slot_tuple_index, PySem.F.type_tuple_index, ⟨o2, g1, g6⟩, fun a ea => ?_, ?_⟩
  · cases ea
    exact ⟨o2, g1, hd⟩
  · have hA := (pa_cons he pa_nil hs).run cpos pins s1 σ H1 (fun vs H2 => match vs with
      | [y] => ∃ (q : Addr) (ns : List Int) (k : Int), V.ref p = .ref q ∧ y = .int k ∧ SqT X.K H2 q (ns.map V.int) ∧ k ∈ ns ∧ Q (.int (ns.idxOf k : Nat)) H2
      | _ => False) I1 q1
    rw [hs] at hA ⊢
    refine Calls.callWith_builtin rfl (Calls.evalArgs_plain ?_)
    refine thn hA fun us s2 ⟨vs, H2, I2, r2, q2⟩ => ?_
    match vs, q2, r2 with
    | [y], q2, r2 =>
      obtain ⟨q, ns, k, eq, rfl, hq, hk, q2⟩ := q2
      exact mt_tupIndexI pins s2 σ H2 (.ref p) [.int k] (.ref p) us Q I2 rfl r2 ⟨q, ns, k, eq, rfl, hq, hk, q2⟩
    | [], q2, _ => exact False.elim q2
    | _ :: _ :: _, q2, _ => exact False.elim q2
theorem dindexT (ho : PD X K o to d0) (he : PD X K e te d1) (hbase : attributeBase o "index" X.env (eval o X.env) = eval o X.env := by rfl)
    (hfew : ((backTo cpos (starEach (e :: []) X.env)).all (fun x => !x.1) && (backToKw cpos (keywordEach [] X.env)).all (fun x => x.1.isSome)
      && decide ((e :: ([] : List Expr)).length + ([] : List Keyword).length + (if ([] : List Keyword).isEmpty then 0 else 1) < 30)) = true := by rfl)
    (hline : (apos.endLine == cpos.line) = true := by rfl) (hs : starEach (e :: []) X.env = (false, eval e X.env) :: starEach [] X.env := by rfl) : PD X K (.Call (.Attribute o "index" apos) [e] [] cpos) (tTIx K to te) (dIdxT d0 d1) := by
  have hK := ho.hK
  subst hK
  exact ⟨rfl, pe_tidx ho.pe he.pe hbase hfew hline hs, ⟨fun {_ _ _ _} R {F} h {Q} k => ho.se.run R h fun v H1 d e1 r1 h1 => by
    obtain ⟨ns, rfl, h1⟩ := h1
    cases r1.bp rfl with
    | @tup a ob us _ ha hd hb =>
      refine ⟨⟨a, ob, us, rfl, ha, hd⟩, he.se.run (R.to e1) h1 fun y H2 e e2 r2 h2 => ?_⟩
      obtain ⟨j, rfl, hj, hf⟩ := h2
      rw [hb.toInts] at ha
      exact ⟨a, ns, j, rfl, r2.int, .inl (.inr ⟨_, e2.tup ha⟩), hj, k _ H2 _ (e1.trans e2) (.inl (.int _)) hf⟩⟩⟩
end
/-! ### calls of one's own defs -/
def valOf : PyData → V
  | .int i => .int i
  | .bool b => .bl b
  | .str x => .str x
  | _ => .non
def spD (n : Nat) (G : List PyData → (PyData → Prop) → Prop) : Sp := fun vs H Q _ => vs.length = n ∧ ∃ ds F, RpAll H vs ds ∧ G ds F ∧ ∀ v H' d, Sm H H' → Rp H' v d → F d → Q v H'
def spL (n : Nat) (G : List PyData → (List PyData → Prop) → Prop) : Sp := fun vs H Q _ => vs.length = n ∧ ∃ ds F, RpAll H vs ds ∧ G ds F ∧ ∀ p H' xs zs, H p = none → Sm H H' → H' p = some (.lst xs) → BpAll H' xs zs → F zs → Q (.ref p) H'
/-- a def as callers have it: its defaults dds -/
def Own (P : Program) (w : World) (K : PySem.W.Frag) (mg : Str → Option Value) (base : Heap) (k : Nat) (x : Str) (dds : List PyData) (sp : Sp) : Prop :=
  ∃ f fd ps ds, FnOk P w K mg base CX0 k f fd ps sp ∧ mg x = some (.ref f) ∧ PySem.W.keepIn K (.ref f) = true ∧ Binds K fd ps ds ∧ Vals (dds.map valOf) ds ∧ ∀ H, RpAll H (dds.map valOf) dds
section
variable {X : Cx} {K : PySem.W.Frag} {k n : Nat} {x : Str} {dds : List PyData} {p pos : Pos} {e : Expr} {es : List Expr} {t : TA} {da : DTA}
theorem dcall {G : List PyData → (PyData → Prop) → Prop} (O : Own X.prog X.w X.K X.mg X.base k x dds (spD n G)) (hr : Room k X.A) (hg : Gl X x) (ha : PAd X K (e :: es) t da) (hdb : (x == ("__debug__" : Str)) = false := by decide) (he : starEach (e :: es) X.env = (false, eval e X.env) :: starEach es X.env := by rfl) (hpl : (backTo pos (starEach es X.env)).any (·.1) = false := by rfl) :
    PD X K (.Call (.Name x p) (e :: es) [] pos) (tCall (spD n G) (dds.map valOf) E0 t) (fun τ F => da τ fun as => (as ++ dds).length = n ∧ G (as ++ dds) F) := by
  have hK := ha.hK
  subst hK
  obtain ⟨f, fd, ps, ds, F, hm, hk, hb, hd, hdd⟩ := O
  refine ⟨rfl, pe_call F hr hg hm hk hb hd pass0 ha.pe hdb he hpl, ⟨fun {_ _ _ _} R {Fp} h {Q} k => ha.se.run R h fun vs H1 as e1 r1 h1 => ?_⟩⟩
  have r2 := RpAll.app r1 (hdd H1)
  exact ⟨by rw [r2.len]; exact h1.1, _, _, r2, h1.2, fun v H' d e2 r hf => k v H' d (e1.trans e2) r hf⟩
theorem lcall {G : List PyData → (List PyData → Prop) → Prop} (O : Own X.prog X.w X.K X.mg X.base k x dds (spL n G)) (hr : Room k X.A) (hg : Gl X x) (ha : PAd X K (e :: es) t da) (hdb : (x == ("__debug__" : Str)) = false := by decide) (he : starEach (e :: es) X.env = (false, eval e X.env) :: starEach es X.env := by rfl) (hpl : (backTo pos (starEach es X.env)).any (·.1) = false := by rfl) :
    PLd X K (.Call (.Name x p) (e :: es) [] pos) (tCall (spL n G) (dds.map valOf) E0 t) (fun τ F => da τ fun as => (as ++ dds).length = n ∧ G (as ++ dds) F) := by
  have hK := ha.hK
  subst hK
  obtain ⟨f, fd, ps, ds, F, hm, hk, hb, hd, hdd⟩ := O
  refine ⟨rfl, pe_call F hr hg hm hk hb hd pass0 ha.pe hdb he hpl, ⟨fun {_ _ _ _} R {Fp} h {Q} k => ha.se.run R h fun vs H1 as e1 r1 h1 => ?_⟩⟩
  have r2 := RpAll.app r1 (hdd H1)
  exact ⟨by rw [r2.len]; exact h1.1, _, _, r2, h1.2, fun p H' xs zs hp e2 hl hb hf => k p H' xs zs (e1.free hp) (e1.trans e2) hl hb hf⟩
end
/-! ### values to be stored -/
inductive AV where
  | d (x : PyData)
  | l (xs : List PyData)
  | n (kvs : List (PyData × PyData))
  | s (kvs : List (Int × Int))
def AV.at (p : Addr) : AV → DV
  | .d x => .d x
  | .l xs => .l p xs
  | .n kvs => .n p kvs
  | .s kvs => .s p kvs
def AV.fine : AV → Bool
  | .d x => noL x
  | .l xs => noLs xs
  | _ => true
abbrev DTV := DSt → (AV → Prop) → Prop
section
variable (P : Program) (w : World)
def AvOk (H H' : Hp) (v : V) : AV → Prop
  | .d d => Rp H' v d
  | .l ds => ∃ p xs, v = .ref p ∧ H p = none ∧ H' p = some (.lst xs) ∧ BpAll H' xs ds
  | .n kvs => ∃ p, v = .ref p ∧ H p = none ∧ NRep P w H' p kvs
  | .s kvs => ∃ p, v = .ref p ∧ H p = none ∧ H' p = some (.dK (kvs.map fun q => (Sum.inl q.1, V.int q.2)))
structure SV (te : TE) (dt : DTV) : Prop where
  run : ∀ {H0 H : Hp} {σ : L2.St} {τ : DSt}, Rep P w H0 H σ τ → ∀ {F : AV → Prop}, dt τ F → ∀ {Q : VK}, (∀ v H' a, Sm H H' → AvOk P w H H' v a → F a → Q v H') → te σ H Q
end
structure PV (X : Cx) (K : PySem.W.Frag) (e : Expr) (te : TE) (dt : DTV) : Prop where
  hK : X.K = K
  pe : PE X e te
  se : SV X.prog X.w te dt
def vD (d : DTE) : DTV := fun τ F => d τ fun x => F (.d x)
def vL (d : DTL) : DTV := fun τ F => d τ fun x => F (.l x)
section
variable {P : Program} {w : World} {te : TE}
theorem SE.v {d : DTE} (h : SE P w te d) : SV P w te (vD d) := ⟨fun {_ _ _ _} R {F} hh {Q} k => h.run R hh fun v H' d e r hf => k v H' (.d d) e r hf⟩
theorem SL.v {d : DTL} (h : SL P w te d) : SV P w te (vL d) := ⟨fun {_ _ _ _} R {F} hh {Q} k => h.run R hh fun p H' xs ds hp e hl hb hf => k _ H' (.l ds) e ⟨p, xs, rfl, hp, hl, hb⟩ hf⟩
theorem AvOk.sm {H H1 H2 : Hp} (e : Sm H1 H2) {v : V} {a : AV} (h : AvOk P w H H1 v a) : AvOk P w H H2 v a := by
  cases a with
  | d x => exact Rp.sm e h
  | l xs =>
    obtain ⟨p, ys, h1, h2, h3, h4⟩ := h
    exact ⟨p, ys, h1, h2, e.lst h3, h4.sm e⟩
  | n kvs =>
    obtain ⟨p, h1, h2, h3⟩ := h
    exact ⟨p, h1, h2, h3.sm e⟩
  | s kvs =>
    obtain ⟨p, h1, h2, h3⟩ := h
    refine ⟨p, h1, h2, ?_⟩
    rcases e p _ h3 with z | ⟨c, x, y, t, _, _, _, eq, _⟩
    · exact z
    · exfalso
      unfold feedO at eq
      simp only [HO.dK.injEq] at eq
      cases kvs with
      | nil => simp at eq
      | cons q r => simp at eq
/-- stored -/
theorem Rep.setA {H0 H H' : Hp} {σ : L2.St} {τ : DSt} (R : Rep P w H0 H σ τ) {i : Nat} {v : V} {a : AV} (e : Sm H H') (h : AvOk P w H H' v a) (hf : a.fine = true) : ∃ p, Rep P w H0 H' (σ.set i (some v)) (τ.set i (some (a.at p))) ∧ Fr τ H (τ.set i (some (a.at p))) H' := by
  cases a with
  | d x => exact ⟨0, (R.to e).setD h hf, Fr.setD e⟩
  | l xs =>
    obtain ⟨p, ys, rfl, h2, h3, h4⟩ := h
    exact ⟨p, R.setL e h2 h3 h4 hf, Fr.setN e h2 rfl⟩
  | n kvs =>
    obtain ⟨p, rfl, h2, h3⟩ := h
    exact ⟨p, (R.to e).set ⟨rfl, R.sm.free h2, h3⟩ fun q eq j y _ hy ey => by
      cases eq
      exact R.new_free h2 ⟨j, y, hy, ey⟩, Fr.setN e h2 rfl⟩
  | s kvs =>
    obtain ⟨p, rfl, h2, h3⟩ := h
    exact ⟨p, (R.to e).set ⟨rfl, R.sm.free h2, h3⟩ fun q eq j y _ hy ey => by
      cases eq
      exact R.new_free h2 ⟨j, y, hy, ey⟩, Fr.setN e h2 rfl⟩
end
theorem PD.v {X : Cx} {K : PySem.W.Frag} {e : Expr} {te : TE} {d : DTE} (h : PD X K e te d) : PV X K e te (vD d) := by
  have hK := h.hK
  subst hK
  exact ⟨rfl, h.pe, h.se.v⟩
theorem PLd.v {X : Cx} {K : PySem.W.Frag} {e : Expr} {te : TE} {d : DTL} (h : PLd X K e te d) : PV X K e te (vL d) := by
  have hK := h.hK
  subst hK
  exact ⟨rfl, h.pe, h.se.v⟩
/-! ### statements -/
def dSet (i : Nat) (d : DTV) : DS := fun D τ => d τ fun a => a.fine = true ∧ ∀ p, D.nx (τ.set i (some (a.at p)))
def dAsg (d : DTE) (g : DG) : DS := fun D τ => d τ fun x => g x τ D.nx
def dSeq (a b : DS) : DS := fun D τ => a { D with nx := b D } τ
def dNext : DS := fun D τ => D.nx τ
def dRet (d : DTE) : DS := fun D τ => d τ D.rt
def dRetL (d : DTL) : DS := fun D τ => d τ D.rl
def dRetV (i : Nat) : DS := fun D τ => ∃ p ds, τ[i]? = some (some (.l p ds)) ∧ D.rl ds
def dRetN : DS := fun D _ => D.rt .none
def dIfS (t : DTT) (a b : DS) : DS := fun D τ => t τ fun c => if c = true then a D τ else b D τ
def dDrop (d : DTE) : DS := fun D τ => d τ fun _ => D.nx τ
def dApp (i : Nat) (d : DTE) : DS := fun D τ => ∃ p xs, τ[i]? = some (some (.l p xs)) ∧ xs.length < 90000 ∧ d τ fun x => noL x = true ∧ D.nx (τ.set i (some (.l p (xs ++ [x]))))
def dExt (i : Nat) (d : DTL) : DS := fun D τ => ∃ p xs, τ[i]? = some (some (.l p xs)) ∧ d τ fun ys => noLs ys = true ∧ xs.length + ys.length < 90000 ∧ D.nx (τ.set i (some (.l p (xs ++ ys))))
def dWhile (t : DTT) (b : DS) : DS := fun D τ => ∃ W : Nat → DSt → Prop, (∃ m, W m τ) ∧ ∀ m τ', W m τ' → t τ' fun c => if c = true then b { D with nx := fun τ2 => ∃ m', m' < m ∧ W m' τ2, ct := fun τ2 => ∃ m', m' < m ∧ W m' τ2, bk := D.nx } τ' else D.nx τ'
/-- the items one after another -/
def dEach (xs : List PyData) (g : DG) (b : DS) (D : DE) (τ : DSt) (stay : DSt → Prop) : Prop :=
  ∃ W : Nat → DSt → Prop, W 0 τ ∧ (∀ i τ', i ≤ xs.length → W i τ' → stay τ') ∧ (∀ i x τ', xs[i]? = some x → W i τ' → g x τ' fun τ2 => b { D with nx := W (i + 1), ct := W (i + 1), bk := D.nx } τ2) ∧ ∀ τ', W xs.length τ' → D.nx τ'
def dForT (d : DTE) (g : DG) (b : DS) : DS := fun D τ => d τ fun x => ∃ xs, x = .tuple xs ∧ noLs xs = true ∧ dEach xs g b D τ fun _ => True
def dForL (d : DTL) (g : DG) (b : DS) : DS := fun D τ => d τ fun xs => noLs xs = true ∧ dEach xs g b D τ fun _ => True
def dForV (i : Nat) (g : DG) (b : DS) : DS := fun D τ => ∃ p xs, τ[i]? = some (some (.l p xs)) ∧ dEach xs g b D τ fun τ' => τ'[i]? = some (some (.l p xs))
def dForD (i : Nat) (g : DG) (b : DS) : DS := fun D τ => ∃ xs, τ[i]? = some (some (.d (.list xs))) ∧ noLs xs = true ∧ dEach xs g b D τ fun _ => True
def dForR (d : DTA) (g : DG) (b : DS) : DS := fun D τ => d τ fun ds => ∃ n : Nat, ds = [.int (n : Nat)] ∧ n ≤ 90000 ∧ dEach (rgD n) g b D τ fun _ => True
section
variable {P : Program} {w : World} {K : PySem.W.Frag} {te : TE} {g : TG} {ta : TA} {ws : List Nat} {dg : DG} {tt : TT} {dt : DTT} {a b : TS} {da db : DS}
theorem ss_set {i : Nat} {d : DTV} (h : SV P w te d) : SS P w (tAsg te (gName i)) (dSet i d) := ⟨fun {_ _ _ _} R {D} hh {E} W => h.run R hh fun v H' a e r hf => by
  obtain ⟨p, R2, f2⟩ := R.setA (i := i) e r hf.1
  exact W.nx _ H' _ R2 f2 (hf.2 p)⟩
theorem ss_asg {d : DTE} (h : SE P w te d) (hg : SG P w g ws dg) : SS P w (tAsg te g) (dAsg d dg) := ⟨fun {_ _ _ _} R {D} hh {E} W => h.run R hh fun v H' d e r hf => hg.run (R.to e) r hf fun σ' τ' R2 f2 _ hf => W.nx σ' H' τ' R2 ((Fr.sm e).trans f2) hf⟩
theorem ss_seq (h1 : SS P w a da) (h2 : SS P w b db) : SS P w (tSeq a b) (dSeq da db) := ⟨fun {_ _ _ _} R {D} hh {E} W => h1.run R hh ⟨fun σ' H' τ' R2 f2 h => h2.run R2 h (W.mono f2), W.bk, W.ct, W.rt, W.rl⟩⟩
theorem ss_next : SS P w tNext dNext := ⟨fun {_ H _ τ} R {D} hh {E} W => W.nx _ _ _ R (Fr.refl τ H) hh⟩
theorem ss_ret {d : DTE} (h : SE P w te d) : SS P w (tRet te) (dRet d) := ⟨fun {_ _ _ _} R {D} hh {E} W => h.run R hh fun v H' d e r hf => W.rt v H' d (R.sm.trans e) r hf⟩
theorem ss_retL {d : DTL} (h : SL P w te d) : SS P w (tRet te) (dRetL d) := ⟨fun {_ _ _ _} R {D} hh {E} W => h.run R hh fun p H' xs ds hp e hl hb hf => W.rl p H' xs ds (R.sm.free hp) (R.sm.trans e) hl hb hf⟩
theorem ss_retV {i : Nat} : SS P w (tRet (tVar i)) (dRetV i) := ⟨fun {_ H _ _} R {D} hh {E} W => by
  obtain ⟨p, ds, hx, hf⟩ := hh
  obtain ⟨u, hu, rfl, h0, xs, hl, hb, _⟩ := R.slot i _ hx
  exact ⟨.ref p, hu, W.rl p H xs ds h0 R.sm hl hb hf⟩⟩
theorem ss_retN : SS P w tRetN dRetN := ⟨fun {_ H _ _} R {D} hh {E} W => W.rt .non H .none R.sm (.inl .non) hh⟩
theorem ss_if (ht : ST P w tt dt) (h1 : SS P w a da) (h2 : SS P w b db) : SS P w (tIfS tt a b) (dIfS dt da db) := ⟨fun {_ _ _ _} R {D} hh {E} W => ht.run R hh fun c H' e hf => by
  cases c with
  | true => exact h1.run (R.to e) hf (W.mono (Fr.sm e))
  | false => exact h2.run (R.to e) hf (W.mono (Fr.sm e))⟩
theorem ss_drop {d : DTE} (h : SE P w te d) : SS P w (tDrop te) (dDrop d) := ⟨fun {_ _ _ _} R {D} hh {E} W => h.run R hh fun v H' d e r hf => W.nx _ H' _ (R.to e) (Fr.sm e) hf⟩
theorem ss_app {i : Nat} {d : DTE} (h : SE P w te d) : SS P w (tDrop (tBM K "list" rAppend (tVar i) (tCons te tNil))) (dApp i d) := ⟨fun {_ H _ τ} R {D} hh {E} W => by
  obtain ⟨p, xs, hx, hz, hf⟩ := hh
  obtain ⟨u, hu, rfl, h0, ys, hl, hb, hn⟩ := R.slot i _ hx
  refine ⟨.ref p, hu, .inl ⟨rfl, ys, .inl (.inl hl)⟩, h.run R hf fun v H' d e r hf => ?_⟩
  obtain ⟨nd, hf⟩ := hf
  refine ⟨p, ys, v, rfl, rfl, e.lst hl, by rw [hb.len]; exact Nat.lt_of_lt_of_le hz (by decide), ?_⟩
  have ht : ∀ a o zs, H' a = some (.frz o (.tup zs)) → upd H' p (.lst (ys ++ [v])) a = some (.frz o (.tup zs)) := fun a o zs q => by
    rw [upd_ne (fun z => by subst z; rw [e.lst hl] at q; cases q)]
    exact q
  have nn : noLs (xs ++ [d]) = true := noLs_app hn (by simp [noLs, nd])
  refine W.nx _ _ _ ((R.to e).write hx rfl (y := .l p (xs ++ [d])) rfl ⟨rfl, h0, _, upd_same, bps_tup ht nn ((hb.sm e).app (.cons (r.bp (noF_noL nd)) .nil)), nn⟩) ((Fr.sm e).trans (Fr.write hx rfl rfl)) hf⟩
theorem ss_ext {i : Nat} {d : DTL} (h : SL P w te d) : SS P w (tDrop (tBM K "list" rExtend (tVar i) (tCons te tNil))) (dExt i d) := ⟨fun {_ H _ τ} R {D} hh {E} W => by
  obtain ⟨p, xs, hx, hf⟩ := hh
  obtain ⟨u, hu, rfl, h0, ys, hl, hb, hn⟩ := R.slot i _ hx
  refine ⟨.ref p, hu, .inl ⟨rfl, ys, .inl (.inl hl)⟩, h.run R hf fun q H' us ds hq e hl2 hb2 hf => ?_⟩
  obtain ⟨nd, hz, hf⟩ := hf
  refine ⟨p, q, ys, us, rfl, rfl, e.lst hl, hl2, by rw [hb.len, hb2.len]; exact Nat.le_of_lt (Nat.lt_of_lt_of_le hz (by decide)), ?_⟩
  have ht : ∀ a o zs, H' a = some (.frz o (.tup zs)) → upd H' p (.lst (ys ++ us)) a = some (.frz o (.tup zs)) := fun a o zs q => by
    rw [upd_ne (fun z => by subst z; rw [e.lst hl] at q; cases q)]
    exact q
  have nn : noLs (xs ++ ds) = true := noLs_app hn nd
  refine W.nx _ _ _ ((R.to e).write hx rfl (y := .l p (xs ++ ds)) rfl ⟨rfl, h0, _, upd_same, bps_tup ht nn ((hb.sm e).app hb2), nn⟩) ((Fr.sm e).trans (Fr.write hx rfl rfl)) hf⟩
theorem ss_while (ht : ST P w tt dt) (hb : SS P w b db) : SS P w (tWhile tt b) (dWhile dt db) := ⟨fun {H0 H σ τ} R {D} hh {E} W => by
  obtain ⟨V, ⟨m0, v0⟩, turn⟩ := hh
  refine ⟨fun m σ' H' => ∃ τ', Rep P w H0 H' σ' τ' ∧ Fr τ H τ' H' ∧ V m τ', ⟨m0, τ, R, Fr.refl _ _, v0⟩, ?_⟩
  rintro m σ1 H1 ⟨τ1, R1, f1, v1⟩
  refine ht.run R1 (turn m τ1 v1) fun c H2 e hf => ?_
  cases c with
  | true =>
    refine ⟨fun σ3 H3 => ∃ m', m' < m ∧ ∃ τ3, Rep P w H0 H3 σ3 τ3 ∧ Fr τ H τ3 H3 ∧ V m' τ3, fun σ3 H3 ⟨m', hm, r⟩ => ⟨m', hm, r⟩, ?_⟩
    refine hb.run (R1.to e) hf ⟨fun σ3 H3 τ3 R3 f3 h3 => ?_, fun σ3 H3 τ3 R3 f3 h3 => W.nx _ _ _ R3 ((f1.trans (Fr.sm e)).trans f3) h3, fun σ3 H3 τ3 R3 f3 h3 => ?_, W.rt, W.rl⟩
    · obtain ⟨m', hm, v3⟩ := h3
      exact ⟨m', hm, τ3, R3, (f1.trans (Fr.sm e)).trans f3, v3⟩
    · obtain ⟨m', hm, v3⟩ := h3
      exact ⟨m', hm, τ3, R3, (f1.trans (Fr.sm e)).trans f3, v3⟩
  | false => exact W.nx _ _ _ (R1.to e) (f1.trans (Fr.sm e)) hf⟩
/-- one turn of a for -/
theorem each_turn {H0 H1 H' : Hp} {τ τ' : DSt} {σ' : L2.St} {Wi : Nat → DSt → Prop} {D : DE} {E : Ends} {i : Nat} {v : L2.V} {x : PyData} (W : Way P w H0 H1 τ D E) (hg : SG P w g ws dg) (hb : SS P w b db) (R' : Rep P w H0 H' σ' τ') (f' : Fr τ H1 τ' H') (r : Rp H' v x)
    (h : dg x τ' fun τ2 => db { D with nx := Wi (i + 1), ct := Wi (i + 1), bk := D.nx } τ2) :
    g v σ' H' fun σ2 H2 => b { E with nx := fun σ3 H3 => ∃ τ3, Rep P w H0 H3 σ3 τ3 ∧ Fr τ H1 τ3 H3 ∧ Wi (i + 1) τ3, ct := fun σ3 H3 => ∃ τ3, Rep P w H0 H3 σ3 τ3 ∧ Fr τ H1 τ3 H3 ∧ Wi (i + 1) τ3, bk := E.nx } σ2 H2 :=
  hg.run R' r h fun σ2 τ2 R2 f2 _ h2 => hb.run R2 h2 ⟨fun σ3 H3 τ3 R3 f3 h3 => ⟨τ3, R3, (f'.trans f2).trans f3, h3⟩, fun σ3 H3 τ3 R3 f3 h3 => W.nx _ _ _ R3 ((f'.trans f2).trans f3) h3, fun σ3 H3 τ3 R3 f3 h3 => ⟨τ3, R3, (f'.trans f2).trans f3, h3⟩, W.rt, W.rl⟩
theorem ss_forT {d : DTE} (h : SE P w te d) (hg : SG P w g ws dg) (hb : SS P w b db) : SS P w (tFor (iTup K te) g b) (dForT d dg db) := ⟨fun {H0 H σ τ} R {D} hh {E} W => h.run R hh fun v H1 d e r hf => by
  obtain ⟨xs, rfl, nx, V, v0, _, turn, vd⟩ := hf
  cases r.bp rfl with
  | @tup a o us _ ha ho hbx =>
    refine ⟨a, rfl, ⟨us, .inl (.inr ⟨_, ha⟩)⟩, for_tup (xs := us) (D := E) (fun i σ' H' => ∃ τ', Rep P w H0 H' σ' τ' ∧ Fr τ H1 τ' H' ∧ V i τ') ⟨τ, R.to e, Fr.refl _ _, v0⟩ (fun i σ' H' _ p => ?_) (fun i x σ' H' hx p => ?_) (fun σ' H' p => ?_)⟩
    · obtain ⟨τ', R', f', _⟩ := p
      exact .inl (.inr ⟨_, (f' a _ ha (fun _ z => nomatch z) ((R.to e).tup_free ha)).1⟩)
    · obtain ⟨τ', R', f', v'⟩ := p
      obtain ⟨y, hy, by_⟩ := hbx.at' hx
      have ny : noL y = true := (noLs_iff xs).mp nx y (List.mem_of_getElem? hy)
      exact each_turn (W.mono (Fr.sm e)) hg hb R' f' (.inl (bp_fr (R.to e) f' ny by_)) (turn i y τ' hy v')
    · obtain ⟨τ', R', f', v'⟩ := p
      rw [hbx.len] at v'
      exact W.nx _ _ _ R' ((Fr.sm e).trans f') (vd τ' v')⟩
theorem ss_forL {d : DTL} (h : SL P w te d) (hg : SG P w g ws dg) (hb : SS P w b db) : SS P w (tFor (iList K te) g b) (dForL d dg db) := ⟨fun {H0 H σ τ} R {D} hh {E} W => h.run R hh fun a H1 us xs ha0 e ha hbx hf => by
  obtain ⟨nx, V, v0, _, turn, vd⟩ := hf
  refine ⟨a, rfl, ⟨us, .inl (.inl ha)⟩, for_list (xs := us) (D := E) (fun i σ' H' => ∃ τ', Rep P w H0 H' σ' τ' ∧ Fr τ H1 τ' H' ∧ V i τ') ⟨τ, R.to e, Fr.refl _ _, v0⟩ (fun i σ' H' _ p => ?_) (fun i x σ' H' hx p => ?_) (fun σ' H' p => ?_)⟩
  · obtain ⟨τ', R', f', _⟩ := p
    exact .inl (.inl (f' a _ ha (fun _ z => nomatch z) (R.new_free ha0)).1)
  · obtain ⟨τ', R', f', v'⟩ := p
    obtain ⟨y, hy, by_⟩ := hbx.at' hx
    have ny : noL y = true := (noLs_iff xs).mp nx y (List.mem_of_getElem? hy)
    exact each_turn (W.mono (Fr.sm e)) hg hb R' f' (.inl (bp_fr (R.to e) f' ny by_)) (turn i y τ' hy v')
  · obtain ⟨τ', R', f', v'⟩ := p
    rw [hbx.len] at v'
    exact W.nx _ _ _ R' ((Fr.sm e).trans f') (vd τ' v')⟩
theorem ss_forV {j : Nat} (hg : SG P w g ws dg) (hb : SS P w b db) : SS P w (tFor (iList K (tVar j)) g b) (dForV j dg db) := ⟨fun {H0 H σ τ} R {D} hh {E} W => by
  obtain ⟨p, xs, hx, V, v0, st, turn, vd⟩ := hh
  obtain ⟨u, hu, rfl, h0, us, hl, hbx, nx⟩ := R.slot j _ hx
  refine ⟨.ref p, hu, p, rfl, ⟨us, .inl (.inl hl)⟩, fun i m σ' H' => m = xs.length - i ∧ i ≤ xs.length ∧ ∃ τ', Rep P w H0 H' σ' τ' ∧ Fr τ H τ' H' ∧ V i τ', ⟨xs.length, by simp, Nat.zero_le _, τ, R, Fr.refl _ _, v0⟩, ?_⟩
  rintro i m σ' H' ⟨rfl, hi, τ', R', f', v'⟩
  obtain ⟨u', _, _, _, us', hl', hb', _⟩ := R'.slot j _ (st i τ' hi v')
  have e1 := hb'.len
  by_cases hlt : i < xs.length
  · refine .inr ⟨⟨us', us'[i]'(by omega), .inl (.inl hl'), List.getElem?_eq_getElem _⟩, fun σ3 H3 => ∃ τ3, Rep P w H0 H3 σ3 τ3 ∧ Fr τ H τ3 H3 ∧ V (i + 1) τ3, fun σ3 H3 p3 => ⟨xs.length - (i + 1), by omega, rfl, hlt, p3⟩, fun x H2 y => ?_⟩
    obtain ⟨e, y⟩ := y
    subst e
    have hx2 := y us' (.inl (.inl hl'))
    obtain ⟨z, hz, bz⟩ := hb'.at' hx2
    exact each_turn W hg hb R' f' (.inl bz) (turn i z τ' hz v')
  · have : i = xs.length := by omega
    subst this
    exact .inl ⟨⟨us', .inl (.inl hl'), by omega⟩, W.nx _ _ _ R' f' (vd τ' v')⟩⟩
theorem ss_forD {j : Nat} (hg : SG P w g ws dg) (hb : SS P w b db) : SS P w (tFor (iList K (tVar j)) g b) (dForD j dg db) := ⟨fun {H0 H σ τ} R {D} hh {E} W => by
  obtain ⟨xs, hx, nx, V, v0, st, turn, vd⟩ := hh
  obtain ⟨u, hu, v, rfl, r, hs⟩ := R.slot j _ hx
  have r0 : Rp H0 v (.list xs) := hs.resolve_left (by simp [noL])
  cases r0.bp rfl with
  | @lst a us _ ha hbx =>
    refine ⟨.ref a, hu, a, rfl, ⟨us, .inl (.inl (R.sm.lst ha))⟩, for_list (xs := us) (D := E) (fun i σ' H' => ∃ τ', Rep P w H0 H' σ' τ' ∧ Fr τ H τ' H' ∧ V i τ') ⟨τ, R, Fr.refl _ _, v0⟩ (fun i σ' H' hi q => ?_) (fun i x σ' H' hx q => ?_) (fun σ' H' q => ?_)⟩
    · obtain ⟨τ', R', f', v'⟩ := q
      exact .inl (.inl (R'.sm.lst ha))
    · obtain ⟨τ', R', f', v'⟩ := q
      obtain ⟨y, hy, by_⟩ := hbx.at' hx
      exact each_turn W hg hb R' f' (.inl (by_.sm R'.sm)) (turn i y τ' hy v')
    · obtain ⟨τ', R', f', v'⟩ := q
      rw [hbx.len] at v'
      exact W.nx _ _ _ R' f' (vd τ' v')⟩
theorem ss_forR {d : DTA} (h : SA P w ta d) (hg : SG P w g ws dg) (hb : SS P w b db) : SS P w (tFor (iRng1 ta) g b) (dForR d dg db) := ⟨fun {H0 H σ τ} R {D} hh {E} W => h.run R hh fun vs H1 ds e r hf => by
  obtain ⟨n, rfl, hn, V, v0, _, turn, vd⟩ := hf
  obtain ⟨v, rfl, r2⟩ := rpOne r
  refine ⟨n, by rw [r2.int], by omega, by omega, for_range (lo := 0) (n := (n : Int).toNat) (D := E) (fun i σ' H' => ∃ τ', Rep P w H0 H' σ' τ' ∧ Fr τ H1 τ' H' ∧ V i τ') ⟨τ, R.to e, Fr.refl _ _, v0⟩ (fun i σ' H' hi p => ?_) (fun σ' H' p => ?_)⟩
  · obtain ⟨τ', R', f', v'⟩ := p
    rw [Int.zero_add]
    exact each_turn (W.mono (Fr.sm e)) hg hb R' f' (.inl (.int _)) (turn i _ τ' (rgD_at (by simpa using hi)) v')
  · obtain ⟨τ', R', f', v'⟩ := p
    refine W.nx _ _ _ R' ((Fr.sm e).trans f') (vd τ' ?_)
    rw [rgD_len]
    simpa using v'⟩
end
section
variable {X : Cx} {K : PySem.W.Frag} {pos pos' : Pos} {x : Str} {e tg : Expr} {te : TE} {g : TG} {ta : TA} {ws : List Nat} {dg : DG} {tt : TT} {dt : DTT} {a b : TS} {da db : DS} {st : Stmt} {rest body sa sb : List Stmt}
theorem dset (i : Nat) {d : DTV} (hN : X.N.Nodup) (he : PV X K e te d) (hi : X.N[i]? = some x := by rfl) (hx : Loc X.env.scope x := by first | exact Or.inl rfl | exact Or.inr rfl) (hs : swapsWith e (some (.Name x pos')) pos.line X.env = pure false := by rfl) (hf : X.fn x = true ∨ X.env.scope.names.lookup x = some .local := by first | exact .inl rfl | exact .inr rfl | assumption) :
    PSd X K (.Assign [.Name x pos'] e pos) (tAsg te (gName i)) (dSet i d) := by
  have hK := he.hK
  subst hK
  exact ⟨rfl, ps_set hN hi hx he.pe hs hf, ss_set he.se⟩
theorem dasg {d : DTE} (he : PD X K e te d) (hg : PGd X K tg g ws dg) (hs : swapsWithSole [tg] e pos.line X.env = pure false := by rfl) (hw : swappedStores [tg] e X.env = pure none := by rfl) (h1 : (assignEach [tg] X.env).map (·.2) = [assign tg X.env] := by rfl) : PSd X K (.Assign [tg] e pos) (tAsg te g) (dAsg d dg) := by
  have hK := he.hK
  subst hK
  exact ⟨rfl, ps_asg he.pe hg.pe hs hw h1, ss_asg he.se hg.se⟩
theorem dseq (h1 : PSd X K st a da) (h2 : PSsd X K rest b db) : PSsd X K (st :: rest) (tSeq a b) (dSeq da db) := by
  have hK := h1.hK
  subst hK
  exact ⟨rfl, pss_cons h1.pe h2.pe, ss_seq h1.se h2.se⟩
theorem dlast (h1 : PSd X K st a da) : PSsd X K [st] a da := by
  have hK := h1.hK
  subst hK
  exact ⟨rfl, pss_one h1.pe, h1.se⟩
theorem dnil (hK : X.K = K := by rfl) : PSsd X K [] tNext dNext := by
  have hK := hK
  subst hK
  exact ⟨rfl, pss_nil, ss_next⟩
theorem dret {d : DTE} (he : PD X K e te d) : PSd X K (.Return (some e) pos) (tRet te) (dRet d) := by
  have hK := he.hK
  subst hK
  exact ⟨rfl, ps_ret he.pe, ss_ret he.se⟩
theorem dretL {d : DTL} (he : PLd X K e te d) : PSd X K (.Return (some e) pos) (tRet te) (dRetL d) := by
  have hK := he.hK
  subst hK
  exact ⟨rfl, ps_ret he.pe, ss_retL he.se⟩
theorem dretV (i : Nat) (hN : X.N[i]? = some x := by rfl) (hv : Vis X.env.scope x := by first | exact Or.inl rfl | exact Or.inr (Or.inl rfl) | exact Or.inr (Or.inr rfl)) (hd : (x == ("__debug__" : Str)) = false := by decide)
    (hcd : (x == ("__classdict__" : Str)) = false := by decide) (hK : X.K = K := by rfl) : PSd X K (.Return (some (.Name x pos')) pos) (tRet (tVar i)) (dRetV i) := by
  have hK := hK
  subst hK
  exact ⟨rfl, ps_ret (pe_var hN hv hd hcd), ss_retV⟩
theorem dretN (hK : X.K = K := by rfl) : PSd X K (.Return none pos) tRetN dRetN := by
  have hK := hK
  subst hK
  exact ⟨rfl, ps_retN, ss_retN⟩
theorem difS {c : Expr} (hc : PTd X K c tt dt) (h1 : PSsd X K sa a da) (h2 : PSsd X K sb b db) : PSd X K (.If c sa sb pos) (tIfS tt a b) (dIfS dt da db) := by
  have hK := hc.hK
  subst hK
  exact ⟨rfl, ps_if hc.pe h1.pe h2.pe, ss_if hc.se h1.se h2.se⟩
theorem dexpr {d : DTE} (he : PD X K e te d) (hs : swapsWith e none pos.line X.env = pure false := by rfl) : PSd X K (.Expr e pos) (tDrop te) (dDrop d) := by
  have hK := he.hK
  subst hK
  exact ⟨rfl, ps_expr he.pe hs, ss_drop he.se⟩
theorem dappend (i : Nat) {d : DTE} {apos cpos : Pos} (he : PD X K e te d) (hN : X.N[i]? = some x := by rfl) (hv : Vis X.env.scope x := by first | exact Or.inl rfl | exact Or.inr (Or.inl rfl) | exact Or.inr (Or.inr rfl)) (hd : (x == ("__debug__" : Str)) = false := by decide)
    (hcd : (x == ("__classdict__" : Str)) = false := by decide) (hbase : attributeBase (.Name x pos') "append" X.env (eval (.Name x pos') X.env) = eval (.Name x pos') X.env := by rfl)
    (hfew : ((backTo cpos (starEach (e :: []) X.env)).all (fun x => !x.1) && (backToKw cpos (keywordEach [] X.env)).all (fun x => x.1.isSome)
      && decide ((e :: ([] : List Expr)).length + ([] : List Keyword).length + (if ([] : List Keyword).isEmpty then 0 else 1) < 30)) = true := by rfl)
    (hline : (apos.endLine == cpos.line) = true := by rfl) (hs : starEach (e :: []) X.env = (false, eval e X.env) :: starEach [] X.env := by rfl) (hs2 : swapsWith (.Call (.Attribute (.Name x pos') "append" apos) [e] [] cpos) none pos.line X.env = pure false := by rfl) :
    PSd X K (.Expr (.Call (.Attribute (.Name x pos') "append" apos) [e] [] cpos) pos) (tDrop (tBM K "list" rAppend (tVar i) (tCons te tNil))) (dApp i d) := by
  have hK := he.hK
  subst hK
  exact ⟨rfl, ps_expr (pe_bm PySem.F.plainAttrs_list PySem.F.slot_list_append PySem.F.type_list_append mt_append (pe_var hN hv hd hcd) (pa_cons he.pe pa_nil hs) hbase hfew hline hs rfl) hs2, ss_app he.se⟩
theorem dextend (i : Nat) {d : DTL} {apos cpos : Pos} (he : PLd X K e te d) (hN : X.N[i]? = some x := by rfl) (hv : Vis X.env.scope x := by first | exact Or.inl rfl | exact Or.inr (Or.inl rfl) | exact Or.inr (Or.inr rfl)) (hd : (x == ("__debug__" : Str)) = false := by decide)
    (hcd : (x == ("__classdict__" : Str)) = false := by decide) (hbase : attributeBase (.Name x pos') "extend" X.env (eval (.Name x pos') X.env) = eval (.Name x pos') X.env := by rfl)
    (hfew : ((backTo cpos (starEach (e :: []) X.env)).all (fun x => !x.1) && (backToKw cpos (keywordEach [] X.env)).all (fun x => x.1.isSome)
      && decide ((e :: ([] : List Expr)).length + ([] : List Keyword).length + (if ([] : List Keyword).isEmpty then 0 else 1) < 30)) = true := by rfl)
    (hline : (apos.endLine == cpos.line) = true := by rfl) (hs : starEach (e :: []) X.env = (false, eval e X.env) :: starEach [] X.env := by rfl) (hs2 : swapsWith (.Call (.Attribute (.Name x pos') "extend" apos) [e] [] cpos) none pos.line X.env = pure false := by rfl) :
    PSd X K (.Expr (.Call (.Attribute (.Name x pos') "extend" apos) [e] [] cpos) pos) (tDrop (tBM K "list" rExtend (tVar i) (tCons te tNil))) (dExt i d) := by
  have hK := he.hK
  subst hK
  exact ⟨rfl, ps_expr (pe_bm PySem.F.plainAttrs_list PySem.F.slot_list_extend PySem.F.type_list_extend mt_extend (pe_var hN hv hd hcd) (pa_cons he.pe pa_nil hs) hbase hfew hline hs rfl) hs2, ss_ext he.se⟩
theorem dwhile {c : Expr} (hp : PassesOwn (model X.prog X.w) X.A X.env X.xe) (hc : PTd X K c tt dt) (hb : PSsd X K body b db) : PSd X K (.While c body [] pos) (tWhile tt b) (dWhile dt db) := by
  have hK := hc.hK
  subst hK
  exact ⟨rfl, ps_while hp hc.pe hb.pe, ss_while hc.se hb.se⟩
theorem dforT {d : DTE} (hp : PassesOwn (model X.prog X.w) X.A X.env X.xe) (hc : X.calm = true) (hi : PD X K e te d) (hg : PGd X K tg g ws dg) (hb : PSsd X K body b db) (hs : ∀ x, foldedSetIterable e X.env x = pure x := by intro _; rfl) : PSd X K (.For tg e body [] pos) (tFor (iTup K te) g b) (dForT d dg db) := by
  have hK := hi.hK
  subst hK
  exact ⟨rfl, ps_for hp hc (pi_tup hi.pe) hg.pe hb.pe hs, ss_forT hi.se hg.se hb.se⟩
theorem dforL {d : DTL} (hp : PassesOwn (model X.prog X.w) X.A X.env X.xe) (hc : X.calm = true) (hi : PLd X K e te d) (hg : PGd X K tg g ws dg) (hb : PSsd X K body b db) (hs : ∀ x, foldedSetIterable e X.env x = pure x := by intro _; rfl) : PSd X K (.For tg e body [] pos) (tFor (iList K te) g b) (dForL d dg db) := by
  have hK := hi.hK
  subst hK
  exact ⟨rfl, ps_for hp hc (pi_list hi.pe) hg.pe hb.pe hs, ss_forL hi.se hg.se hb.se⟩
theorem dforV (j : Nat) (hp : PassesOwn (model X.prog X.w) X.A X.env X.xe) (hc : X.calm = true) (hg : PGd X K tg g ws dg) (hb : PSsd X K body b db) (hN : X.N[j]? = some x := by rfl) (hv : Vis X.env.scope x := by first | exact Or.inl rfl | exact Or.inr (Or.inl rfl) | exact Or.inr (Or.inr rfl)) (hd : (x == ("__debug__" : Str)) = false := by decide)
    (hcd : (x == ("__classdict__" : Str)) = false := by decide) : PSd X K (.For tg (.Name x pos') body [] pos) (tFor (iList K (tVar j)) g b) (dForV j dg db) := by
  have hK := hg.hK
  subst hK
  exact ⟨rfl, ps_for hp hc (pi_list (pe_var hN hv hd hcd)) hg.pe hb.pe, ss_forV hg.se hb.se⟩
theorem dforD (j : Nat) (hp : PassesOwn (model X.prog X.w) X.A X.env X.xe) (hc : X.calm = true) (hg : PGd X K tg g ws dg) (hb : PSsd X K body b db) (hN : X.N[j]? = some x := by rfl) (hv : Vis X.env.scope x := by first | exact Or.inl rfl | exact Or.inr (Or.inl rfl) | exact Or.inr (Or.inr rfl)) (hd : (x == ("__debug__" : Str)) = false := by decide)
    (hcd : (x == ("__classdict__" : Str)) = false := by decide) : PSd X K (.For tg (.Name x pos') body [] pos) (tFor (iList K (tVar j)) g b) (dForD j dg db) := by
  have hK := hg.hK
  subst hK
  exact ⟨rfl, ps_for hp hc (pi_list (pe_var hN hv hd hcd)) hg.pe hb.pe, ss_forD hg.se hb.se⟩
theorem dforR {d : DTA} {p pos2 : Pos} (hp : PassesOwn (model X.prog X.w) X.A X.env X.xe) (hc : X.calm = true) (hgl : Gl X "range") (hm : X.mg "range" = none) (ha : PAd X K [e] ta d) (hg : PGd X K tg g ws dg) (hb : PSsd X K body b db) (hst : starEach [e] X.env = [(false, eval e X.env)] := by rfl) (hs : ∀ x, foldedSetIterable (Expr.Call (.Name "range" p) [e] [] pos2) X.env x = pure x := by intro _; rfl) :
    PSd X K (.For tg (.Call (.Name "range" p) [e] [] pos2) body [] pos) (tFor (iRng1 ta) g b) (dForR d dg db) := by
  have hK := ha.hK
  subst hK
  exact ⟨rfl, ps_for hp hc (pi_range1 hgl hm ha.pe hst) hg.pe hb.pe hs, ss_forR ha.se hg.se hb.se⟩
end
/-! name = [..] -/
section
variable {X : Cx} {K : PySem.W.Frag} {elt tg iter : Expr} {ifs : List Expr} {scope : Scope} {own : List (Str × Nat)} {pos py spos : Pos} {y : Str} {tl : TE} {dl : DTE} {g : TG} {tt : TT} {te : TE} {dg : DG} {dt : DTT} {de : DTE}
theorem dsetT (i : Nat) (hi : PD X K iter tl dl) (h : PLc X K elt tg ifs scope own g tt te dg dt de) (hy : X.N[i]? = some y := by rfl) (hyl : X.env.scope.names.lookup y = some .local := by rfl) (hsw : swapsWith (.ListComp elt [⟨tg, iter, ifs, 0⟩] scope pos) (some (.Name y py)) spos.line X.env = pure true := by exact sw_true rfl rfl rfl (by decide +kernel)) (hs : ∀ x, foldedSetIterable iter X.env x = pure x := by intro _; rfl) :
    PSd X K (.Assign [.Name y py] (.ListComp elt [⟨tg, iter, ifs, 0⟩] scope pos) spos) (tAsg (tLc (iTup K tl) g tt te (own.map (·.2))) (gName i)) (dSet i (vL (dLc dl dg dt de (own.map (·.2)) true))) := by
  have hK := hi.hK
  subst hK
  obtain ⟨ws, h1, h2⟩ := h.sg
  exact ⟨rfl, ps_setLc h.hc h.hN hy hyl hsw (pi_tup hi.pe) h.ok h.pg h.pt h.pe hs, ss_set (sl_lcT hi.se h1 h2 h.st h.se).v⟩
theorem dsetLl (i : Nat) (hi : PD X K iter tl dl) (h : PLc X K elt tg ifs scope own g tt te dg dt de) (hy : X.N[i]? = some y := by rfl) (hyl : X.env.scope.names.lookup y = some .local := by rfl) (hsw : swapsWith (.ListComp elt [⟨tg, iter, ifs, 0⟩] scope pos) (some (.Name y py)) spos.line X.env = pure true := by exact sw_true rfl rfl rfl (by decide +kernel)) (hs : ∀ x, foldedSetIterable iter X.env x = pure x := by intro _; rfl) :
    PSd X K (.Assign [.Name y py] (.ListComp elt [⟨tg, iter, ifs, 0⟩] scope pos) spos) (tAsg (tLc (iList K tl) g tt te (own.map (·.2))) (gName i)) (dSet i (vL (dLc dl dg dt de (own.map (·.2)) false))) := by
  have hK := hi.hK
  subst hK
  obtain ⟨ws, h1, h2⟩ := h.sg
  exact ⟨rfl, ps_setLc h.hc h.hN hy hyl hsw (pi_list hi.pe) h.ok h.pg h.pt h.pe hs, ss_set (sl_lcL hi.se h1 h2 h.st h.se).v⟩
theorem dsetR (i : Nat) {a : Expr} {ta : TA} {da : DTA} {p pos2 : Pos} (hg : Gl X "range") (hm : X.mg "range" = none) (ha : PAd X K [a] ta da) (h : PLc X K elt tg ifs scope own g tt te dg dt de) (hst : starEach [a] X.env = [(false, eval a X.env)] := by rfl) (hy : X.N[i]? = some y := by rfl) (hyl : X.env.scope.names.lookup y = some .local := by rfl)
    (hsw : swapsWith (.ListComp elt [⟨tg, .Call (.Name "range" p) [a] [] pos2, ifs, 0⟩] scope pos) (some (.Name y py)) spos.line X.env = pure true := by exact sw_true rfl rfl rfl (by decide +kernel)) (hs : ∀ x, foldedSetIterable (Expr.Call (.Name "range" p) [a] [] pos2) X.env x = pure x := by intro _; rfl) :
    PSd X K (.Assign [.Name y py] (.ListComp elt [⟨tg, .Call (.Name "range" p) [a] [] pos2, ifs, 0⟩] scope pos) spos) (tAsg (tLc (iRng1 ta) g tt te (own.map (·.2))) (gName i)) (dSet i (vL (dLcR da dg dt de (own.map (·.2))))) := by
  have hK := ha.hK
  subst hK
  obtain ⟨ws, h1, h2⟩ := h.sg
  exact ⟨rfl, ps_setLc h.hc h.hN hy hyl hsw (pi_range1 hg hm ha.pe hst) h.ok h.pg h.pt h.pe hs, ss_set (sl_lcR ha.se h1 h2 h.st h.se).v⟩
end
/-! ### a def -/
def init (N : List Str) (ds : List PyData) : DSt := ds.map (fun d => some (DV.d d)) ++ List.replicate (N.length - ds.length) none
theorem rep_init {P : Program} {w : World} {H : Hp} {N : List Str} {vs : List L2.V} {ds : List PyData} (r : RpAll H vs ds) : Rep P w H H (L2.start N vs) (init N ds) := by
  have hl := r.len
  have at_ : ∀ i x, (init N ds)[i]? = some (some x) → ∃ d, ds[i]? = some d ∧ x = DV.d d := fun i x h => by
    unfold init at h
    by_cases c : i < ds.length
    · rw [List.getElem?_append_left (by rw [List.length_map]; exact c), List.getElem?_map, List.getElem?_eq_getElem c] at h
      simp at h
      exact ⟨ds[i], List.getElem?_eq_getElem c, h.symm⟩
    · rw [List.getElem?_append_right (by rw [List.length_map]; omega), List.getElem?_replicate] at h
      split at h <;> cases h
  refine ⟨Sm.refl H, fun i x h => ?_, fun i j x y p h _ hp => ?_, ?_⟩
  · obtain ⟨d, hd, rfl⟩ := at_ i x h
    have get : ∀ {vs : List L2.V} {ds : List PyData}, RpAll H vs ds → ∀ {i : Nat}, ds[i]? = some d → ∃ v, vs[i]? = some v ∧ Rp H v d := by
      intro vs ds r
      induction r with
      | nil => intro i h; simp at h
      | cons a t ih =>
        intro i h
        cases i with
        | zero =>
          simp at h
          subst h
          exact ⟨_, rfl, a⟩
        | succ i =>
          obtain ⟨v, h1, h2⟩ := ih (i := i) (by simpa using h)
          exact ⟨v, by simpa using h1, h2⟩
    obtain ⟨v, hv, rv⟩ := get r hd
    refine ⟨some v, ?_, v, rfl, rv, .inr rv⟩
    unfold L2.start
    rw [List.getElem?_append_left (by rw [List.length_map]; exact (List.getElem?_eq_some_iff.mp hv).1), List.getElem?_map, hv]
    rfl
  · obtain ⟨d, _, rfl⟩ := at_ i x h
    cases hp
  · unfold L2.start init
    rw [List.length_append, List.length_append, List.length_map, List.length_map, List.length_replicate, List.length_replicate, hl]
section
variable {P : Program} {w : World} {K : PySem.W.Frag} {mg : Str → Option Value} {base : Heap} {x qual : Str} {params : Arguments} {body : List Stmt} {scope : Scope} {dvs : List L2.V} {kws : List (Str × L2.V)} {f : Addr} {fd : FuncData} {N ps : List Str} {k n : Nat}
abbrev BodyX (P : Program) (w : World) (K : PySem.W.Frag) (mg : Str → Option Value) (base : Heap) (N : List Str) (qual : Str) (scope : Scope) (f : Addr) (k : Nat) (G : Cx → Prop) : Prop :=
  ∀ (cdv : Value) (A : Around) (outer : List Env) (s : Shared) (H : Hp) (E : XK), Room k (A.deeper (envOfC qual scope s.heap.objs.size f cdv)) → G (cxOf CX0 P w K mg base N qual scope f cdv A outer s H E).nox
theorem okD {G : List PyData → (PyData → Prop) → Prop} (F : FunD K x qual params body scope dvs kws f fd) (S : FnScope N ps scope) (hn : ps.length = n)
    (hb : BodyX P w K mg base N qual scope f k fun X => ∃ ts dss, PSsd X K body ts dss ∧ ∀ as Fp, as.length = n → G as Fp → dss { nx := fun _ => Fp .none, rt := Fp } (init N as)) : FnOk P w K mg base CX0 (k + 1) f fd ps (spD n G) := by
  refine F.ok S (fun vs H Q E h => by rw [hn]; exact h.1) fun cdv A outer s H vs Q E hr h => ?_
  obtain ⟨ts, dss, hp, hd⟩ := hb cdv A outer s H E hr
  obtain ⟨hl, as, Fp, r, hG, hQ⟩ := h
  refine ⟨ts, PSs.nox hp.pe, hp.se.run (rep_init r) (hd as Fp (by rw [← r.len]; exact hl) hG) ⟨fun σ' H' τ' R _ h => hQ _ H' _ R.sm (.inl .non) h, fun _ _ _ _ _ h => h.elim, fun _ _ _ _ _ h => h.elim, fun v H' d e r h => hQ v H' d e r h, fun _ _ _ _ _ _ _ _ h => h.elim⟩⟩
theorem okL {G : List PyData → (List PyData → Prop) → Prop} (F : FunD K x qual params body scope dvs kws f fd) (S : FnScope N ps scope) (hn : ps.length = n)
    (hb : BodyX P w K mg base N qual scope f k fun X => ∃ ts dss, PSsd X K body ts dss ∧ ∀ as Fp, as.length = n → G as Fp → dss { nx := fun _ => False, rt := fun _ => False, rl := Fp } (init N as)) : FnOk P w K mg base CX0 (k + 1) f fd ps (spL n G) := by
  refine F.ok S (fun vs H Q E h => by rw [hn]; exact h.1) fun cdv A outer s H vs Q E hr h => ?_
  obtain ⟨ts, dss, hp, hd⟩ := hb cdv A outer s H E hr
  obtain ⟨hl, as, Fp, r, hG, hQ⟩ := h
  refine ⟨ts, PSs.nox hp.pe, hp.se.run (rep_init r) (hd as Fp (by rw [← r.len]; exact hl) hG) ⟨fun σ' H' τ' R _ h => h.elim, fun _ _ _ _ _ h => h.elim, fun _ _ _ _ _ h => h.elim, fun v H' d e r h => h.elim, fun p H' xs ds hp e hl hb h => hQ p H' xs ds hp e hl hb h⟩⟩
end
end Wk
end

section
set_option Elab.async false
set_option linter.all false
set_option maxRecDepth 100000
set_option maxHeartbeats 4000000
namespace Wk
open PySem PySem.Spec PyProof.Rows L2
/-! ### comparisons of ints as tests -/
section
variable {X : Cx} {K : PySem.W.Frag} {pos : Pos} {a b : Expr} {ta tb : TE} {da db : DTE}
theorem tlt (ha : PD X K a ta da) (hb : PD X K b tb db) : PTd X K (.Compare a [.Lt] [b] pos) (tTest (tOp (rI0 fun i j => .bl (decide (i < j))) ta tb)) (dB (dOp (dI2 fun i j => .bool (decide (i < j))) da db)) := tcmp op_lt (so_I0 fun _ _ _ => .bl _) (nomark _) ha hb
theorem tle (ha : PD X K a ta da) (hb : PD X K b tb db) : PTd X K (.Compare a [.LtE] [b] pos) (tTest (tOp (rI0 fun i j => .bl (decide (i ≤ j))) ta tb)) (dB (dOp (dI2 fun i j => .bool (decide (i ≤ j))) da db)) := tcmp op_le (so_I0 fun _ _ _ => .bl _) (nomark _) ha hb
theorem tgt (ha : PD X K a ta da) (hb : PD X K b tb db) : PTd X K (.Compare a [.Gt] [b] pos) (tTest (tOp (rI0 fun i j => .bl (decide (j < i))) ta tb)) (dB (dOp (dI2 fun i j => .bool (decide (j < i))) da db)) := tcmp op_gt (so_I0 fun _ _ _ => .bl _) (nomark _) ha hb
theorem tge (ha : PD X K a ta da) (hb : PD X K b tb db) : PTd X K (.Compare a [.GtE] [b] pos) (tTest (tOp (rI0 fun i j => .bl (decide (j ≤ i))) ta tb)) (dB (dOp (dI2 fun i j => .bool (decide (j ≤ i))) da db)) := tcmp op_ge (so_I0 fun _ _ _ => .bl _) (nomark _) ha hb
/-- t * k of a tuple -/
def rRepTB (K : PySem.W.Frag) : R2 := fun x y H Q => ∃ l k xs, x = .ref l ∧ y = .int k ∧ SqT K H l xs ∧ xs ≠ [] ∧ 2 ≤ k ∧ k ≤ 1000 ∧ xs.length ≤ 1000 ∧ ∀ p o, H p = none → o.dict = none → Q (.ref p) (upd H p (.frz o (.tup (List.replicate k.toNat xs).flatten)))
end
/-- sorted(xs) of ints -/
def dSort0 (da : DTE) : DTL := fun τ F => da τ fun d => ∃ ns : List Int, d = .list (ns.map .int) ∧ ∀ rs : List Int, rs.Perm ns → rs.Pairwise (· ≤ ·) → F (rs.map .int)
/-! ### stored side by side -/
def dPar (i j : Nat) (a b : DTV) : DS := fun D τ => a τ fun x => b τ fun y => x.fine = true ∧ y.fine = true ∧ ∀ p q, D.nx ((τ.set i (some (x.at p))).set j (some (y.at q)))
def dPar3 (i j l : Nat) (a b c : DTV) : DS := fun D τ => a τ fun x => b τ fun y => c τ fun z => x.fine = true ∧ y.fine = true ∧ z.fine = true ∧ ∀ p q r, D.nx (((τ.set i (some (x.at p))).set j (some (y.at q))).set l (some (z.at r)))
section
variable {P : Program} {w : World} {K : PySem.W.Frag} {ta tb tc : TE} {da db dc : DTV}
theorem ss_par {i j : Nat} (ha : SV P w ta da) (hb : SV P w tb db) : SS P w (tPar i j (tCons ta (tCons tb tNil))) (dPar i j da db) := ⟨fun {_ _ _ _} R {D} hh {E} W => ha.run R hh fun v H1 a e1 o1 h1 => hb.run (R.to e1) h1 fun u H2 b e2 o2 h2 => by
  obtain ⟨n1, n2, hf⟩ := h2
  obtain ⟨p, R1, f1⟩ := R.setA (i := i) e1 o1 n1
  obtain ⟨q, R2, f2⟩ := R1.setA (i := j) e2 o2 n2
  exact ⟨v, u, rfl, W.nx _ _ _ R2 (f1.trans f2) (hf p q)⟩⟩
theorem ss_par3 {i j l : Nat} (ha : SV P w ta da) (hb : SV P w tb db) (hc : SV P w tc dc) : SS P w (tPar3 i j l (tCons ta (tCons tb (tCons tc tNil)))) (dPar3 i j l da db dc) := ⟨fun {_ _ _ _} R {D} hh {E} W => ha.run R hh fun v H1 a e1 o1 h1 => hb.run (R.to e1) h1 fun u H2 b e2 o2 h2 => hc.run (R.to (e1.trans e2)) h2 fun z H3 c e3 o3 h3 => by
  obtain ⟨n1, n2, n3, hf⟩ := h3
  obtain ⟨p, R1, f1⟩ := R.setA (i := i) e1 o1 n1
  obtain ⟨q, R2, f2⟩ := R1.setA (i := j) e2 o2 n2
  obtain ⟨r, R3, f3⟩ := R2.setA (i := l) e3 o3 n3
  exact ⟨v, u, z, rfl, W.nx _ _ _ R3 ((f1.trans f2).trans f3) (hf p q r)⟩⟩
theorem ss_parC {i j : Nat} (ha : SV P w ta da) (hb : SV P w tb db) : SS P w (tAsg (tTup (tCons ta (tCons tb tNil))) (gTup K 2 (gCons (gName i) (gCons (gName j) gNil)))) (dPar i j da db) := ⟨fun {_ _ _ _} R {D} hh {E} W => ha.run R hh fun v H1 a e1 o1 h1 => hb.run (R.to e1) h1 fun u H2 b e2 o2 h2 => by
  obtain ⟨n1, n2, hf⟩ := h2
  obtain ⟨p, R1, f1⟩ := R.setA (i := i) e1 o1 n1
  obtain ⟨q, R2, f2⟩ := R1.setA (i := j) e2 o2 n2
  refine ⟨by show 2 ≤ sizeLine; decide, fun z hz => ⟨z, [v, u], rfl, .inl (.inl upd_same), rfl, v, [u], rfl, u, [], rfl, rfl, ?_⟩⟩
  have s : Sm H2 (upd H2 z (.tup [v, u])) := (Sm.refl H2).new hz
  exact W.nx _ _ _ (R2.to s) ((f1.trans f2).trans (Fr.sm s)) (hf p q)⟩
end
section
variable {X : Cx} {K : PySem.W.Frag} {pos px py pz pt pt2 : Pos} {kt k2 : Nat} {x y z : Str} {a b c : Expr} {ta tb tc : TE} {da db dc : DTV}
theorem dpar (i j : Nat) {kt k2} (hc : X.calm = true) (hN : X.N.Nodup) (ha : PV X K a ta da) (hb : PV X K b tb db) (hw : swappedStores [.Tuple [.Name x px, .Name y py] kt pt] (.Tuple [a, b] k2 pt2) X.env = pure (some [x, y])) (hi : X.N[i]? = some x := by rfl) (hj : X.N[j]? = some y := by rfl) (hij : i ≠ j := by decide)
    (hx : X.env.scope.names.lookup x = some .local := by rfl) (hy : X.env.scope.names.lookup y = some .local := by rfl) (st1 : starEach [a, b] X.env = (false, eval a X.env) :: starEach [b] X.env := by rfl) (st2 : starEach [b] X.env = (false, eval b X.env) :: starEach [] X.env := by rfl)
    (hs : swapsWithSole [.Tuple [.Name x px, .Name y py] kt pt] (.Tuple [a, b] k2 pt2) pos.line X.env = pure false := by rfl) : PSd X K (.Assign [.Tuple [.Name x px, .Name y py] kt pt] (.Tuple [a, b] k2 pt2) pos) (tPar i j (tCons ta (tCons tb tNil))) (dPar i j da db) := by
  have hK := ha.hK
  subst hK
  exact ⟨rfl, ps_par hc hN hi hj hij hx hy (pa_cons ha.pe (pa_cons hb.pe pa_nil st2) st1) hw hs, ss_par ha.se hb.se⟩
theorem dpar3 (i j l : Nat) {kt k2} (hc : X.calm = true) (hN : X.N.Nodup) (ha : PV X K a ta da) (hb : PV X K b tb db) (hcc : PV X K c tc dc) (hw : swappedStores [.Tuple [.Name x px, .Name y py, .Name z pz] kt pt] (.Tuple [a, b, c] k2 pt2) X.env = pure (some [x, y, z])) (hi : X.N[i]? = some x := by rfl) (hj : X.N[j]? = some y := by rfl) (hl : X.N[l]? = some z := by rfl) (hij : i ≠ j := by decide) (hil : i ≠ l := by decide) (hjl : j ≠ l := by decide)
    (hx : X.env.scope.names.lookup x = some .local := by rfl) (hy : X.env.scope.names.lookup y = some .local := by rfl) (hz : X.env.scope.names.lookup z = some .local := by rfl) (st1 : starEach [a, b, c] X.env = (false, eval a X.env) :: starEach [b, c] X.env := by rfl) (st2 : starEach [b, c] X.env = (false, eval b X.env) :: starEach [c] X.env := by rfl) (st3 : starEach [c] X.env = (false, eval c X.env) :: starEach [] X.env := by rfl)
    (hs : swapsWithSole [.Tuple [.Name x px, .Name y py, .Name z pz] kt pt] (.Tuple [a, b, c] k2 pt2) pos.line X.env = pure false := by rfl) : PSd X K (.Assign [.Tuple [.Name x px, .Name y py, .Name z pz] kt pt] (.Tuple [a, b, c] k2 pt2) pos) (tPar3 i j l (tCons ta (tCons tb (tCons tc tNil)))) (dPar3 i j l da db dc) := by
  have hK := ha.hK
  subst hK
  exact ⟨rfl, ps_par3 hc hN hi hj hl hij hil hjl hx hy hz (pa_cons ha.pe (pa_cons hb.pe (pa_cons hcc.pe pa_nil st3) st2) st1) hw hs, ss_par3 ha.se hb.se hcc.se⟩
theorem dparC (i j : Nat) {kt k2} (hc : X.calm = true) (hN : X.N.Nodup) (ha : PV X K a ta da) (hb : PV X K b tb db) (hi : X.N[i]? = some x := by rfl) (hj : X.N[j]? = some y := by rfl)
    (hx : Loc X.env.scope x := by first | exact Or.inl rfl | exact Or.inr rfl) (hy : Loc X.env.scope y := by first | exact Or.inl rfl | exact Or.inr rfl) (fx : X.fn x = true ∨ X.env.scope.names.lookup x = some .local := by first | exact .inl rfl | exact .inr rfl) (fy : X.fn y = true ∨ X.env.scope.names.lookup y = some .local := by first | exact .inl rfl | exact .inr rfl)
    (st1 : starEach [a, b] X.env = (false, eval a X.env) :: starEach [b] X.env := by rfl) (st2 : starEach [b] X.env = (false, eval b X.env) :: starEach [] X.env := by rfl)
    (hs : swapsWithSole [.Tuple [.Name x px, .Name y py] kt pt] (.Tuple [a, b] k2 pt2) pos.line X.env = pure false := by rfl) (hw : swappedStores [.Tuple [.Name x px, .Name y py] kt pt] (.Tuple [a, b] k2 pt2) X.env = pure none := by rfl)
    (h1 : (assignEach [Expr.Tuple [.Name x px, .Name y py] kt pt] X.env).map (·.2) = [assign (.Tuple [.Name x px, .Name y py] kt pt) X.env] := by rfl)
    (g1 : (assignEach [Expr.Name x px, .Name y py] X.env).map (·.2) = assign (.Name x px) X.env :: (assignEach [Expr.Name y py] X.env).map (·.2) := by rfl) (g2 : (assignEach [Expr.Name y py] X.env).map (·.2) = assign (.Name y py) X.env :: (assignEach [] X.env).map (·.2) := by rfl)
    (hn : (assignEach [Expr.Name x px, .Name y py] X.env).length = 2 := by rfl) (hst : (assignEach [Expr.Name x px, .Name y py] X.env).findIdx? (·.1) = none := by rfl) :
    PSd X K (.Assign [.Tuple [.Name x px, .Name y py] kt pt] (.Tuple [a, b] k2 pt2) pos) (tAsg (tTup (tCons ta (tCons tb tNil))) (gTup K 2 (gCons (gName i) (gCons (gName j) gNil)))) (dPar i j da db) := by
  have hK := ha.hK
  subst hK
  exact ⟨rfl, ps_asg (pe_tup (pa_cons ha.pe (pa_cons hb.pe pa_nil st2) st1)) (pg_tup hc (pgs_cons (pg_name hN hi hx fx) (pgs_cons (pg_name hN hj hy fy) pgs_nil g2) g1) hn hst) hs hw h1, ss_parC ha.se hb.se⟩
end
/-! ### two for in one comprehension -/
theorem own_wipe {τ : DSt} {a : Addr} : ∀ {vs : List Nat}, own (wipeD τ vs) a → own τ a
  | [], h => h
  | v :: vs, h => by
    obtain ⟨i, x, hx, hp⟩ := h
    refine own_wipe (vs := vs) ⟨i, x, ?_, hp⟩
    have hx : ((wipeD τ vs).set v none)[i]? = some (some x) := hx
    by_cases e : v = i
    · subst e
      by_cases hl : v < (wipeD τ vs).length
      · rw [List.getElem?_set_self hl] at hx
        cases hx
      · rw [List.getElem?_eq_none (by simpa using hl)] at hx
        cases hx
    · rw [List.getElem?_set_ne e] at hx
      exact hx
/-- a list that no slot owns is written -/
theorem Rep.other {P : Program} {w : World} {H0 H : Hp} {σ : L2.St} {τ : DSt} (R : Rep P w H0 H σ τ) {p : Addr} {xs : List V} {o' : HO} (h0 : H0 p = Option.none) (hl : H p = some (.lst xs)) (hn : ¬ own τ p) : Rep P w H0 (upd H p o') σ τ :=
  ⟨R.sm.new h0, fun i x hx => let ⟨u, h1, h2⟩ := R.slot i x hx; ⟨u, h1, h2.other h0 ⟨_, hl, fun _ _ z => nomatch z⟩ (fun e => hn ⟨i, x, hx, e⟩) R.sm⟩, R.inj, R.len⟩
theorem Sm.swap {H H' : Hp} {D : Addr} {o o' : HO} (e : Sm (upd H D o) H') : Sm (upd H D o') (upd H' D o') := fun a u h => by
  by_cases c : a = D
  · subst c
    rw [upd_same] at h ⊢
    exact .inl h
  · rw [upd_ne c] at h ⊢
    exact e a u (by rw [upd_ne c]; exact h)
def dLc2 (src : DTE) (g : DG) (t : DTT) (src1 : DTE) (g1 : DG) (t1 : DTT) (e : DTE) (vs vs1 : List Nat) : DTL := fun τ F => src τ fun d => ∃ xs, d = .tuple xs ∧ xs.length ≤ 200 ∧ dColl xs (fun x R => g x (wipeD τ vs) fun τ2 => t τ2 fun b => if b = true then src1 τ2 fun d1 => ∃ ys, d1 = .tuple ys ∧ noLs ys = true ∧ ys.length ≤ 300 ∧ dColl ys (dBody g1 t1 e vs1 τ2) R else R []) F
section
variable {P : Program} {w : World} {K : PySem.W.Frag} {g g1 : TG} {tt tt1 : TT} {te tl tl1 : TE} {dg dg1 : DG} {dt dt1 : DTT} {de dl dl1 : DTE} {ws ws1 vs vs1 : List Nat}
theorem lc_step2 {H0 Hc : Hp} {σ : L2.St} {τ : DSt} {D : Addr} {xs : List L2.V} {x : L2.V} {d : PyData} {W : List PyData → Prop} {Nx : Hp → Prop} (R : Rep P w H0 Hc σ τ) (hg : SG P w g ws dg) (hw : ∀ i ∈ ws, i ∈ vs) (ht : ST P w tt dt) (he : SE P w te de) (hl : Hc D = some (.lst xs)) (hz : xs.length < 100000) (r : Rp Hc x d) (hh : dBody dg dt de vs τ d W)
    (h1 : ∀ H4 y z, Sm Hc H4 → Rp H4 y z → noL z = true → W [z] → Nx (upd H4 D (.lst (xs ++ [y])))) (h2 : ∀ H3, Sm Hc H3 → W [] → Nx H3) :
    g x (wipe σ vs) Hc fun σ2 H2 => wipe σ2 vs = wipe σ vs ∧ tt σ2 H2 fun b H3 => if b = true then te σ2 H3 fun y H4 => ∃ acc, H4 D = some (.lst acc) ∧ acc.length < sizeLine ∧ Nx (upd H4 D (.lst (acc ++ [y]))) else Nx H3 := by
  refine hg.run (R.wipe vs) r hh fun σ2 τ2 R2 _ w2 h3 => ⟨by rw [w2 vs hw, wipe_wipe], ht.run R2 h3 fun b H3 s3 h3 => ?_⟩
  cases b with
  | true =>
    refine he.run (R2.to s3) h3 fun y H4 z s4 ry hy => ?_
    exact ⟨xs, (s3.trans s4).lst hl, Nat.lt_of_lt_of_le hz (by decide), h1 H4 y z (s3.trans s4) ry hy.1 hy.2⟩
  | false => exact h2 H3 s3 h3
theorem keepT {H : Hp} {D : Addr} {ys : List L2.V} {o' : HO} (hD : H D = some (.lst ys)) : ∀ a o xs, H a = some (.frz o (.tup xs)) → upd H D o' a = some (.frz o (.tup xs)) := fun a o xs q => by
  rw [upd_ne (fun z => by subst z; rw [hD] at q; cases q)]
  exact q
theorem Sm.thru {H1 H4 H5 : Hp} {D : Addr} {o : HO} (hD : H1 D = none) (s14 : Sm H1 H4) (s5 : Sm (upd H4 D o) H5) : Sm H1 H5 := fun b u hb2 => by
  have c : b ≠ D := ne_of_none hb2 hD
  have s : Sm H1 (upd H4 D o) := s14.new hD
  exact s.trans s5 b u hb2
theorem sl_lc2 (hl : SE P w tl dl) (hg : SG P w g ws dg) (hw : ∀ i ∈ ws, i ∈ vs) (ht : ST P w tt dt) (hl1 : SE P w tl1 dl1) (hg1 : SG P w g1 ws1 dg1) (hw1 : ∀ i ∈ ws1, i ∈ vs1) (ht1 : ST P w tt1 dt1) (he : SE P w te de) :
    SL P w (tLc2 (iTup K tl) g tt (iTup K tl1) g1 tt1 te vs vs1) (dLc2 dl dg dt dl1 dg1 dt1 de vs vs1) := ⟨fun {H0 H σ τ} R {F} h {Q} k => hl.run R h fun v H1 d e1 r1 h1 => by
  obtain ⟨xs, rfl, hz, W, w0, ws2, wd⟩ := h1
  cases r1.bp rfl with
  | @tup a o us ds ha ho hb =>
    refine ⟨a, rfl, ⟨us, .inl (.inr ⟨_, ha⟩)⟩, fun D hD => ⟨fun i m H' => m = xs.length - i ∧ i ≤ xs.length ∧ Acc H1 D (W i) (300 * i) H', ⟨xs.length, by simp, Nat.zero_le _, [], [], (Sm.refl H1).new hD, upd_same, .nil, rfl, Nat.le_refl _, w0⟩, ?_⟩⟩
    rintro i m H' ⟨rfl, hi, ys, acc, s, p1, p2, p3, p4, p5⟩
    have hq : SqT K H' a us := .inl (.inr ⟨_, s.tup ha⟩)
    have hul := hb.len
    have nD : ¬ own τ D := (R.to e1).new_free hD
    have h0D : H0 D = none := (R.to e1).sm.free hD
    by_cases hlt : i < xs.length
    · refine .inr ⟨⟨us, us[i]'(by omega), hq, List.getElem?_eq_getElem _⟩, Acc H1 D (W (i + 1)) (300 * (i + 1)), fun H2 p => ⟨xs.length - (i + 1), by omega, rfl, hlt, p⟩, fun x H2 y => ?_⟩
      obtain ⟨e, y⟩ := y
      subst e
      have hx := y us hq
      obtain ⟨d, hd, bd⟩ := hb.at' hx
      refine hg.run ((R.to (e1.trans s)).wipe vs) (.inl (bd.sm s)) (ws2 i acc d p5 hd) fun σ2 τ2 R2 f2 w2 h2 => ⟨by rw [w2 vs hw, wipe_wipe], ht.run R2 h2 fun b H3 s3 h3 => ?_⟩
      have nD2 : ¬ own τ2 D := (f2 D _ p1 (fun _ z => nomatch z) (fun z => nD (own_wipe z))).2
      cases b with
      | true =>
        refine hl1.run (R2.to s3) h3 fun v1 H4 d1 s4 r4 h4 => ?_
        obtain ⟨zs, rfl, nz, hz1, V, v0, vs2, vd⟩ := h4
        have s34 := s3.trans s4
        have R4 := R2.to s34
        cases r4.bp rfl with
        | @tup a1 o1 us1 ds1 ha1 ho1 hb1 =>
          have hul1 := hb1.len
          have s14 : Sm H1 H4 := s.trans s34
          have hD4 : H4 D = some (.lst ys) := s34.lst p1
          have ne1 : a1 ≠ D := fun z => by subst z; rw [hD4] at ha1; cases ha1
          refine ⟨a1, rfl, ⟨us1, .inl (.inr ⟨_, ha1⟩)⟩, fun j k H5 => k = zs.length - j ∧ j ≤ zs.length ∧ ∃ ys5 acc5, Sm (upd H4 D (.lst ys5)) H5 ∧ BpAll H5 ys5 acc5 ∧ noLs acc5 = true ∧ acc5.length ≤ 300 * i + j ∧ ∃ r, acc5 = acc ++ r ∧ V j r, ⟨zs.length, by simp, Nat.zero_le _, ys, acc, ?_, p2.sm s34, p3, by omega, [], by simp, v0⟩, ?_⟩
          · intro b u hb2
            by_cases c : b = D
            · subst c
              rw [upd_same] at hb2
              rw [← hb2]
              exact .inl hD4
            · rw [upd_ne c] at hb2
              exact .inl hb2
          rintro j k H5 ⟨rfl, hj, ys5, acc5, s5, b5, n5, l5, r5, rfl, v5⟩
          have hD5 : H5 D = some (.lst ys5) := s5.lst upd_same
          have ha5 : H5 a1 = some (.frz o1 (.tup us1)) := s5.tup (by rw [upd_ne ne1]; exact ha1)
          have s15 : Sm H1 H5 := Sm.thru hD s14 s5
          have R5 : Rep P w H0 H5 σ2 τ2 := (R4.other h0D hD4 nD2).to s5
          have b5l := b5.len
          by_cases hlt1 : j < zs.length
          · refine .inr ⟨⟨us1, us1[j]'(by omega), .inl (.inr ⟨_, ha5⟩), List.getElem?_eq_getElem _⟩, fun H6 => ∃ ys6 acc6, Sm (upd H4 D (.lst ys6)) H6 ∧ BpAll H6 ys6 acc6 ∧ noLs acc6 = true ∧ acc6.length ≤ 300 * i + (j + 1) ∧ ∃ r, acc6 = acc ++ r ∧ V (j + 1) r, fun H6 p6 => ⟨zs.length - (j + 1), by omega, rfl, hlt1, p6⟩, fun x1 H6 y1 => ?_⟩
            obtain ⟨e6, y1⟩ := y1
            subst e6
            have hx1 := y1 us1 (.inl (.inr ⟨_, ha5⟩))
            obtain ⟨z, hzd, bz⟩ := hb1.at' hx1
            have nz1 : noL z = true := (noLs_iff zs).mp nz z (List.mem_of_getElem? hzd)
            have bz5 : Rp H6 x1 z := .inl ((bp_tup (keepT hD4) nz1 bz).sm s5)
            refine lc_step2 R5 hg1 hw1 ht1 he hD5 (by rw [b5l]; omega) bz5 (vs2 j r5 z v5 hzd) (fun H7 y7 z7 s7 r7 n7 w7 => ?_) (fun H7 s7 w7 => ?_)
            · have nn : noLs (acc ++ r5 ++ [z7]) = true := noLs_app n5 (by simp [noLs, n7])
              exact ⟨_, _, Sm.swap (s5.trans s7), bps_tup (keepT (s7.lst hD5)) nn ((b5.sm s7).app (.cons (r7.bp (noF_noL n7)) .nil)), nn, by simp at l5 ⊢; omega, r5 ++ [z7], by simp, w7⟩
            · rw [List.append_nil] at w7
              exact ⟨ys5, acc ++ r5, s5.trans s7, b5.sm s7, n5, by omega, r5, rfl, w7⟩
          · have e : j = zs.length := by omega
            subst e
            exact .inl ⟨⟨us1, .inl (.inr ⟨_, ha5⟩), by omega⟩, ys5, acc ++ r5, s15, hD5, b5, n5, by omega, vd r5 v5⟩
      | false =>
        have h3 : W (i + 1) (acc ++ []) := h3
        rw [List.append_nil] at h3
        exact ⟨ys, acc, s.trans s3, s3.lst p1, p2.sm s3, p3, by omega, h3⟩
    · have e : i = xs.length := by omega
      subst e
      exact .inl ⟨⟨us, hq, by omega⟩, k D H' ys acc (e1.free hD) (e1.trans s) p1 p2 (wd acc p5)⟩⟩
end
section
variable {X : Cx} {K : PySem.W.Frag} {elt tg iter tg1 iter1 : Expr} {ifs ifs1 : List Expr} {scope : Scope} {own : List (Str × Nat)} {pos : Pos} {g g1 : TG} {tt tt1 : TT} {te tl tl1 : TE} {dg dg1 : DG} {dt dt1 : DTT} {de dl dl1 : DTE} {ws ws1 vs1 : List Nat}
theorem lc2T (hc : X.calm = true) (hN : X.N.Nodup) (hi : PD X K iter tl dl) (ok : BlkOk X.N X.env.scope scope own) (hg : ∀ (s : Shared) (H : Hp) (C : Addr) (cl : List (Str × Addr)) (fp : List Addr), PGd (X.blk s H scope (compEnvC scope cl C X.env) fp) K tg g ws dg) (hw : ∀ i ∈ ws, i ∈ own.map (·.2)) (ht : ∀ (s : Shared) (H : Hp) (C : Addr) (cl : List (Str × Addr)) (fp : List Addr), PTsd (X.blk s H scope (compEnvC scope cl C X.env) fp) K ifs tt dt)
    (hi1 : ∀ (s : Shared) (H : Hp) (C : Addr) (cl : List (Str × Addr)) (fp : List Addr), PD (X.blk s H scope (compEnvC scope cl C X.env) fp) K iter1 tl1 dl1) (hg1 : ∀ (s : Shared) (H : Hp) (C : Addr) (cl : List (Str × Addr)) (fp : List Addr), PGd (X.blk s H scope (compEnvC scope cl C X.env) fp) K tg1 g1 ws1 dg1) (hw1 : ∀ i ∈ ws1, i ∈ vs1) (ht1 : ∀ (s : Shared) (H : Hp) (C : Addr) (cl : List (Str × Addr)) (fp : List Addr), PTsd (X.blk s H scope (compEnvC scope cl C X.env) fp) K ifs1 tt1 dt1) (he : ∀ (s : Shared) (H : Hp) (C : Addr) (cl : List (Str × Addr)) (fp : List Addr), PD (X.blk s H scope (compEnvC scope cl C X.env) fp) K elt te de) (hv : ∀ i ∈ vs1, i ∈ own.map (·.2))
    (hs : ∀ x, foldedSetIterable iter X.env x = pure x := by intro _; rfl) (hs1 : ∀ env x, foldedSetIterable iter1 env x = pure x := by intro _ _; rfl) :
    PLd X K (.ListComp elt [⟨tg, iter, ifs, 0⟩, ⟨tg1, iter1, ifs1, 0⟩] scope pos) (tLc2 (iTup K tl) g tt (iTup K tl1) g1 tt1 te (own.map (·.2)) vs1) (dLc2 dl dg dt dl1 dg1 dt1 de (own.map (·.2)) vs1) := by
  have hK := hi.hK
  subst hK
  exact ⟨rfl, pe_lc2 hc hN (pi_tup hi.pe) ok hv (fun a b c d e => (hg a b c d e).pe) (fun a b c d e => (ht a b c d e).pe) (fun a b c d e => pi_tup (hi1 a b c d e).pe) (fun a b c d e => (hg1 a b c d e).pe) (fun a b c d e => (ht1 a b c d e).pe) (fun a b c d e => (he a b c d e).pe) hs hs1,
    sl_lc2 hi.se (hg X.s_0 X.H_0 0 [] []).se hw (ht X.s_0 X.H_0 0 [] []).se (hi1 X.s_0 X.H_0 0 [] []).se (hg1 X.s_0 X.H_0 0 [] []).se hw1 (ht1 X.s_0 X.H_0 0 [] []).se (he X.s_0 X.H_0 0 [] []).se⟩
end
end Wk
end

section
set_option Elab.async false
set_option linter.all false
set_option maxRecDepth 100000
set_option maxHeartbeats 4000000
namespace Wk
open PySem PySem.Spec PyProof.Rows L2
/-! ### enumerate over a tuple -/
section
variable {P : Program} {w : World} {K : PySem.W.Frag}
def Itet (K : PySem.W.Frag) (a : Addr) : It where
  go i H := ∃ (xs : List L2.V) (x : L2.V), SqT K H a xs ∧ xs[i]? = some x
  yld i H v H' := ∃ T x, v = .ref T ∧ H T = none ∧ H' = upd H T (.tup [.int (i : Nat), x]) ∧ ∀ xs, SqT K H a xs → xs[i]? = some x
  stop i H := ∃ xs : List L2.V, SqT K H a xs ∧ xs.length = i
theorem turn_enumT {elts : List Expr} {kk : Nat} {tpos : Pos} (a e it : Addr) :
    Turn P w K (.Tuple elts kk tpos) (Itet K a) [e, it] e (fun i h => ((∃ old, IsEnum h e it ((i : Nat) : Int) old) ∧ h.IsTupleIter it a i) ∧ e ≠ it ∧ a ≠ e ∧ a ≠ it) where
  mem := by simp
  obj i h st b hb := by
    obtain ⟨⟨⟨old, he⟩, ⟨o, ho, hc, hd⟩⟩, _⟩ := st
    rcases (by simpa using hb : b = e ∨ b = it) with rfl | rfl
    · exact ⟨_, he, fun v q => nomatch q⟩
    · exact ⟨o, ho, fun v q => by rw [hd] at q; cases q⟩
  keep i h h' st k := by
    obtain ⟨⟨⟨old, he⟩, hi⟩, hne⟩ := st
    exact ⟨⟨⟨old, k e (by simp) _ he⟩, hi.at fun o q => k it (by simp) o q⟩, hne⟩
  item := by
    intro X hP hw hK hc i pins s σ H E I hf st hg
    subst hP hw hK
    obtain ⟨⟨⟨old, he⟩, hit⟩, hne, hae, hai⟩ := st
    obtain ⟨xs, x, hq, hx⟩ := hg
    obtain ⟨its, rv, p, hz⟩ := I.tuple hq
    obtain ⟨u, hu, ru⟩ := rv.get hx
    have hel : e < s.heap.objs.size := Heap.lt_size he
    have hil : it < s.heap.objs.size := by
      obtain ⟨_, q, _⟩ := hit
      exact Heap.lt_size q
    have hlt : i < its.toArray.size := by
      rw [List.size_toArray]
      exact (List.getElem?_eq_some_iff.mp hu).1
    refine wpAny_pyNext_enum_itemD (Draws.tuple (prog := X.prog) (w := X.w) (A := X.A.in1) (I.ok.hd hc) it a hai its.toArray) he ⟨hit, p⟩ hlt hne (by simp; exact ⟨hne, fun z => hae z.symm⟩) fun y h' tk hy ho hs' hT hsz hk => ?_
    have ey : y = u := by
      have z : its.toArray[i]? = some u := by simpa using hu
      rw [z] at hy
      exact (Option.some.inj hy).symm
    subst ey
    refine ⟨_, rfl, wpAny_letOwnedTupleGo_enum (s := { s with heap := h', toks := tk + 1 }) ho fun h'' he' sb => ?_⟩
    have hT2 := (sb.2 _ (Nat.ne_of_gt hel)).trans hT
    have new : ObjOk X.prog X.w (upd H s.heap.objs.size (.tup [.int (i : Nat), x])) h'' s.heap.objs.size (.tup [.int (i : Nat), x]) := by
      refine ⟨by show 2 ≤ sizeLine; decide, [.int i tk, y], .cons ⟨_, rfl⟩ (.cons ru .nil), ?_⟩
      exact ⟨_, hT2, rfl, _, rfl⟩
    have I1 : Inv X pins σ (upd H s.heap.objs.size (.tup [.int (i : Nat), x])) { s with heap := h'', toks := tk + 1 } := by
      refine I.turnedNew (ch := [e, it]) (fun b ob hb q => ?_) hf (Nat.le_refl _) new
      have n1 : b ≠ e := fun z => hb (by simp [z])
      have n2 : b ≠ it := fun z => hb (by simp [z])
      exact (sb.2 b n1).trans (hk b ob n1 n2 q)
    refine ⟨.ref s.heap.objs.size, _, I1, rfl, ?_, ?_, fun b hb => ?_⟩
    · exact ⟨_, x, rfl, I.hok.fresh (Nat.le_refl _), rfl, fun ys hy => by rw [I.tuple_inj hy hq]; exact hx⟩
    · refine ⟨⟨⟨y, ?_⟩, hs'.1.at fun o q => (sb.2 it (Ne.symm hne)).trans q⟩, hne, hae, hai⟩
      have e1 : ((i + 1 : Nat) : Int) = (i : Int) + 1 := by omega
      rw [e1]
      exact he'
    · have hb' : b < s.heap.objs.size := by
        rcases (by simpa using hb : b = e ∨ b = it) with rfl | rfl
        · exact hel
        · exact hil
      rw [upd_ne (Nat.ne_of_lt hb')]
      exact (hf b hb).1
  done := by
    intro X hP hw hK hc i pins s σ H E I hf st hg
    subst hP hw hK
    obtain ⟨⟨⟨old, he⟩, hit⟩, hne, hae, hai⟩ := st
    obtain ⟨xs, hq, hx⟩ := hg
    obtain ⟨its, rv, p, hz⟩ := I.tuple hq
    obtain ⟨f0, f1, f2, f3, f4, f5⟩ := hf it (by simp)
    have hl := rv.length
    have hsz : its.toArray.size = i := by
      rw [List.size_toArray]
      omega
    have D := Draws.tuple (prog := X.prog) (w := X.w) (A := X.A.in1) (I.ok.hd hc) it a hai its.toArray
    rw [hsz] at D
    refine wpAny_pyNext_enum_endD D he ⟨hit, p⟩ fun h' eb => ?_
    exact ⟨rfl, I.turned (t' := s.toks) (fun b o hb q => eb b o hb q) f0 f1 f3 f4 f5⟩
  self A i s Q E st h := by
    obtain ⟨⟨⟨_, he⟩, _⟩, _⟩ := st
    exact wpAny_pyIter_enum he h
end
set_option maxHeartbeats 8000000 in
theorem enum_new {v : Value} {o : Obj} {S : Heap → Prop} (B : Begins v o S) :
    Meets (Builtin.«enumerate.__new__» ⟨[.type "enumerate", v], []⟩) (fun _ R s => S s.heap ∧
      R (.ok (.ret (.ref (s.heap.push o).objs.size)))
        { s with heap := (s.heap.push o).push { cls := .type "enumerate", data := .fields #[.none, .bool false, .ref s.heap.objs.size, rawInt 0, .none, .none] } }) := by
  refine .of_wp fun prog w A R s h => ?_
  obtain ⟨hp, g, d, tk, os⟩ := s
  obtain ⟨h1, h⟩ := h
  have hsub := sub_enumerate
  have q1 : ∀ {A' : Around} {E : Value → Shared → Prop} {Q : Value → Shared → Prop}, Q (.ref hp.objs.size) ⟨hp.push o, g, d, tk, os⟩ →
      wpAny (model prog w) A' (pyIter v) Q E ⟨hp, g, d, tk, os⟩ := fun q => B.iter prog w _ _ _ _ h1 q
  wp_walk using q1
  refine wpAny_stack_any fun st => wpAny_pure ?_
  split
  · rename_i c _ _ _ _ _
    cases (c == Value.type "enumerate") <;> (wp_walk using q1; exact ⟨_, rfl, h⟩)
  · wp_walk using q1
    exact ⟨_, rfl, h⟩
section
variable {prog : Program} {w : World} {A : Around} {E : Value → Shared → Prop} {s : Shared}
theorem enum_tup {t : Addr} {items : Array Value} {Q : Value → Shared → Prop} (hT : s.heap.IsTuple t items)
    (h : ∀ h', IsEnum h' (s.heap.objs.size + 1) s.heap.objs.size 0 .none → h'.IsTupleIter s.heap.objs.size t 0 → (∀ b o, s.heap.get? b = some o → h'.get? b = some o) → Q (.ref (s.heap.objs.size + 1)) { s with heap := h' }) :
    wpAny (model prog w) A (call (.type "enumerate") [.ref t]) Q E s := by
  have B := begins_tuple t items
  refine callType_new F.called_enumerate (by decide) (F.typeCall_enumerate_1 _) (F.newCall_enumerate_1 _) (fun obj => F.args_object_init_2 obj _) F.entry_enumerate_new (enum_new B) ⟨hT, ?_⟩
  have hz : (s.heap.push { cls := .type "tuple_iterator", data := .fields #[.ref t, .int 0 0] }).objs.size = s.heap.objs.size + 1 := Heap.size_push ..
  show _ ∧ _
  rw [hz]
  have he : IsEnum ((s.heap.push { cls := .type "tuple_iterator", data := .fields #[.ref t, .int 0 0] }).push { cls := .type "enumerate", data := .fields #[.none, .bool false, .ref s.heap.objs.size, rawInt 0, .none, .none] })
      (s.heap.objs.size + 1) s.heap.objs.size 0 .none := by
    have z := Heap.get?_push_size (s.heap.push { cls := .type "tuple_iterator", data := .fields #[.ref t, .int 0 0] }) (o := { cls := .type "enumerate", data := .fields #[.none, .bool false, .ref s.heap.objs.size, rawInt 0, .none, .none] }) rfl
    rw [hz] at z
    exact z
  exact ⟨⟨_, he, rfl⟩, h _ he ⟨_, Heap.get?_push_of_some _ (Heap.get?_push_size _ rfl), rfl, rfl⟩ fun b o x => Heap.get?_push_of_some _ (Heap.get?_push_of_some _ x)⟩
end
def iEnumT (K : PySem.W.Frag) (te : TE) : TI := fun σ H R => te σ H fun v H1 => ∃ a xs, v = .ref a ∧ SqT K H1 a xs ∧ R (Itet K a) H1
section
variable {X : Cx} {K : PySem.W.Frag} {e : Expr} {te : TE} {p pos tpos : Pos} {elts : List Expr} {kk : Nat}
theorem pi_enumT (hg : Gl X "enumerate") (hm : X.mg "enumerate" = none) (he : PE X e te) (hs : starEach [e] X.env = (false, eval e X.env) :: starEach [] X.env := by rfl) :
    PI X (.Tuple elts kk tpos) (.Call (.Name "enumerate" p) [e] [] pos) (iEnumT X.K te) := by
  refine ⟨fun pins s σ H R I h => ?_⟩
  refine Call_ (ld_blt I hg hm boot_enumerate (PyProof.Rows.callWith_type1 (one_arg he I h (fun v s1 x H1 I1 r q => ?_) hs) hs))
  obtain ⟨a, xs, rfl, hq, q⟩ := q
  cases r
  obtain ⟨its, rv, p', hz⟩ := I1.tuple hq
  have hal : a < s1.heap.objs.size := by
    obtain ⟨_, q, _⟩ := p'
    exact Heap.lt_size q
  refine enum_tup (show s1.heap.IsTuple a its.toArray from p') fun h' he hit hk => wpAny_pyIter_enum he ?_
  have I2 : Inv X pins σ H1 { s1 with heap := h' } := I1.kept (t' := s1.toks) hk
  refine ⟨s1.heap.objs.size + 1, [s1.heap.objs.size + 1, s1.heap.objs.size], _, _, H1, rfl, I2, turn_enumT a (s1.heap.objs.size + 1) s1.heap.objs.size, ⟨⟨⟨.none, he⟩, hit⟩, Nat.succ_ne_self _, Nat.ne_of_lt (Nat.lt_succ_of_lt hal), Nat.ne_of_lt hal⟩, fun b hb => ?_, q⟩
  have hle : s1.heap.objs.size ≤ b := by
    rcases (by simpa using hb : b = s1.heap.objs.size + 1 ∨ b = s1.heap.objs.size) with rfl | rfl
    · exact Nat.le_add_right _ _
    · exact Nat.le_refl _
  exact I1.fpOk hle (I1.hok.fresh hle)
end
/-- the items with their numbers -/
def dForE (d : DTE) (g : DGs) (b : DS) : DS := fun D τ => d τ fun x => ∃ xs, x = .tuple xs ∧ noLs xs = true ∧ ∃ W : Nat → DSt → Prop, W 0 τ ∧ (∀ i x τ', xs[i]? = some x → W i τ' → g [.int (i : Nat), x] τ' fun τ2 => b { D with nx := W (i + 1), ct := W (i + 1), bk := D.nx } τ2) ∧ ∀ τ', W xs.length τ' → D.nx τ'
section
variable {P : Program} {w : World} {K : PySem.W.Frag} {te : TE} {gs : TGs} {ws : List Nat} {dgs : DGs} {b : TS} {db : DS} {d : DTE}
theorem ss_forE (h : SE P w te d) (hg : SGs P w gs ws dgs) (hb : SS P w b db) : SS P w (tFor (iEnumT K te) (gTup K 2 gs) b) (dForE d dgs db) := ⟨fun {H0 H σ τ} R {D} hh {E} W => h.run R hh fun v H1 d e r hf => by
  obtain ⟨xs, rfl, nx, V, v0, turn, vd⟩ := hf
  cases r.bp rfl with
  | @tup a o us _ ha ho hbx =>
    have hul := hbx.len
    refine ⟨a, us, rfl, .inl (.inr ⟨_, ha⟩), fun i m σ' H' => m = xs.length - i ∧ i ≤ xs.length ∧ ∃ τ', Rep P w H0 H' σ' τ' ∧ Fr τ H1 τ' H' ∧ V i τ', ⟨xs.length, by simp, Nat.zero_le _, τ, R.to e, Fr.refl _ _, v0⟩, ?_⟩
    rintro i m σ' H' ⟨rfl, hi, τ', R', f', v'⟩
    have ha' : H' a = some (.frz o (.tup us)) := (f' a _ ha (fun _ z => nomatch z) ((R.to e).tup_free ha)).1
    by_cases hlt : i < xs.length
    · refine .inr ⟨⟨us, us[i]'(by omega), .inl (.inr ⟨_, ha'⟩), List.getElem?_eq_getElem _⟩, fun σ3 H3 => ∃ τ3, Rep P w H0 H3 σ3 τ3 ∧ Fr τ H1 τ3 H3 ∧ V (i + 1) τ3, fun σ3 H3 p3 => ⟨xs.length - (i + 1), by omega, rfl, hlt, p3⟩, fun x H2 y => ?_⟩
      obtain ⟨T, z, rfl, hT, rfl, hz⟩ := y
      have hz := hz us (.inl (.inr ⟨_, ha'⟩))
      obtain ⟨y, hy, by_⟩ := hbx.at' hz
      have ny : noL y = true := (noLs_iff xs).mp nx y (List.mem_of_getElem? hy)
      have s2 : Sm H' (upd H' T (.tup [.int (i : Nat), z])) := (Sm.refl H').new hT
      have bz : BpAll (upd H' T (.tup [.int (i : Nat), z])) [.int (i : Nat), z] [.int (i : Nat), y] := .cons (.int _) (.cons ((bp_fr (R.to e) f' ny by_).sm s2) .nil)
      refine ⟨T, _, rfl, .inl (.inl upd_same), rfl, hg.run (R'.to s2) bz (turn i y τ' hy v') fun σ2 τ2 R2 f2 _ h2 => ?_⟩
      have f3 := (f'.trans (Fr.sm s2)).trans f2
      exact hb.run R2 h2 ⟨fun σ3 H3 τ3 R3 f4 h3 => ⟨τ3, R3, f3.trans f4, h3⟩, fun σ3 H3 τ3 R3 f4 h3 => W.nx _ _ _ R3 (((Fr.sm e).trans f3).trans f4) h3, fun σ3 H3 τ3 R3 f4 h3 => ⟨τ3, R3, f3.trans f4, h3⟩, W.rt, W.rl⟩
    · have : i = xs.length := by omega
      subst this
      exact .inl ⟨⟨us, .inl (.inr ⟨_, ha'⟩), by omega⟩, W.nx _ _ _ R' ((Fr.sm e).trans f') (vd τ' v')⟩⟩
end
section
variable {X : Cx} {K : PySem.W.Frag} {e : Expr} {te : TE} {d : DTE} {p pos pos2 tpos : Pos} {elts : List Expr} {kk : Nat} {gs : TGs} {ws : List Nat} {dgs : DGs} {body : List Stmt} {b : TS} {db : DS}
theorem dforE (hp : PassesOwn (model X.prog X.w) X.A X.env X.xe) (hc : X.calm = true) (hgl : Gl X "enumerate") (hm : X.mg "enumerate" = none) (he : PD X K e te d) (hg : PGsd X K elts gs ws dgs) (hb : PSsd X K body b db) (hst : starEach [e] X.env = (false, eval e X.env) :: starEach [] X.env := by rfl)
    (hn : (assignEach elts X.env).length = 2 := by rfl) (hf : (assignEach elts X.env).findIdx? (·.1) = none := by rfl) (hs : ∀ x, foldedSetIterable (Expr.Call (.Name "enumerate" p) [e] [] pos2) X.env x = pure x := by intro _; rfl) :
    PSd X K (.For (.Tuple elts kk tpos) (.Call (.Name "enumerate" p) [e] [] pos2) body [] pos) (tFor (iEnumT K te) (gTup K 2 gs) b) (dForE d dgs db) := by
  have hK := he.hK
  subst hK
  exact ⟨rfl, ps_for hp hc (pi_enumT hgl hm he.pe hst) (pg_tup hc hg.pe hn hf) hb.pe hs, ss_forE he.se hg.se hb.se⟩
/-! ### sorted(xs) of ints -/
theorem lsort0 {a : Expr} {ta : TE} {da : DTE} (hc : X.calm = true) (hu : X.A.units + 64 < cLine) (hg : Gl X "sorted") (hm : X.mg "sorted" = none) (ha : PD X K a ta da) (na : starEach [a] X.env = (false, eval a X.env) :: starEach [] X.env := by rfl) :
    PLd X K (.Call (.Name "sorted" p) [a] [] pos) (tCB (rSortedI K) (tCons ta tNil)) (dSort0 da) := by
  have hK := ha.hK
  subst hK
  exact ⟨rfl, pe_callB cr_sortedI hg hm (by decide +kernel) (pa_cons ha.pe pa_nil na) (by decide) (by decide) na rfl, ⟨fun {_ _ _ _} R {F} h {Q} k => ha.se.run R h fun v H1 d e1 r1 h1 => by
    obtain ⟨ns, rfl, hf⟩ := h1
    cases r1.bp rfl with
    | @lst q us _ hq hb =>
      rw [hb.toInts] at hq
      exact ⟨q, ns, rfl, .inl (.inl hq), fun rs p pm ps hp => k p _ _ _ (e1.free hp) (e1.new (e1.free hp)) upd_same (BpAll.ints rs) (hf rs pm ps)⟩⟩⟩
end
/-! ### rules by names -/
section
variable {X : Cx} {K : PySem.W.Frag} {pos p : Pos} {a b : Expr} {ta tb : TE} {da db : DTE} {es : List Expr} {e : Expr} {t : TA} {dt : DTA}
theorem teq (hu : X.A.units + 64 < cLine) (ha : PD X K a ta da) (hb : PD X K b tb db) : PTd X K (.Compare a [.Eq] [b] pos) (tTest (tOp (rEqD K) ta tb)) (dB (dOp dEqD da db)) := by
  have hK := ha.hK
  subst hK
  exact tcmp (op_eqD hu) so_eqD (nomark _) ha hb
theorem tne (hu : X.A.units + 64 < cLine) (ha : PD X K a ta da) (hb : PD X K b tb db) : PTd X K (.Compare a [.NotEq] [b] pos) (tTest (tOp (rNeD K) ta tb)) (dB (dOp dNeD da db)) := by
  have hK := ha.hK
  subst hK
  exact tcmp (op_neD hu) so_neD (nomark _) ha hb
theorem tin (hu : X.A.units + 65 < cLine) (ha : PD X K a ta da) (hb : PD X K b tb db) (hm : behindInMarks .In b = false := by rfl) : PTd X K (.Compare a [.In] [b] pos) (tTest (tOp (rInD K) ta tb)) (dB (dOp (dInD false) da db)) := by
  have hK := ha.hK
  subst hK
  exact tcmp (op_inD hu) so_inD hm ha hb
theorem tnin (hu : X.A.units + 65 < cLine) (ha : PD X K a ta da) (hb : PD X K b tb db) (hm : behindInMarks .NotIn b = false := by rfl) : PTd X K (.Compare a [.NotIn] [b] pos) (tTest (tOp (rNotInD K) ta tb)) (dB (dOp (dInD true) da db)) := by
  have hK := ha.hK
  subst hK
  exact tcmp (op_notInD hu) so_notInD hm ha hb
theorem tinT (hu : X.A.units + 65 < cLine) (ha : PD X K a ta da) (hb : PD X K b tb db) (hm : behindInMarks .In b = false := by rfl) : PTd X K (.Compare a [.In] [b] pos) (tTest (tOp (rInT K false) ta tb)) (dB (dOp (dInT false) da db)) := by
  have hK := ha.hK
  subst hK
  exact tcmp (op_inT hu) so_inT hm ha hb
theorem tisN (ha : PD X K a ta da) (hb : PD X K b tb db) : PTd X K (.Compare a [.Is] [b] pos) (tTest (tOp rIsNn ta tb)) (dB (dOp (fun d e F => e = .none ∧ F (.bool (isNo d))) da db)) := tcmp op_isN so_isN (nomark _) ha hb
theorem tnotN (ha : PD X K a ta da) (hb : PD X K b tb db) : PTd X K (.Compare a [.IsNot] [b] pos) (tTest (tOp rNotNn ta tb)) (dB (dOp (fun d e F => e = .none ∧ F (.bool (!isNo d))) da db)) := tcmp op_notN so_notN (nomark _) ha hb
theorem dlen (hg : Gl X "len") (hm : X.mg "len" = none) (ha : PD X K a ta da) (he : starEach [a] X.env = (false, eval a X.env) :: starEach [] X.env := by rfl) : PD X K (.Call (.Name "len" p) [a] [] pos) (tCB (rLenC K) (tCons ta tNil)) (dCall dLen (daCons da daNil)) := by
  have hK := ha.hK
  subst hK
  exact dcallB call_len_seq sc_len hg hm PySem.boot_len (acons ha anil he) (by decide) (by decide) he rfl
theorem dall (hc : X.calm = true) (hg : Gl X "all") (hm : X.mg "all" = none) (ha : PD X K a ta da) (he : starEach [a] X.env = (false, eval a X.env) :: starEach [] X.env := by rfl) : PD X K (.Call (.Name "all" p) [a] [] pos) (tCB (rAll K) (tCons ta tNil)) (dCall dAll (daCons da daNil)) := by
  have hK := ha.hK
  subst hK
  exact dcallB (cr_all hc) sc_all hg hm (by decide +kernel) (acons ha anil he) (by decide) (by decide) he rfl
theorem dmax (hc : X.calm = true) (hg : Gl X "max") (hm : X.mg "max" = none) (ha : PD X K a ta da) (he : starEach [a] X.env = (false, eval a X.env) :: starEach [] X.env := by rfl) : PD X K (.Call (.Name "max" p) [a] [] pos) (tCB (rMax K) (tCons ta tNil)) (dCall dMax (daCons da daNil)) := by
  have hK := ha.hK
  subst hK
  exact dcallB (cr_max hc) sc_max hg hm (by decide +kernel) (acons ha anil he) (by decide) (by decide) he rfl
theorem dmin (hc : X.calm = true) (hg : Gl X "min") (hm : X.mg "min" = none) (ha : PD X K a ta da) (he : starEach [a] X.env = (false, eval a X.env) :: starEach [] X.env := by rfl) : PD X K (.Call (.Name "min" p) [a] [] pos) (tCB (rMin K) (tCons ta tNil)) (dCall dMin (daCons da daNil)) := by
  have hK := ha.hK
  subst hK
  exact dcallB (cr_min hc) sc_min hg hm (by decide +kernel) (acons ha anil he) (by decide) (by decide) he rfl
theorem dminD (hc : X.calm = true) (hu : X.A.units + 64 < cLine) (hg : Gl X "min") (hm : X.mg "min" = none) (ha : PD X K a ta da) (he : starEach [a] X.env = (false, eval a X.env) :: starEach [] X.env := by rfl) : PD X K (.Call (.Name "min" p) [a] [] pos) (tCB (rMinD K) (tCons ta tNil)) (dCall dMinD (daCons da daNil)) := by
  have hK := ha.hK
  subst hK
  exact dcallB (cr_minD hc hu) sc_minD hg hm (by decide +kernel) (acons ha anil he) (by decide) (by decide) he rfl
theorem dtoint (hg : Gl X "int") (hm : X.mg "int" = none) (ha : PD X K a ta da) (he : starEach [a] X.env = (false, eval a X.env) :: starEach [] X.env := by rfl) : PD X K (.Call (.Name "int" p) [a] [] pos) (tCB rInt1 (tCons ta tNil)) (dCall dInt1 (daCons da daNil)) := by
  have hK := ha.hK
  subst hK
  exact dcallT call_int1 sc_int1 hg hm (by decide +kernel) (acons ha anil he) (by decide) (by decide) he rfl
theorem llistOf (hg : Gl X "list") (hm : X.mg "list" = none) (ha : PD X K a ta da) (he : starEach [a] X.env = (false, eval a X.env) :: starEach [] X.env := by rfl) : PLd X K (.Call (.Name "list" p) [a] [] pos) (tCB (rListC K) (tCons ta tNil)) (dCallL (fun ds F => ∃ d xs, ds = [d] ∧ seqOf d = some xs ∧ F xs) (daCons da daNil)) := by
  have hK := ha.hK
  subst hK
  exact lcallT call_list_of scl_list hg hm (by decide +kernel) (acons ha anil he) (by decide) (by decide) he rfl
end
end Wk
end

section
set_option Elab.async false
set_option linter.all false
set_option maxRecDepth 100000
set_option maxHeartbeats 4000000
namespace Wk
open PySem PySem.Spec PyProof.Rows L2
/-! ### the program's defs by their places -/
def top (i : Nat) : Stmt := PySem.Challenge.pw_wokeas_k96_whole_settled_machines_replac.main.body.getD i (.Pass ⟨0, 0, 0, 0⟩)
abbrev s_as_set : Stmt := top 1
abbrev s_all_standings : Stmt := top 2
abbrev s_left_by : Stmt := top 3
abbrev s_nexts_of : Stmt := top 4
abbrev s_after_by : Stmt := top 5
abbrev s_part_by : Stmt := top 6
abbrev s_marks_of : Stmt := top 8
abbrev s_marks_by : Stmt := top 9
abbrev s_merged_by : Stmt := top 10
abbrev s_led_from : Stmt := top 12
abbrev s_least_parts : Stmt := top 13
abbrev s_numbered_from : Stmt := top 14
abbrev s_core_by : Stmt := top 15
abbrev s_cores_by : Stmt := top 16
abbrev s_settled_by : Stmt := top 17
abbrev s_is_integer : Stmt := top 23
abbrev s_is_number : Stmt := top 24
abbrev s_is_pair : Stmt := top 25
abbrev s_is_by_form : Stmt := top 27
abbrev s_machine_fault : Stmt := top 28
abbrev s_is_machine : Stmt := top 29
abbrev s_want : Stmt := top 31
abbrev s_want_machine : Stmt := top 32
abbrev s_is_place_by_form : Stmt := top 34
abbrev s_guard_fault : Stmt := top 35
abbrev s_want_many : Stmt := top 36
abbrev s_is_guard : Stmt := top 37
abbrev s_want_both : Stmt := top 39
abbrev s_want_case : Stmt := top 40
abbrev s_cores_of : Stmt := top 42
abbrev s_settled_after : Stmt := top 43
abbrev s_shares_cores : Stmt := top 44
abbrev s_goal_by : Stmt := top 46
abbrev s_states_behind : Stmt := top 47
abbrev s_states_begun : Stmt := top 48
abbrev s_failing_from : Stmt := top 49
abbrev s_failing_by : Stmt := top 50
abbrev s_may_by : Stmt := top 51
abbrev s_least_by : Stmt := top 52
abbrev s_may_replace : Stmt := top 54
abbrev s_least_beats : Stmt := top 55
abbrev s_are_alike : Stmt := top 56
abbrev s__law_feed : Stmt := top 58
abbrev s__law_pick : Stmt := top 59
abbrev s__law_names : Stmt := top 60
abbrev s__law_drawn : Stmt := top 61
abbrev s__law_called : Stmt := top 62
abbrev s__law_joined : Stmt := top 63
abbrev s__law_labels : Stmt := top 64
abbrev s__law_merged : Stmt := top 65
abbrev s__law_from : Stmt := top 66
abbrev s__law_numbered : Stmt := top 67
abbrev s__law_core_at : Stmt := top 68
abbrev s__law_shares : Stmt := top 69
abbrev s__law_behind : Stmt := top 70
abbrev s__law_settled : Stmt := top 71
abbrev s__law_may : Stmt := top 72
abbrev s__law_same : Stmt := top 73
abbrev s__law_led : Stmt := top 74
abbrev s__law_near : Stmt := top 75
abbrev s__law_is_fine : Stmt := top 76
abbrev s__law_are_fine : Stmt := top 77
abbrev s_law : Stmt := top 78

/-- a def that stands behind the top -/
def Df (K : PySem.W.Frag) (mg : Str → Option Value) (x : Str) (st : Stmt) (dvs : List L2.V) (kws : List (Str × L2.V)) : Prop := ∃ f fd, FunD K x x (defArgs st) (defBody st) (defScope st) dvs kws f fd ∧ mg x = some (.ref f)
/-- names that are free for what is built in -/
structure Fre (mg : Str → Option Value) : Prop where
  len : mg "len" = none
  tuple : mg "tuple" = none
  sorted : mg "sorted" = none
  set : mg "set" = none
  range : mg "range" = none
  min : mg "min" = none
  max : mg "max" = none
  all : mg "all" = none
  list : mg "list" = none
  isinstance : mg "isinstance" = none
  int : mg "int" = none
  enumerate : mg "enumerate" = none
  bool : mg "bool" = none
  str : mg "str" = none
theorem Df.own {P : Program} {w : World} {K : PySem.W.Frag} {mg : Str → Option Value} {base : Heap} {k : Nat} {x : Str} {st : Stmt} {ps : List Str} {sp : Sp} (D : Df K mg x st [] [])
    (h : ∀ f fd, FunD K x x (defArgs st) (defBody st) (defScope st) [] [] f fd → FnOk P w K mg base CX0 k f fd ps sp)
    (hb : ∀ (kV doc pm : Value) (an : Option Addr) (cdv ct : Value) (us : List Value), us.length = ps.length → bindArgs (PySem.W.fnOf x x (defArgs st) (defBody st) (defScope st) .none kV doc pm an cdv ct) ⟨us, []⟩ = pure (ps.zip us)) : Own P w K mg base k x [] sp := by
  obtain ⟨f, fd, F, hm⟩ := D
  exact ⟨f, fd, ps, [], h f fd F, hm, F.kp, F.bindsN hb, .nil, fun _ => .nil⟩
theorem Room.units65 {k : Nat} {A : Around} (r : Room k A) : A.units + 65 < cLine := by have := r.un; omega
/-! ### data of machines -/
def eI (n : Nat) : PyData := .int (n : Nat)
def eS (l : List Nat) : PyData := .tuple (l.map eI)
theorem eI_ints (l : List Nat) : l.map eI = (l.map fun n => ((n : Nat) : Int)).map PyData.int := by
  rw [List.map_map]
  rfl
theorem noLs_eI (l : List Nat) : noLs (l.map eI) = true := noLs_map _ l fun _ _ => rfl
theorem noL_eS (l : List Nat) : noL (eS l) = true := noLs_eI l
end Wk
end

section
set_option Elab.async false
set_option linter.all false
set_option maxRecDepth 100000
set_option maxHeartbeats 4000000
namespace Wk
open PySem PySem.Spec PyProof.Rows L2
/-! ### dicts of tuple keys -/
theorem keysD {H : Hp} {K : PySem.W.Frag} {L : NL} (h : ∀ x ∈ L, Bp H (.ref x.2.1) x.1 ∧ TupD x.1) : ∀ x ∈ L, KeyD K H x := fun x hx => ⟨(h x hx).1.dp, (h x hx).2⟩
theorem Rp.tupD {H : Hp} {v : L2.V} {d : PyData} (r : Rp H v d) (t : TupD d) : ∃ b, v = .ref b ∧ Bp H (.ref b) d := by
  obtain ⟨_, _, x, xs, rfl⟩ := t
  have hb := r.bp rfl
  cases hb with
  | tup a b c => exact ⟨_, rfl, .tup a b c⟩
def dNotIn (i : Nat) (dk : DTE) : DTT := fun τ F => dk τ fun d => ∃ p kvs, τ[i]? = some (some (.n p kvs)) ∧ TupD d ∧ ∀ c : Bool, (c = true ↔ d ∈ kvs.map (·.1)) → F (!c)
def dGetN (i : Nat) (dk : DTE) : DTE := fun τ F => ∃ p kvs, τ[i]? = some (some (.n p kvs)) ∧ dk τ fun d => ∃ z, TupD d ∧ (d, z) ∈ kvs ∧ F z
def dLenN (i : Nat) : DTE := fun τ F => ∃ p kvs, τ[i]? = some (some (.n p kvs)) ∧ F (.int kvs.length)
def dSetN (i : Nat) (dk dv : DTE) : DS := fun D τ => dv τ fun v => ∃ p kvs, τ[i]? = some (some (.n p kvs)) ∧ dk τ fun d => TupD d ∧ noL d = true ∧ noL v = true ∧ d ∉ kvs.map (·.1) ∧ kvs.length < 1000 ∧ D.nx (τ.set i (some (.n p (kvs ++ [(d, v)]))))
def rLenN (P : Program) (w : World) (K : PySem.W.Frag) : List L2.V → Hp → VK → Prop := fun xs H Q => ∃ a L, xs = [.ref a] ∧ H a = some (DictNO P w a L) ∧ (∀ x ∈ L, KeyD K H x) ∧ Q (.int L.length) H
section
variable {P : Program} {w : World} {K : PySem.W.Frag} {tk tv : TE} {dk dv : DTE}
theorem sv_newN : SV P w (tDNewN P w) (fun _ F => F (.n [])) := ⟨fun {_ H _ _} R {F} h {Q} k p hp => k _ _ (.n []) ((Sm.refl H).new hp) ⟨p, rfl, hp, [], upd_same, fun _ z => (by simp at z), rfl, .nil, rfl, rfl⟩ h⟩
theorem st_notIn {i : Nat} (hk : SE P w tk dk) : ST P w (tTest (tOp (rInN P w K true) tk (tVar i))) (dNotIn i dk) := ⟨fun {_ _ _ _} R {F} h {Q} k => hk.run R h fun v H1 d e1 r1 h1 => by
  obtain ⟨p, kvs, hx, ht, hf⟩ := h1
  obtain ⟨u, hu, rfl, h0, L, hD, hL, hLk, _⟩ := (R.to e1).slot i _ hx
  obtain ⟨b, rfl, hb⟩ := r1.tupD ht
  refine ⟨_, hu, p, b, d, L, rfl, rfl, hb.dp, ht, hD, keysD hL, fun c hc => ⟨!c, rfl, k _ H1 e1 (hf c (by rw [hc, hLk]))⟩⟩⟩
theorem bpAll_mem {H : Hp} {L : NL} {kvs : List (PyData × PyData)} (h1 : L.map (·.1) = kvs.map (·.1)) (h2 : BpAll H (L.map (·.2.2)) (kvs.map (·.2))) {d z : PyData} (hm : (d, z) ∈ kvs) : ∃ c v, (d, c, v) ∈ L ∧ Bp H v z := by
  obtain ⟨i, hi, e⟩ := List.getElem_of_mem hm
  have hz : (kvs.map (·.2))[i]? = some z := by rw [List.getElem?_map, List.getElem?_eq_getElem hi, e]; rfl
  obtain ⟨v, hv, hb⟩ := h2.at hz
  have hd : (kvs.map (·.1))[i]? = some d := by rw [List.getElem?_map, List.getElem?_eq_getElem hi, e]; rfl
  rw [← h1, List.getElem?_map] at hd
  rw [List.getElem?_map] at hv
  cases q : L[i]? with
  | none => rw [q] at hd; cases hd
  | some x =>
    rw [q] at hd hv
    cases hd
    cases hv
    exact ⟨x.2.1, x.2.2, List.mem_of_getElem? q, hb⟩
theorem se_getN {i : Nat} (hk : SE P w tk dk) : SE P w (tOp (rGetN P w K) (tVar i) tk) (dGetN i dk) := ⟨fun {_ _ _ _} R {F} h {Q} k => by
  obtain ⟨p, kvs, hx, h⟩ := h
  obtain ⟨u, hu, rfl, _⟩ := R.slot i _ hx
  refine ⟨_, hu, hk.run R h fun v H1 d e1 r1 h1 => ?_⟩
  obtain ⟨z, ht, hm, hf⟩ := h1
  obtain ⟨u, hu, _, h0, L, hD, hL, hLk, hLv, _⟩ := (R.to e1).slot i _ hx
  obtain ⟨b, rfl, hb⟩ := r1.tupD ht
  obtain ⟨c, v, hmem, hvz⟩ := bpAll_mem hLk hLv hm
  exact ⟨p, b, d, L, c, v, rfl, rfl, hb.dp, ht, hD, keysD hL, hmem, k v H1 z e1 (.inl hvz) hf⟩⟩
theorem se_lenN {i : Nat} : SE P w (tCB (rLenN P w K) (tCons (tVar i) tNil)) (dLenN i) := ⟨fun {_ H _ _} R {F} h {Q} k => by
  obtain ⟨p, kvs, hx, hf⟩ := h
  obtain ⟨u, hu, rfl, h0, L, hD, hL, hLk, _⟩ := R.slot i _ hx
  refine ⟨_, hu, p, L, rfl, hD, keysD hL, k _ H _ (Sm.refl H) (.inl ?_) hf⟩
  have : L.length = kvs.length := by
    have := congrArg List.length hLk
    simpa using this
  rw [this]
  exact .int _⟩
theorem ss_setN {i : Nat} (hk : SE P w tk dk) (hv : SE P w tv dv) : SS P w (tAsg tv (gSub (tVar i) tk (rSetN P w K))) (dSetN i dk dv) := ⟨fun {_ _ _ _} R {D} h {E} W => hv.run R h fun v H1 y e1 r1 h1 => by
  obtain ⟨p, kvs, hx, h1⟩ := h1
  obtain ⟨u, hu, rfl, _⟩ := R.slot i _ hx
  refine ⟨_, hu, hk.run (R.to e1) h1 fun u2 H2 d e2 r2 h2 => ?_⟩
  obtain ⟨ht, nd, nv, hnew, hlen, hf⟩ := h2
  have R2 := R.to (e1.trans e2)
  obtain ⟨u, hu, _, h0, L, hD, hL, hLk, hLv, n1, n2⟩ := R2.slot i _ hx
  obtain ⟨b, rfl, hb⟩ := r2.tupD ht
  have hll : L.length = kvs.length := by
    have := congrArg List.length hLk
    simpa using this
  refine ⟨p, b, d, L, rfl, rfl, hb.dp, ht, hD, keysD hL, by rw [hLk]; exact hnew, by omega, ?_⟩
  have kt : ∀ a o zs, H2 a = some (.frz o (.tup zs)) → upd H2 p (DictNO P w p (L ++ [(d, b, v)])) a = some (.frz o (.tup zs)) := fun a o zs q => by
    rw [upd_ne (fun z => by subst z; rw [hD] at q; cases q)]
    exact q
  refine W.nx _ _ _ (R2.write hx rfl (y := .n p (kvs ++ [(d, y)])) rfl ⟨rfl, h0, L ++ [(d, b, v)], upd_same, fun x hm => ?_, ?_, ?_, ?_, ?_⟩) ((Fr.sm (e1.trans e2)).trans (Fr.write hx rfl rfl)) hf
  · rcases List.mem_append.mp hm with hm | hm
    · refine ⟨bp_tup kt ?_ (hL x hm).1, (hL x hm).2⟩
      exact (noLs_iff _).mp n1 _ (by rw [← hLk]; exact List.mem_map.mpr ⟨x, hm, rfl⟩)
    · rw [List.mem_singleton.mp hm]
      exact ⟨bp_tup kt nd hb, ht⟩
  · rw [List.map_append, List.map_append, hLk]
    rfl
  · rw [List.map_append, List.map_append]
    exact (bps_tup kt n2 hLv).app (.cons (bp_tup kt nv ((r1.sm e2).bp (noF_noL nv))) .nil)
  · rw [List.map_append]
    exact noLs_app n1 (by simp [noLs, nd])
  · rw [List.map_append]
    exact noLs_app n2 (by simp [noLs, nv])⟩
/-- {k: v for .. in xs} -/
def dDcN (src : DTE) (g : DG) (dk dv : DTE) (vs : List Nat) : DTV := fun τ F => src τ fun d => ∃ xs, d = .list xs ∧ ∃ V : Nat → List (PyData × PyData) → Prop, V 0 [] ∧
  (∀ i acc x, V i acc → xs[i]? = some x → g x (wipeD τ vs) fun τ2 => dk τ2 fun k => dv τ2 fun v => TupD k ∧ noL k = true ∧ noL v = true ∧ k ∉ acc.map (·.1) ∧ acc.length < 1000 ∧ V (i + 1) (acc ++ [(k, v)])) ∧ ∀ acc, V xs.length acc → F (.n acc)
theorem sv_dcN {tl : TE} {dl : DTE} {g : TG} {dg : DG} {ws vs : List Nat} (hl : SE P w tl dl) (hg : SG P w g ws dg) (hw : ∀ i ∈ ws, i ∈ vs) (hk : SE P w tk dk) (hv : SE P w tv dv) : SV P w (tDcN P w K (iList K tl) g tYes tk tv vs) (dDcN dl dg dk dv vs) := ⟨fun {H0 H _ _} R {F} h {Q} k => hl.run R h fun v H1 d e1 r1 h1 => by
  obtain ⟨xs, rfl, V, v0, turn, vd⟩ := h1
  cases r1.bp rfl with
  | @lst a us _ ha hb =>
    have hul := hb.len
    refine ⟨a, rfl, ⟨us, .inl (.inl ha)⟩, fun D hD => ⟨fun i m H' => m = xs.length - i ∧ i ≤ xs.length ∧ ∃ kvs, Sm H1 H' ∧ NRep P w H' D kvs ∧ V i kvs, ⟨xs.length, by simp, Nat.zero_le _, [], (Sm.refl H1).new hD, ⟨[], upd_same, fun _ z => (by simp at z), rfl, .nil, rfl, rfl⟩, v0⟩, ?_⟩⟩
    rintro i m H' ⟨rfl, hi, kvs, s, nr, hV⟩
    have hq : SqL K H' a us := .inl (.inl (s.lst ha))
    by_cases hlt : i < xs.length
    · refine .inr ⟨⟨us, us[i]'(by omega), hq, List.getElem?_eq_getElem _⟩, fun H2 => ∃ kvs, Sm H1 H2 ∧ NRep P w H2 D kvs ∧ V (i + 1) kvs, fun H2 p => ⟨xs.length - (i + 1), by omega, rfl, hlt, p⟩, fun x H2 y => ?_⟩
      obtain ⟨e, y⟩ := y
      subst e
      have hx := y us hq
      obtain ⟨d, hd, bd⟩ := hb.at' hx
      refine hg.run ((R.to (e1.trans s)).wipe vs) (.inl (bd.sm s)) (turn i kvs d hV hd) fun σ2 τ2 R2 _ w2 h2 => ⟨by rw [w2 vs hw, wipe_wipe], ?_⟩
      show tk σ2 H2 _
      refine hk.run R2 h2 fun y H4 kd s4 r4 h4 => hv.run (R2.to s4) h4 fun z H5 vd5 s5 r5 h5 => ?_
      obtain ⟨ht, nk, nv, hnew, hlen, h5⟩ := h5
      obtain ⟨b, rfl, hbk⟩ := (r4.sm s5).tupD ht
      have s45 := s4.trans s5
      obtain ⟨L, hDL, hL, hLk, hLv, n1, n2⟩ := nr.sm s45
      have hll : L.length = kvs.length := by
        have := congrArg List.length hLk
        simpa using this
      have kt : ∀ a o zs, H5 a = some (.frz o (.tup zs)) → upd H5 D (DictNO P w D (L ++ [(kd, b, z)])) a = some (.frz o (.tup zs)) := fun a o zs q => by
        rw [upd_ne (fun c => by subst c; rw [hDL] at q; cases q)]
        exact q
      refine ⟨L, kd, b, rfl, hbk.dp, ht, hDL, keysD hL, by rw [hLk]; exact hnew, by omega, kvs ++ [(kd, vd5)], (s.trans s45).new hD, ⟨L ++ [(kd, b, z)], upd_same, fun x hm => ?_, ?_, ?_, ?_, ?_⟩, h5⟩
      · rcases List.mem_append.mp hm with hm | hm
        · exact ⟨bp_tup kt ((noLs_iff _).mp n1 _ (by rw [← hLk]; exact List.mem_map.mpr ⟨x, hm, rfl⟩)) (hL x hm).1, (hL x hm).2⟩
        · rw [List.mem_singleton.mp hm]
          exact ⟨bp_tup kt nk hbk, ht⟩
      · rw [List.map_append, List.map_append, hLk]
        rfl
      · rw [List.map_append, List.map_append]
        exact (bps_tup kt n2 hLv).app (.cons (bp_tup kt nv (r5.bp (noF_noL nv))) .nil)
      · rw [List.map_append]
        exact noLs_app n1 (by simp [noLs, nk])
      · rw [List.map_append]
        exact noLs_app n2 (by simp [noLs, nv])
    · have e : i = xs.length := by omega
      subst e
      exact .inl ⟨⟨us, hq, by omega⟩, k _ H' (.n kvs) (e1.trans s) ⟨D, rfl, e1.free hD, nr⟩ (vd kvs hV)⟩⟩
end
section
variable {X : Cx} {K : PySem.W.Frag} {pos pos' p : Pos} {x : Str} {a b : Expr} {tk tv : TE} {dk dv : DTE}
theorem vnewN (hK : X.K = K := by rfl) : PV X K (.Dict [] [] pos) (tDNewN X.prog X.w) (fun _ F => F (.n [])) := ⟨hK, pe_dnewN, sv_newN⟩
theorem tninN (hu : X.A.units + 64 < cLine) (i : Nat) (hk : PD X K a tk dk) (hN : X.N[i]? = some x := by rfl) (hv : Vis X.env.scope x := by first | exact Or.inl rfl | exact Or.inr (Or.inl rfl) | exact Or.inr (Or.inr rfl)) (hd : (x == ("__debug__" : Str)) = false := by decide)
    (hcd : (x == ("__classdict__" : Str)) = false := by decide) (hm : behindInMarks .NotIn (.Name x pos') = false := by rfl) : PTd X K (.Compare a [.NotIn] [.Name x pos'] pos) (tTest (tOp (rInN X.prog X.w K true) tk (tVar i))) (dNotIn i dk) := by
  have hK := hk.hK
  subst hK
  exact ⟨rfl, pt_cmpR (op_notInN hu) hk.pe (pe_var hN hv hd hcd) hm, st_notIn hk.se⟩
theorem dixN (P : Program) (w : World) (hu : X.A.units + 64 < cLine) (i : Nat) (hk : PD X K a tk dk) (hP : X.prog = P := by rfl) (hW : X.w = w := by rfl) (hp : PlainIx a := by exact fun _ _ => rfl) (hN : X.N[i]? = some x := by rfl) (hv : Vis X.env.scope x := by first | exact Or.inl rfl | exact Or.inr (Or.inl rfl) | exact Or.inr (Or.inr rfl)) (hd : (x == ("__debug__" : Str)) = false := by decide)
    (hcd : (x == ("__classdict__" : Str)) = false := by decide) : PD X K (.Subscript (.Name x pos') a pos) (tOp (rGetN P w K) (tVar i) tk) (dGetN i dk) := by
  have hK := hk.hK
  subst hK hP hW
  exact ⟨rfl, pe_ix (ix_nest hu) (pe_var hN hv hd hcd) hk.pe hp, se_getN hk.se⟩
theorem dlenN (hg : Gl X "len") (hm : X.mg "len" = none) (i : Nat) (hN : X.N[i]? = some x := by rfl) (hv : Vis X.env.scope x := by first | exact Or.inl rfl | exact Or.inr (Or.inl rfl) | exact Or.inr (Or.inr rfl)) (hd : (x == ("__debug__" : Str)) = false := by decide)
    (hcd : (x == ("__classdict__" : Str)) = false := by decide) (he : starEach [Expr.Name x pos'] X.env = (false, eval (.Name x pos') X.env) :: starEach [] X.env := by rfl) (hK : X.K = K := by rfl) : PD X K (.Call (.Name "len" p) [.Name x pos'] [] pos) (tCB (rLenN X.prog X.w K) (tCons (tVar i) tNil)) (dLenN i) := by
  subst hK
  exact ⟨rfl, pe_callB call_lenN hg hm PySem.boot_len (pa_cons (pe_var hN hv hd hcd) pa_nil he) (by decide) (by decide) he rfl, se_lenN⟩
theorem dsetN (hu : X.A.units + 64 < cLine) (i : Nat) (hk : PD X K a tk dk) (hv : PD X K b tv dv) (hN : X.N[i]? = some x := by rfl) (hvis : Vis X.env.scope x := by first | exact Or.inl rfl | exact Or.inr (Or.inl rfl) | exact Or.inr (Or.inr rfl)) (hd : (x == ("__debug__" : Str)) = false := by decide)
    (hcd : (x == ("__classdict__" : Str)) = false := by decide) (ha : ∀ v, assign (.Subscript (.Name x pos') a p) X.env v = (do
      let ov ← holding [v] (eval (.Name x pos') X.env)
      let iv ← holding [v, ov] (eval a X.env)
      standAt p
      holding [v, ov, iv] (setItem ov iv v)
      release [v, ov, iv] []) := by intro _; rfl) (hs : swapsWithSole [.Subscript (.Name x pos') a p] b pos.line X.env = pure false := by rfl) (hw : swappedStores [.Subscript (.Name x pos') a p] b X.env = pure none := by rfl)
    (h1 : (assignEach [Expr.Subscript (.Name x pos') a p] X.env).map (·.2) = [assign (.Subscript (.Name x pos') a p) X.env] := by rfl) : PSd X K (.Assign [.Subscript (.Name x pos') a p] b pos) (tAsg tv (gSub (tVar i) tk (rSetN X.prog X.w K))) (dSetN i dk dv) := by
  have hK := hk.hK
  subst hK
  exact ⟨rfl, ps_asg hv.pe (pg_sub (pe_var hN hvis hd hcd) hk.pe (set_nest hu) ha) hs hw h1, ss_setN hk.se hv.se⟩
end
section
variable {X : Cx} {K : PySem.W.Frag} {kx vx tg iter : Expr} {scope : Scope} {own : List (Str × Nat)} {pos : Pos} {tl : TE} {dl : DTE} {g : TG} {tk tv : TE} {dg : DG} {dk dv : DTE}
theorem vdcN (hu : X.A.units + 64 < cLine) (hi : PD X K iter tl dl) (h : PLc X K kx tg [] scope own g tYes tk dg dYes dk) (he : ∀ (s : Shared) (H : Hp) (C : Addr) (cl : List (Str × Addr)) (fp : List Addr), PD (X.blk s H scope (compEnvC scope cl C X.env) fp) K vx tv dv) (hs : ∀ x, foldedSetIterable iter X.env x = pure x := by intro _; rfl) :
    PV X K (.DictComp kx vx [⟨tg, iter, [], 0⟩] scope pos) (tDcN X.prog X.w K (iList K tl) g tYes tk tv (own.map (·.2))) (dDcN dl dg dk dv (own.map (·.2))) := by
  have hK := hi.hK
  subst hK
  obtain ⟨ws, h1, h2⟩ := h.sg
  exact ⟨rfl, pe_dcN h.hc hu h.hN (pi_list hi.pe) h.ok h.pg h.pt h.pe (fun a b c d e => (he a b c d e).pe) hs, sv_dcN hi.se h1 h2 h.se (he X.s_0 X.H_0 0 [] []).se⟩
theorem dsetDcN {y : Str} {py spos : Pos} (i : Nat) (hu : X.A.units + 64 < cLine) (hi : PD X K iter tl dl) (h : PLc X K kx tg [] scope own g tYes tk dg dYes dk) (he : ∀ (s : Shared) (H : Hp) (C : Addr) (cl : List (Str × Addr)) (fp : List Addr), PD (X.blk s H scope (compEnvC scope cl C X.env) fp) K vx tv dv) (hy : X.N[i]? = some y := by rfl) (hyl : X.env.scope.names.lookup y = some .local := by rfl)
    (hsw : swapsWith (.DictComp kx vx [⟨tg, iter, [], 0⟩] scope pos) (some (.Name y py)) spos.line X.env = pure true := by exact swN_true rfl rfl rfl (by decide +kernel)) (hs : ∀ x, foldedSetIterable iter X.env x = pure x := by intro _; rfl) :
    PSd X K (.Assign [.Name y py] (.DictComp kx vx [⟨tg, iter, [], 0⟩] scope pos) spos) (tAsg (tDcN X.prog X.w K (iList K tl) g tYes tk tv (own.map (·.2))) (gName i)) (dSet i (dDcN dl dg dk dv (own.map (·.2)))) := by
  have hK := hi.hK
  subst hK
  obtain ⟨ws, h1, h2⟩ := h.sg
  exact ⟨rfl, ps_setDcN h.hc hu h.hN hy hyl hsw (pi_list hi.pe) h.ok h.pg h.pt h.pe (fun a b c d e => (he a b c d e).pe) hs, ss_set (sv_dcN hi.se h1 h2 h.se (he X.s_0 X.H_0 0 [] []).se)⟩
end
end Wk
end

section
set_option Elab.async false
set_option linter.all false
set_option maxRecDepth 100000
set_option maxHeartbeats 4000000
namespace Wk
open PySem PySem.Spec PyProof.Rows L2
/-! ### {old: k for k, old in enumerate(t)} -/
def spotsOf (S : List Int) : List (Int × Int) := S.zipIdx.map fun q => (q.1, (q.2 : Int))
def dDcS (src : DTE) (i j : Nat) : DTV := fun τ F => src τ fun d => ∃ S : List Int, d = .list (S.map .int) ∧ S.Nodup ∧ S.length ≤ 1000 ∧ i < τ.length ∧ j < τ.length ∧ F (.s (spotsOf S))
theorem putK_new {kvs : List (Key × L2.V)} {k : Key} {v : L2.V} (h : k ∉ kvs.map (·.1)) : putK kvs k v = kvs ++ [(k, v)] := by
  unfold putK
  rw [if_neg]
  intro hc
  rw [List.any_eq_true] at hc
  obtain ⟨x, hx, e⟩ := hc
  exact h (List.mem_map.mpr ⟨x, hx, of_decide_eq_true e⟩)
theorem spots_take (S : List Int) (n : Nat) (x : Int) (h : S[n]? = some x) : spotsOf (S.take (n + 1)) = spotsOf (S.take n) ++ [(x, (n : Int))] := by
  unfold spotsOf
  have hn : n < S.length := (List.getElem?_eq_some_iff.mp h).1
  rw [List.take_add_one, h, List.zipIdx_append, List.map_append, List.length_take, Nat.min_eq_left (by omega)]
  simp
section
variable {P : Program} {w : World} {K : PySem.W.Frag} {tl : TE} {dl : DTE}
theorem sv_dcS {i j : Nat} {vs : List Nat} (hij : i ≠ j) (hi : i ∈ vs) (hj : j ∈ vs) (hl : SE P w tl dl) : SV P w (tDc (iEnum K (tCons tl tNil)) (gTup K 2 (gCons (gName i) (gCons (gName j) gNil))) tYes (tVar j) (tVar i) vs) (dDcS dl i j) := ⟨fun {H0 H σ τ} R {F} h {Q} k => hl.run R h fun v H1 d e1 r1 h1 => by
  obtain ⟨S, rfl, nd, hz, li, lj, hf⟩ := h1
  cases r1.bp rfl with
  | @lst a us _ ha hb =>
    rw [hb.toInts] at ha
    have lenσ : (wipe σ vs).length = τ.length := by rw [wipe_length, R.len]
    refine ⟨a, S.map V.int, rfl, .inl (.inl ha), fun D hD => ⟨fun n m H' => m = S.length - n ∧ n ≤ S.length ∧ Sm H1 H' ∧ H' D = some (.dK ((spotsOf (S.take n)).map fun q => (Sum.inl q.1, V.int q.2))), ⟨S.length, by simp, Nat.zero_le _, (Sm.refl H1).new hD, upd_same⟩, ?_⟩⟩
    rintro n m H' ⟨rfl, hn, s, hDk⟩
    have hq : SqL K H' a (S.map V.int) := .inl (.inl (s.lst ha))
    by_cases hlt : n < S.length
    · refine .inr ⟨⟨S.map V.int, V.int S[n], hq, by rw [List.getElem?_map, List.getElem?_eq_getElem hlt]; rfl⟩, fun H2 => Sm H1 H2 ∧ H2 D = some (.dK ((spotsOf (S.take (n + 1))).map fun q => (Sum.inl q.1, V.int q.2))), fun H2 p => ⟨S.length - (n + 1), by omega, rfl, hlt, p⟩, fun x H2 y => ?_⟩
      obtain ⟨T, z, rfl, hT, rfl, hz2⟩ := y
      have hz2 := hz2 _ hq
      rw [List.getElem?_map, List.getElem?_eq_getElem hlt] at hz2
      cases hz2
      have nDT : D ≠ T := ne_of_none hDk hT
      refine ⟨T, _, rfl, .inl (.inl upd_same), rfl, _, _, rfl, _, _, rfl, rfl, ?_, ?_⟩
      · rw [wipe_set hj, wipe_set hi, wipe_wipe]
      · refine ⟨.int S[n], List.getElem?_set_self (by rw [List.length_set, lenσ]; exact lj), .int (n : Nat), ?_, (spotsOf (S.take n)).map fun q => (Sum.inl q.1, V.int q.2), Sum.inl S[n], rfl, ?_, ?_, ?_, ?_⟩
        · rw [List.getElem?_set_ne (Ne.symm hij), List.getElem?_set_self (by rw [lenσ]; exact li)]
        · rw [upd_ne nDT]
          exact hDk
        · rw [List.length_map]
          unfold spotsOf
          rw [List.length_map, List.length_zipIdx, List.length_take]
          exact small1000 (by omega)
        · exact (s.new (s.free hT)).new hD
        · rw [upd_same, putK_new ?_, spots_take S n S[n] (List.getElem?_eq_getElem hlt), List.map_append]
          · rfl
          · rw [List.map_map]
            intro hm
            obtain ⟨q, hq2, e⟩ := List.mem_map.mp hm
            unfold spotsOf at hq2
            obtain ⟨q2, hq3, rfl⟩ := List.mem_map.mp hq2
            have e2 : q2.1 = S[n] := Sum.inl.inj e
            have h3 := List.mem_zipIdx hq3
            have h4 : q2.1 ∈ S.take n := by
              rw [h3.2.2]
              exact List.getElem_mem _
            obtain ⟨m, hm1, hm2⟩ := List.getElem_of_mem h4
            rw [List.length_take] at hm1
            rw [List.getElem_take] at hm2
            exact List.pairwise_iff_getElem.mp nd m n (by omega) hlt (by omega) (hm2.trans e2)
    · have e : n = S.length := by omega
      subst e
      rw [List.take_length] at hDk
      exact .inl ⟨⟨_, hq, by rw [List.length_map]; exact Nat.le_refl _⟩, k _ H' (.s (spotsOf S)) (e1.trans s) ⟨D, rfl, e1.free hD, hDk⟩ hf⟩⟩
def dGetS (i : Nat) (dk : DTE) : DTE := fun τ F => ∃ p kvs, τ[i]? = some (some (.s p kvs)) ∧ dk τ fun d => ∃ n z, d = .int n ∧ kvs.find? (fun q => decide (q.1 = n)) = some (n, z) ∧ F (.int z)
theorem valV_s {kvs : List (Int × Int)} {n z : Int} (h : kvs.find? (fun q => decide (q.1 = n)) = some (n, z)) : valV (kvs.map fun q => ((Sum.inl q.1 : Key), V.int q.2)) (Sum.inl n) = some (.int z) := by
  induction kvs with
  | nil => simp at h
  | cons q r ih =>
    rw [List.find?_cons] at h
    by_cases c : q.1 = n
    · rw [decide_eq_true c] at h
      cases h
      exact valV_pos rfl
    · rw [decide_eq_false c] at h
      rw [List.map_cons, valV_neg (by intro e; exact c (Sum.inl.inj e))]
      exact ih h
theorem se_getS {i : Nat} {tk : TE} {dk : DTE} (hk : SE P w tk dk) : SE P w (tDGet (tVar i) tk) (dGetS i dk) := ⟨fun {_ _ _ _} R {F} h {Q} k => by
  obtain ⟨p, kvs, hx, h⟩ := h
  obtain ⟨u, hu, rfl, _⟩ := R.slot i _ hx
  refine ⟨_, hu, hk.run R h fun v H1 d e1 r1 h1 => ?_⟩
  obtain ⟨n, z, rfl, hz, hf⟩ := h1
  obtain ⟨u, hu, _, h0, hD⟩ := (R.to e1).slot i _ hx
  refine ⟨p, .int z, rfl, ?_, k _ H1 _ e1 (.inl (.int z)) hf⟩
  rw [r1.int]
  have := DGet.k (k := Sum.inl n) hD
  rw [valV_s hz] at this
  exact this⟩
end
section
variable {X : Cx} {K : PySem.W.Frag} {a : Expr} {pos pos' : Pos} {x : Str} {tk tl : TE} {dk dl : DTE}
theorem dixS (hu : X.A.units + 1 < cLine) (i : Nat) (hk : PD X K a tk dk) (hs : NoSl a := by exact fun _ _ => rfl) (hN : X.N[i]? = some x := by rfl) (hv : Vis X.env.scope x := by first | exact Or.inl rfl | exact Or.inr (Or.inl rfl) | exact Or.inr (Or.inr rfl)) (hd : (x == ("__debug__" : Str)) = false := by decide)
    (hcd : (x == ("__classdict__" : Str)) = false := by decide) : PD X K (.Subscript (.Name x pos') a pos) (tDGet (tVar i) tk) (dGetS i dk) := ⟨hk.hK, pe_dget hu (pe_var hN hv hd hcd) hk.pe hs, se_getS hk.se⟩
theorem vdcS {iter : Expr} {scope : Scope} {own : List (Str × Nat)} {pk po p2 p3 tp : Pos} {y z : Str} {kk : Nat} (i j : Nat) (hc : X.calm = true) (hN : X.N.Nodup) (hgl : Gl X "enumerate") (hm : X.mg "enumerate" = none) (hi : PD X K iter tl dl) (ok : BlkOk X.N X.env.scope scope own) (hij : i ≠ j) (mi : i ∈ own.map (·.2)) (mj : j ∈ own.map (·.2))
    (hst : starEach [iter] X.env = (false, eval iter X.env) :: starEach [] X.env)
    (hg : ∀ (s : Shared) (H : Hp) (C : Addr) (cl : List (Str × Addr)) (fp : List Addr), PG (X.blk s H scope (compEnvC scope cl C X.env) fp) (.Tuple [.Name y pk, .Name z po] kk tp) (gTup X.K 2 (gCons (gName i) (gCons (gName j) gNil))))
    (hk : ∀ (s : Shared) (H : Hp) (C : Addr) (cl : List (Str × Addr)) (fp : List Addr), PE (X.blk s H scope (compEnvC scope cl C X.env) fp) (.Name z p2) (tVar j)) (hv : ∀ (s : Shared) (H : Hp) (C : Addr) (cl : List (Str × Addr)) (fp : List Addr), PE (X.blk s H scope (compEnvC scope cl C X.env) fp) (.Name y p3) (tVar i))
    (hs : ∀ x, foldedSetIterable (Expr.Call (.Name "enumerate" pos') [iter] [] pos) X.env x = pure x) {p4 : Pos} :
    PV X K (.DictComp (.Name z p2) (.Name y p3) [⟨.Tuple [.Name y pk, .Name z po] kk tp, .Call (.Name "enumerate" pos') [iter] [] pos, [], 0⟩] scope p4) (tDc (iEnum K (tCons tl tNil)) (gTup K 2 (gCons (gName i) (gCons (gName j) gNil))) tYes (tVar j) (tVar i) (own.map (·.2))) (dDcS dl i j) := by
  have hK := hi.hK
  subst hK
  exact ⟨rfl, pe_dc hc hN (pi_enum hgl hm (pa_cons hi.pe pa_nil hst) hst) ok hg (fun _ _ _ _ _ => pts_nil) hk hv hs, sv_dcS hij mi mj hi.se⟩
end
/-! ### xs.pop(), ys.append(xs.pop(k)) -/
def dPopTo (i : Nat) (g : DG) : DS := fun D τ => ∃ p xs x, τ[i]? = some (some (.l p (xs ++ [x]))) ∧ g x (τ.set i (some (.l p xs))) D.nx
def dAppPop (i j : Nat) (dk : DTE) : DS := fun D τ => ∃ p xs q ys, i ≠ j ∧ τ[i]? = some (some (.l p xs)) ∧ τ[j]? = some (some (.l q ys)) ∧ xs.length < 90000 ∧ ys.length < 90000 ∧ dk τ fun d => ∃ (k : Nat) (z : PyData), d = .int (k : Nat) ∧ ys[k]? = some z ∧ D.nx ((τ.set j (some (.l q (ys.eraseIdx k)))).set i (some (.l p (xs ++ [z]))))
theorem noLs_sub {xs ys : List PyData} (h : noLs ys = true) (hs : ∀ x ∈ xs, x ∈ ys) : noLs xs = true := (noLs_iff xs).mpr fun x hx => (noLs_iff ys).mp h x (hs x hx)
section
variable {P : Program} {w : World} {K : PySem.W.Frag} {g : TG} {ws : List Nat} {dg : DG}
theorem ss_popTo {i : Nat} (hg : SG P w g ws dg) : SS P w (tAsg (tBM0 K "list" rPop (tVar i)) g) (dPopTo i dg) := ⟨fun {H0 H σ τ} R {D} hh {E} W => by
  obtain ⟨p, xs, x, hx, hf⟩ := hh
  obtain ⟨u, hu, rfl, h0, us, hl, hb, hn⟩ := R.slot i _ hx
  have hul := hb.len
  rw [List.length_append] at hul
  obtain ⟨v, hv, bv⟩ := hb.at (i := xs.length) (d := x) (by simp)
  have hn1 : noL x = true := (noLs_iff _).mp hn x (by simp)
  have hn2 : noLs xs = true := noLs_sub hn fun y hy => by simp [hy]
  refine ⟨.ref p, hu, .inl ⟨rfl, us, .inl (.inl hl)⟩, p, us, v, rfl, rfl, hl, ?_, ?_⟩
  · have : us.length - 1 = xs.length := by simp at hul; omega
    rw [this]
    exact hv
  · have hd := hb.drop
    rw [List.dropLast_concat] at hd
    have R2 := R.write hx rfl (y := .l p xs) (o' := .lst us.dropLast) rfl ⟨rfl, h0, us.dropLast, upd_same, bps_tup (keepT hl) hn2 hd, hn2⟩
    exact hg.run R2 (.inl (bp_tup (keepT hl) hn1 bv)) hf fun σ' τ' R3 f3 _ h3 => W.nx σ' _ τ' R3 ((Fr.write hx rfl rfl).trans f3) h3⟩
theorem ss_appPop {i j : Nat} {tk : TE} {dk : DTE} (hk : SE P w tk dk) : SS P w (tDrop (tBM K "list" rAppend (tVar i) (tCons (tBM K "list" rPopAt (tVar j) (tCons tk tNil)) tNil))) (dAppPop i j dk) := ⟨fun {H0 H σ τ} R {D} hh {E} W => by
  obtain ⟨p, xs, q, ys, hij, hx, hy, hz, hz2, hf⟩ := hh
  obtain ⟨u, hu, rfl, h0, us, hl, hb, hn⟩ := R.slot i _ hx
  obtain ⟨u2, hu2, rfl, h02, us2, hl2, hb2, hn2⟩ := R.slot j _ hy
  refine ⟨.ref p, hu, .inl ⟨rfl, us, .inl (.inl hl)⟩, .ref q, hu2, .inl ⟨rfl, us2, .inl (.inl hl2)⟩, hk.run R hf fun v H1 d e1 r1 h1 => ?_⟩
  obtain ⟨k, z, rfl, hkz, hf⟩ := h1
  have hk2 : k < ys.length := (List.getElem?_eq_some_iff.mp hkz).1
  obtain ⟨vz, hvz, bz⟩ := hb2.at hkz
  have hl2' := e1.lst hl2
  have hl' := e1.lst hl
  have npq : p ≠ q := fun z => hij (R.inj i j _ _ p hx hy rfl (by rw [z]; rfl))
  have u2l := hb2.len
  refine ⟨q, us2, (k : Nat), k, vz, rfl, by rw [r1.int], hl2', by omega, by omega, ?_, hvz, ?_⟩
  · unfold seqIndex?
    rw [u2l]
    have h1 : ¬ ((k : Nat) : Int) < 0 := by omega
    simp only [h1, if_false]
    rw [if_pos (by simp; exact hk2)]
    simp
  · have n3 : noLs (ys.eraseIdx k) = true := noLs_sub hn2 fun y hy => List.mem_of_mem_eraseIdx hy
    have R2 := (R.to e1).write hy rfl (y := .l q (ys.eraseIdx k)) (o' := .lst (us2.eraseIdx k)) rfl ⟨rfl, h02, us2.eraseIdx k, upd_same, bps_tup (keepT hl2') n3 ((hb2.sm e1).erase k), n3⟩
    have hx2 : (τ.set j (some (.l q (ys.eraseIdx k))))[i]? = some (some (.l p xs)) := by
      rw [List.getElem?_set_ne (Ne.symm hij)]
      exact hx
    have hl3 : upd H1 q (.lst (us2.eraseIdx k)) p = some (.lst us) := by
      rw [upd_ne npq]
      exact hl'
    have nz : noL z = true := (noLs_iff _).mp hn2 z (List.mem_of_getElem? hkz)
    have bz2 : Bp (upd H1 q (.lst (us2.eraseIdx k))) vz z := bp_tup (keepT hl2') nz (bz.sm e1)
    obtain ⟨u3, _, _, _, us3, hl4, hb4, hn4⟩ := R2.slot i _ hx2
    rw [hl3] at hl4
    cases hl4
    refine ⟨p, us, vz, rfl, rfl, hl3, by rw [hb.len]; exact Nat.lt_of_lt_of_le hz (by decide), ?_⟩
    have nn : noLs (xs ++ [z]) = true := noLs_app hn (by simp [noLs, nz])
    exact W.nx _ _ _ (R2.write hx2 rfl (y := .l p (xs ++ [z])) rfl ⟨rfl, h0, _, upd_same, bps_tup (keepT hl3) nn (hb4.app (.cons bz2 .nil)), nn⟩) (((Fr.sm e1).trans (Fr.write hy rfl rfl)).trans (Fr.write hx2 rfl rfl)) hf⟩
end
/-! ### what is never reached -/
def dNever : DS := fun _ _ => False
theorem draise {X : Cx} {K : PySem.W.Frag} {st : Stmt} (hK : X.K = K := by rfl) : PSd X K st tNever dNever := ⟨hK, ps_never, ⟨fun {_ _ _ _} _ {D} h {E} _ => h.elim⟩⟩
def dNo : DTE := fun _ _ => False
theorem dnever {X : Cx} {K : PySem.W.Frag} {e : Expr} (hK : X.K = K := by rfl) : PD X K e tNo dNo := ⟨hK, pe_no, ⟨fun {_ _ _ _} _ {F} h {Q} _ => h.elim⟩⟩
end Wk
end

section
set_option Elab.async false
set_option linter.all false
set_option maxRecDepth 100000
set_option maxHeartbeats 4000000
namespace Wk
open PySem PySem.Spec PyProof.Rows L2
/-! ### sorted(set(xs)) of tuples of ints: no repeats -/
def tupEnc (S : List Int) : PyData := .tuple (S.map .int)
def dSortT (da : DTE) : DTL := fun τ F => da τ fun d => ∃ Ss : List (List Int), d = .list (Ss.map tupEnc) ∧ Ss.length < 64 ∧ (∀ S ∈ Ss, S ≠ []) ∧ ∀ Rs : List (List Int), Rs.Nodup → (∀ S, S ∈ Rs ↔ S ∈ Ss) → F (Rs.map tupEnc)
theorem refs_tup {H : Hp} : ∀ {us : List L2.V} {Ss : List (List Int)}, BpAll H us (Ss.map tupEnc) → ∃ ks : List (Addr × List Int), us = ks.map (fun p => V.ref p.1) ∧ ks.map (·.2) = Ss ∧ ∀ p ∈ ks, Bp H (.ref p.1) (tupEnc p.2)
  | us, [], h => by
    have h' : BpAll H us [] := h
    cases h'
    exact ⟨[], rfl, rfl, fun p hp => by simp at hp⟩
  | us, S :: Ss, h => by
    have h' : BpAll H us (tupEnc S :: Ss.map tupEnc) := h
    cases h' with
    | cons a t =>
      obtain ⟨ks, e1, e2, e3⟩ := refs_tup t
      unfold tupEnc at a
      cases a with
      | tup x y z =>
        refine ⟨(_, S) :: ks, by rw [e1]; rfl, by rw [List.map_cons, e2], fun p hp => ?_⟩
        rcases List.mem_cons.mp hp with rfl | hp
        · exact .tup x y z
        · exact e3 p hp
theorem Bp.sqI {K : PySem.W.Frag} {H : Hp} {a : Addr} {S : List Int} (h : Bp H (.ref a) (tupEnc S)) : SqT K H a (S.map V.int) := by
  unfold tupEnc at h
  cases h with
  | tup x y z =>
    rw [z.toInts] at x
    exact .inl (.inr ⟨_, x⟩)
theorem tupEnc_inj {S T : List Int} (h : tupEnc S = tupEnc T) : S = T := by
  unfold tupEnc at h
  have h := PyData.tuple.inj h
  have : ∀ {l l' : List Int}, l.map PyData.int = l'.map PyData.int → l = l' := by
    intro l
    induction l with
    | nil => intro l' h; cases l' with
      | nil => rfl
      | cons => simp at h
    | cons a l ih => intro l' h; cases l' with
      | nil => simp at h
      | cons b l' =>
        simp only [List.map_cons, List.cons.injEq, PyData.int.injEq] at h
        rw [h.1, ih h.2]
  exact this h
section
variable {X : Cx} {K : PySem.W.Frag} {pos pos2 p p2 : Pos} {a : Expr} {ta : TE} {da : DTE}
theorem lsortT (hc : X.calm = true) (hu : X.A.units + 64 < cLine) (hg : Gl X "sorted") (hm : X.mg "sorted" = none) (hg2 : Gl X "set") (hm2 : X.mg "set" = none) (ha : PD X K a ta da)
    (na : starEach [Expr.Call (.Name "set" p2) [a] [] pos2] X.env = (false, eval (Expr.Call (.Name "set" p2) [a] [] pos2) X.env) :: starEach [] X.env := by rfl) (na2 : starEach [a] X.env = (false, eval a X.env) :: starEach [] X.env := by rfl) :
    PLd X K (.Call (.Name "sorted" p) [.Call (.Name "set" p2) [a] [] pos2] [] pos) (tCB (rSortT K X.prog X.w) (tCons (tCB (rSetOfT K X.prog X.w) (tCons ta tNil)) tNil)) (dSortT da) := by
  have hK := ha.hK
  subst hK
  refine ⟨rfl, pe_callB (cr_sortTI hc hu) hg hm (by decide +kernel) (pa_cons (pe_callTy (cr_setOfT hc hu) hg2 hm2 (by decide +kernel) (pa_cons ha.pe pa_nil na2) (by decide) (by decide) na2 rfl) pa_nil na) (by decide) (by decide) na rfl, ⟨fun {_ _ _ _} R {F} h {Q} k => ha.se.run R h fun v H1 d e1 r1 h1 => ?_⟩⟩
  obtain ⟨Ss, rfl, hl, hne, hf⟩ := h1
  cases r1.bp rfl with
  | @lst q us _ hq hb =>
    obtain ⟨ks, e2, e3, e4⟩ := refs_tup hb
    rw [e2] at hq
    have hkl : ks.length = Ss.length := by rw [← e3, List.length_map]
    have kne : ∀ z ∈ ks, z.2 ≠ [] := fun z hz => hne _ (by rw [← e3]; exact List.mem_map.mpr ⟨z, hz, rfl⟩)
    refine ⟨q, ks, rfl, .inl (.inl hq), fun z hz => (e4 z hz).sqI, by omega, fun s L hs hL hall => ?_⟩
    have f1 : Sm H1 (upd H1 s (SetTO X.prog X.w s L)) := (Sm.refl H1).new hs
    refine ⟨s, L, rfl, upd_same, fun z hz => ⟨((e4 z (hL z hz)).sm f1).sqI, kne z (hL z hz)⟩, fun L' p pm nd pw _ hp => ?_⟩
    obtain ⟨M, pM, eM⟩ := perm_back (f := tupI) pm.symm
    have hM : ∀ z ∈ M, z ∈ ks := fun z hz => hL z (pM.mem_iff.mp hz)
    have f3 := f1.new (o := .lst (L'.map fun q => V.ref q.1)) (f1.free hp)
    refine k p _ (L'.map fun q => V.ref q.1) ((M.map (·.2)).map tupEnc) (e1.free (f1.free hp)) ((e1.trans f1).new (e1.free (f1.free hp))) upd_same ?_ (hf (M.map (·.2)) ?_ fun S => ?_)
    · have : ∀ l : List (Addr × List Int), (∀ z ∈ l, z ∈ ks) → BpAll (upd (upd H1 s (SetTO X.prog X.w s L)) p (.lst (L'.map fun q => V.ref q.1))) ((l.map tupI).map fun q => V.ref q.1) ((l.map (·.2)).map tupEnc) := by
        intro l
        induction l with
        | nil => exact fun _ => .nil
        | cons z l ih => exact fun h => .cons ((e4 z (h z (by simp))).sm f3) (ih fun y hy => h y (by simp [hy]))
      have h2 := this M hM
      rw [eM] at h2
      exact h2
    · exact (pM.map (·.2)).nodup_iff.mpr nd
    · rw [((pM.map (·.2)).mem_iff), ← e3]
      exact ⟨fun h => by
        obtain ⟨z, hz, rfl⟩ := List.mem_map.mp h
        exact List.mem_map.mpr ⟨z, hL z hz, rfl⟩, fun h => by
        obtain ⟨z, hz, rfl⟩ := List.mem_map.mp h
        exact hall z hz⟩
end
end Wk
end

section
set_option Elab.async false
set_option linter.all false
set_option maxRecDepth 100000
set_option maxHeartbeats 4000000
namespace Wk
open PySem PySem.Spec PyProof.Rows L2
/-- sorted(set(..)) of standings -/
theorem sortI_set {d : PyData} {S : List Nat} {n : Nat} {F : List PyData → Prop} (hs : seqOf d = some (S.map eI)) (hl : S.length < 64) (hn : ∀ t ∈ S, t < n) (hf : F ((setN n S).map eI)) :
    ∃ ns : List Int, seqOf d = some (ns.map .int) ∧ ns.length < 64 ∧ ∀ rs : List Int, rs.Pairwise (· < ·) → (∀ k, k ∈ rs ↔ k ∈ ns) → F (rs.map .int) := by
  refine ⟨S.map fun n => ((n : Nat) : Int), by rw [hs, eI_ints], by rw [List.length_map]; exact hl, fun rs hp hm => ?_⟩
  have e : rs = (setN n S).map fun n => ((n : Nat) : Int) := by
    have hz : ∀ k ∈ rs, ∃ t, t ∈ S ∧ ((t : Nat) : Int) = k := fun k hk => by
      obtain ⟨t, ht, e⟩ := List.mem_map.mp ((hm k).mp hk)
      exact ⟨t, ht, e⟩
    have h1 : rs = (rs.map Int.toNat).map fun n => ((n : Nat) : Int) := by
      rw [List.map_map]
      conv => lhs; rw [← List.map_id rs]
      apply List.map_congr_left
      intro k hk
      obtain ⟨t, _, e⟩ := hz k hk
      show k = ((k.toNat : Nat) : Int)
      omega
    rw [h1]
    congr 1
    refine sorted_ext _ _ ?_ (setN_sorted _ _) fun x => ?_
    · rw [List.pairwise_map]
      refine List.Pairwise.imp_of_mem ?_ hp
      intro a b ha hb hab
      obtain ⟨t, _, e⟩ := hz a ha
      omega
    · rw [mem_setN, List.mem_map]
      constructor
      · rintro ⟨k, hk, rfl⟩
        obtain ⟨t, ht, e⟩ := hz k hk
        have : k.toNat = t := by omega
        rw [this]
        exact ⟨hn t ht, ht⟩
      · rintro ⟨_, hx⟩
        refine ⟨(x : Nat), (hm _).mpr (List.mem_map.mpr ⟨x, hx, rfl⟩), by simp⟩
  rw [e, ← eI_ints]
  exact hf
section
variable {P : Program} {w : World} {K : PySem.W.Frag} {mg : Str → Option Value} {base : Heap}
theorem sc_as_set : FnScope ["things"] ["things"] (defScope s_as_set) := ⟨rfl, rfl, rfl, by decide +kernel, rfl, by decide +kernel, by decide +kernel⟩
def G_setI (ds : List PyData) (F : PyData → Prop) : Prop := ∃ (d : PyData) (S : List Nat) (n : Nat), ds = [d] ∧ seqOf d = some (S.map eI) ∧ S.length < 64 ∧ (∀ t ∈ S, t < n) ∧ F (eS (setN n S))
theorem o_setI (fr : Fre mg) (D : Df K mg "as_set" s_as_set [] []) : Own P w K mg base 1 "as_set" [] (spD 1 G_setI) := by
  refine Df.own (ps := ["things"]) D (fun f fd F => okD F sc_as_set rfl fun cdv A outer s H E hr => ?_) fun _ _ _ _ _ _ us hl => match us, hl with | [_], _ => rfl
  have nd := sc_as_set.nd
  have hu := hr.units
  have hu1 := hu_of hr
  have hu5 := Room.units65 hr
  refine ⟨_, _, (dlast (dret (dtupOfL (by rfl) fr.tuple (lsortI rfl (by rfl) fr.sorted (by rfl) fr.set (dv 0))))), fun as Fp hl hG => ?_⟩
  obtain ⟨d, S, n, rfl, hs, hl, hn, hf⟩ := hG
  exact ⟨_, d, rfl, rfl, sortI_set (F := fun xs => Fp (.tuple xs)) hs hl hn hf⟩
theorem sc_all_standings : FnScope ["machine"] ["machine"] (defScope s_all_standings) := ⟨rfl, rfl, rfl, by decide +kernel, rfl, by decide +kernel, by decide +kernel⟩
def G_allS (ds : List PyData) (F : PyData → Prop) : Prop := ∃ (d : PyData) (xs : List PyData), ds = [d] ∧ seqOf d = some xs ∧ xs.length ≤ 1000 ∧ F (eS (List.range xs.length))
theorem o_allS (fr : Fre mg) (D : Df K mg "all_standings" s_all_standings [] []) : Own P w K mg base 1 "all_standings" [] (spD 1 G_allS) := by
  refine Df.own (ps := ["machine"]) D (fun f fd F => okD F sc_all_standings rfl fun cdv A outer s H E hr => ?_) fun _ _ _ _ _ _ us hl => match us, hl with | [_], _ => rfl
  have nd := sc_all_standings.nd
  have hu := hr.units
  have hu1 := hu_of hr
  have hu5 := Room.units65 hr
  refine ⟨_, _, (dlast (dret (dtupRg rfl (by rfl) fr.tuple (by rfl) fr.range (dlen (by rfl) fr.len (dv 0))))), fun as Fp hl hG => ?_⟩
  obtain ⟨d, xs, rfl, hs, hl, hf⟩ := hG
  exact ⟨_, d, rfl, rfl, d, xs, rfl, hs, _, rfl, by omega, by omega, hf⟩
end
/-! ### machines as data -/
def eP (p : Nat × Nat) : PyData := .tuple [eI p.1, eI p.2]
def eR (r : List (Nat × Nat)) : PyData := .tuple (r.map eP)
def eM (m : Mc) : PyData := .tuple (m.map eR)
theorem noL_eR (r : List (Nat × Nat)) : noL (eR r) = true := noLs_map _ r fun _ _ => rfl
theorem noLs_eR (m : Mc) : noLs (m.map eR) = true := noLs_map _ m fun r _ => noL_eR r
theorem noL_eM (m : Mc) : noL (eM m) = true := noLs_eR m
theorem pureDs_map {α : Type} (f : α → PyData) (l : List α) (h : ∀ x ∈ l, pureD (f x) = true) : pureDs (l.map f) = true := (pureDs_iff _).mpr fun d hd => by
  obtain ⟨x, hx, rfl⟩ := List.mem_map.mp hd
  exact h x hx
theorem pure_eS (l : List Nat) : pureD (eS l) = true := pureDs_map _ l fun _ _ => rfl
theorem pure_eR (r : List (Nat × Nat)) : pureD (eR r) = true := pureDs_map _ r fun _ _ => rfl
theorem pure_eM (m : Mc) : pureD (eM m) = true := pureDs_map _ m fun r _ => pure_eR r
theorem dep_tup {xs : List PyData} {n : Nat} (h : ∀ d ∈ xs, d.depth ≤ n) : (PyData.tuple xs).depth ≤ n + 1 := by
  have := depthAll_le xs n h
  show PyData.depthAll xs + 1 ≤ n + 1
  omega
theorem dep_eI (n : Nat) : (eI n).depth ≤ 0 := Nat.le_refl 0
theorem dep_map {α : Type} (f : α → PyData) (l : List α) {n : Nat} (h : ∀ x ∈ l, (f x).depth ≤ n) : (PyData.tuple (l.map f)).depth ≤ n + 1 := dep_tup fun d hd => by
  obtain ⟨x, hx, rfl⟩ := List.mem_map.mp hd
  exact h x hx
theorem dep_eS (l : List Nat) : (eS l).depth ≤ 1 := dep_map _ l fun n _ => dep_eI n
theorem dep_eP (p : Nat × Nat) : (eP p).depth ≤ 1 := dep_tup fun d hd => by
  rcases List.mem_cons.mp hd with rfl | hd
  · exact dep_eI _
  · rw [List.mem_singleton.mp hd]
    exact dep_eI _
theorem dep_eR (r : List (Nat × Nat)) : (eR r).depth ≤ 2 := dep_map _ r fun p _ => dep_eP p
theorem dep_eM (m : Mc) : (eM m).depth ≤ 3 := dep_map _ m fun r _ => dep_eR r
theorem shaped_of {d : PyData} (h : pureD d = true) (hd : d.depth ≤ 64) : SeqAt.shaped d = true := by
  unfold SeqAt.shaped
  rw [pure_lay d h, decide_eq_true hd]
  rfl
theorem shaped_list {ds : List PyData} (h : pureDs ds = true) (hd : ∀ d ∈ ds, d.depth ≤ 63) : SeqAt.shaped (.list ds) = true := by
  unfold SeqAt.shaped
  have h1 : (PyData.list ds).canLay0 = true := by
    simp only [PyData.canLay0]
    exact pures_lay ds h
  have h2 : (PyData.list ds).depth ≤ 64 := by
    have := depthAll_le ds 63 hd
    show PyData.depthAll ds + 1 ≤ 64
    omega
  rw [h1, decide_eq_true h2]
  rfl
theorem shaped_eI (n : Nat) : SeqAt.shaped (eI n) = true := shaped_of rfl (by have := dep_eI n; omega)
theorem shaped_eS (l : List Nat) : SeqAt.shaped (eS l) = true := shaped_of (pure_eS l) (by have := dep_eS l; omega)
theorem eqv_eI (a b : Nat) : PyData.eqv (eI a) (eI b) = decide (a = b) := by
  rw [Bool.eq_iff_iff, eqv_pure _ _ rfl rfl, decide_eq_true_eq]
  unfold eI
  rw [PyData.int.injEq]
  omega
theorem eI_inj {a b : Nat} (h : eI a = eI b) : a = b := by
  unfold eI at h
  have := PyData.int.inj h
  omega
theorem map_inj {α : Type} {f : α → PyData} (hf : ∀ a b, f a = f b → a = b) : ∀ {l l' : List α}, l.map f = l'.map f → l = l'
  | [], [], _ => rfl
  | [], _ :: _, h => by simp at h
  | _ :: _, [], h => by simp at h
  | a :: l, b :: l', h => by
    simp only [List.map_cons, List.cons.injEq] at h
    rw [hf a b h.1, map_inj hf h.2]
theorem eS_inj {a b : List Nat} (h : eS a = eS b) : a = b := by
  unfold eS at h
  exact map_inj (fun _ _ => eI_inj) (PyData.tuple.inj h)
theorem eP_inj {a b : Nat × Nat} (h : eP a = eP b) : a = b := by
  unfold eP at h
  have := PyData.tuple.inj h
  simp only [List.cons.injEq, and_true] at this
  exact Prod.ext (eI_inj this.1) (eI_inj this.2)
theorem eR_inj {a b : List (Nat × Nat)} (h : eR a = eR b) : a = b := map_inj (fun _ _ => eP_inj) (PyData.tuple.inj h)
theorem eM_inj {a b : Mc} (h : eM a = eM b) : a = b := map_inj (fun _ _ => eR_inj) (PyData.tuple.inj h)
theorem eqv_eS (a b : List Nat) : PyData.eqv (eS a) (eS b) = decide (a = b) := by
  rw [Bool.eq_iff_iff, eqv_pure _ _ (pure_eS a) (pure_eS b), decide_eq_true_eq]
  exact ⟨eS_inj, fun h => by rw [h]⟩
theorem at_map {α : Type} {f : α → PyData} {l : List α} {i : Nat} {x : α} (h : l[i]? = some x) : (l.map f)[i]? = some (f x) := by
  rw [List.getElem?_map, h]
  rfl
theorem at_eM {m : Mc} {s : Nat} (h : s < m.length) : (m.map eR)[s]? = some (eR (row m s)) := at_map (by
  unfold row
  rw [List.getElem?_eq_getElem h, List.getD_eq_getElem?_getD, List.getElem?_eq_getElem h]
  rfl)
theorem row_len {m : Mc} {w s : Nat} (o : Ok m w) (h : s < m.length) : (row m s).length = w := by
  refine o.wid _ ?_
  unfold row
  rw [List.getD_eq_getElem?_getD, List.getElem?_eq_getElem h]
  exact List.getElem_mem h
theorem at_eR {m : Mc} {w s x : Nat} (o : Ok m w) (h : s < m.length) (hx : x < w) : ((row m s).map eP)[x]? = some (eP (nx m s x, an m s x)) := at_map (by
  have hl : x < (row m s).length := by rw [row_len o h]; exact hx
  unfold nx an
  rw [List.getElem?_eq_getElem hl, List.getD_eq_getElem?_getD, List.getElem?_eq_getElem hl]
  rfl)
/-- targets of two, of three -/
theorem dg2 {i j : Nat} {a b : PyData} {τ : DSt} {F : DSt → Prop} (na : noL a = true) (nb : noL b = true) (h : F ((τ.set i (some (.d a))).set j (some (.d b)))) : dgTup 2 (dgCons (dgName i) (dgCons (dgName j) dgNil)) (.tuple [a, b]) τ F :=
  ⟨_, rfl, rfl, _, _, rfl, na, _, _, rfl, nb, rfl, h⟩
theorem dg3 {i j k : Nat} {a b c : PyData} {τ : DSt} {F : DSt → Prop} (na : noL a = true) (nb : noL b = true) (nc : noL c = true) (h : F (((τ.set i (some (.d a))).set j (some (.d b))).set k (some (.d c)))) : dgTup 3 (dgCons (dgName i) (dgCons (dgName j) (dgCons (dgName k) dgNil))) (.tuple [a, b, c]) τ F :=
  ⟨_, rfl, rfl, _, _, rfl, na, _, _, rfl, nb, _, _, rfl, nc, rfl, h⟩
theorem dColl_filter {α : Type} {zs : List α} {enc : α → PyData} {body : PyData → (List PyData → Prop) → Prop} {F : List PyData → Prop} (b : α → Bool) (g : α → PyData) (h : ∀ z ∈ zs, ∀ R : List PyData → Prop, (b z = true → R [g z]) → (b z = false → R []) → body (enc z) R) (hf : F ((zs.filter b).map g)) : dColl (zs.map enc) body F := by
  refine dColl_enc (fun z => if b z = true then [g z] else []) (fun z hz R hR => h z hz R (fun e => ?_) fun e => ?_) ?_
  · simpa [e] using hR
  · simpa [e] using hR
  · have : ∀ l : List α, l.flatMap (fun z => if b z = true then [g z] else []) = (l.filter b).map g := by
      intro l
      induction l with
      | nil => rfl
      | cons z l ih =>
        rw [List.flatMap_cons, ih, List.filter_cons]
        by_cases c : b z = true
        · simp [c]
        · simp [c]
    rw [this]
    exact hf
section
variable {P : Program} {w : World} {K : PySem.W.Frag} {mg : Str → Option Value} {base : Heap}
theorem sc_left_by : FnScope ["machine", "standings", "letter", "answer", "standing", "pairs", "late", "told"] ["machine", "standings", "letter", "answer"] (defScope s_left_by) := ⟨rfl, rfl, rfl, by decide +kernel, rfl, by decide +kernel, by decide +kernel⟩
def G_left (ds : List PyData) (F : PyData → Prop) : Prop := ∃ (m : Mc) (wd : Nat) (S : List Nat) (x a : Nat), ds = [eM m, eS S, eI x, eI a] ∧ Ok m wd ∧ (∀ s ∈ S, s < m.length) ∧ S.length < 64 ∧ x < wd ∧ F (eS (leftBy m S x a))
theorem o_left (fr : Fre mg) (D : Df K mg "left_by" s_left_by [] []) (O_as_set : Own P w K mg base 1 "as_set" [] (spD 1 G_setI)) : Own P w K mg base 2 "left_by" [] (spD 4 G_left) := by
  refine Df.own (ps := ["machine", "standings", "letter", "answer"]) D (fun f fd F => okD F sc_left_by rfl fun cdv A outer s H E hr => ?_) fun _ _ _ _ _ _ us hl => match us, hl with | [_, _, _, _], _ => rfl
  have nd := sc_left_by.nd
  have hu := hr.units
  have hu1 := hu_of hr
  have hu5 := Room.units65 hr
  refine ⟨_, _, (dseq (dsetT 5 (dv 1) (plc (own := [("standing", 4)]) rfl nd (blkOk_by (by kernel_rfl)) (fun _ _ _ _ _ => (gname 4 nd)) (by decide) (fun _ _ _ _ _ => yes) (fun _ _ _ _ _ => (dix (dix (dv 0) (dv 4)) (dv 2))))) (dlast (dret (dcall O_as_set (hr.mono (by decide)) (by rfl) (acons (dofl (lcL (dv 5) (plc (own := [("late", 6), ("told", 7)]) rfl nd (blkOk_by (by kernel_rfl)) (fun _ _ _ _ _ => (gtup (n := 2) rfl (gcons (gname 6 nd) (gcons (gname 7 nd) gnil)))) (by decide) (fun _ _ _ _ _ => only (teq hu (dv 7) (dv 3))) (fun _ _ _ _ _ => (dv 6))))) anil))))), fun as Fp hl hG => ?_⟩
  obtain ⟨m, wd, S, x, a, rfl, o, hS, hSl, hx, hf⟩ := hG
  refine ⟨_, _, rfl, rfl, _, rfl, by rw [List.length_map]; omega, dColl_one (zs := S) (enc := eI) (fun s => eP (nx m s x, an m s x)) (fun s hs R hR => ?_) ⟨?_, fun p => ?_⟩⟩
  · exact ⟨rfl, _, _, rfl, rfl, _, _, rfl, rfl, dIx_nat rfl (at_eM (hS s hs)) ⟨_, _, rfl, rfl, dIx_nat rfl (at_eR o (hS s hs) hx) ⟨rfl, hR⟩⟩⟩
  · exact noLs_map _ S fun _ _ => rfl
  · refine ⟨_, _, rfl, rfl, _, rfl, by rw [List.length_map]; omega, ?_⟩
    rw [show (S.map fun s => eP (nx m s x, an m s x)) = (S.map fun s => (nx m s x, an m s x)).map eP by rw [List.map_map]; rfl]
    refine dColl_filter (fun p => p.2 == a) (fun p => eI p.1) (fun q hq R h1 h2 => ?_) ⟨rfl, _, (((S.map fun s => (nx m s x, an m s x)).filter fun p : Nat × Nat => p.2 == a).map fun p : Nat × Nat => p.1), m.length, rfl, ?_, ?_, ?_, hf⟩
    · refine dg2 rfl rfl ⟨_, _, rfl, rfl, _, _, rfl, rfl, rfl, rfl, shaped_eI _, shaped_eI _, _, rfl, ?_⟩
      rw [eqv_eI]
      by_cases c : q.2 = a
      · rw [decide_eq_true c]
        exact ⟨_, _, rfl, rfl, rfl, h1 (by simp [c])⟩
      · rw [decide_eq_false c]
        exact h2 (by simp [c])
    · show some _ = some _
      rw [List.map_map]
      rfl
    · rw [List.length_map]
      have := List.length_filter_le (fun p : Nat × Nat => p.2 == a) (S.map fun s => (nx m s x, an m s x))
      rw [List.length_map] at this
      omega
    · intro t ht
      obtain ⟨q, hq, rfl⟩ := List.mem_map.mp ht
      obtain ⟨s, hs, rfl⟩ := List.mem_map.mp (List.mem_filter.mp hq).1
      exact o.nx_lt (hS s hs) hx
theorem sc_nexts_of : FnScope ["machine", "standings", "standing", "late", "answer"] ["machine", "standings"] (defScope s_nexts_of) := ⟨rfl, rfl, rfl, by decide +kernel, rfl, by decide +kernel, by decide +kernel⟩
def G_nexts (ds : List PyData) (F : PyData → Prop) : Prop := ∃ (m : Mc) (wd : Nat) (S : List Nat), ds = [eM m, eS S] ∧ Ok m wd ∧ (∀ s ∈ S, s < m.length) ∧ S.length ≤ 5 ∧ F (eS (nextsOf m S))
theorem flat_len2 {α β : Type} (f : α → List β) (n : Nat) : ∀ l : List α, (∀ x ∈ l, (f x).length ≤ n) → (l.flatMap f).length ≤ l.length * n
  | [], _ => by simp
  | x :: l, h => by
    rw [List.flatMap_cons, List.length_append, List.length_cons, Nat.succ_mul]
    have h1 := h x (by simp)
    have h2 := flat_len2 f n l fun y hy => h y (by simp [hy])
    omega
theorem o_nexts (fr : Fre mg) (D : Df K mg "nexts_of" s_nexts_of [] []) (O_as_set : Own P w K mg base 1 "as_set" [] (spD 1 G_setI)) : Own P w K mg base 2 "nexts_of" [] (spD 2 G_nexts) := by
  refine Df.own (ps := ["machine", "standings"]) D (fun f fd F => okD F sc_nexts_of rfl fun cdv A outer s H E hr => ?_) fun _ _ _ _ _ _ us hl => match us, hl with | [_, _], _ => rfl
  have nd := sc_nexts_of.nd
  have hu := hr.units
  have hu1 := hu_of hr
  have hu5 := Room.units65 hr
  refine ⟨_, _, (dlast (dret (dcall O_as_set (hr.mono (by decide)) (by rfl) (acons (dofl (lc2T (own := [("standing", 2), ("late", 3), ("answer", 4)]) (vs1 := [3, 4]) rfl nd (dv 1) (blkOk_by (by kernel_rfl)) (fun _ _ _ _ _ => (gname 2 nd)) (by decide) (fun _ _ _ _ _ => yes) (fun _ _ _ _ _ => (dix (dv 0) (dv 2))) (fun _ _ _ _ _ => (gtup (n := 2) rfl (gcons (gname 3 nd) (gcons (gname 4 nd) gnil)))) (by decide) (fun _ _ _ _ _ => yes) (fun _ _ _ _ _ => (dv 3)) (by decide))) anil)))), fun as Fp hl hG => ?_⟩
  obtain ⟨m, wd, S, rfl, o, hS, hSl, hf⟩ := hG
  refine ⟨_, _, rfl, rfl, _, rfl, by rw [List.length_map]; omega, dColl_enc (zs := S) (enc := eI) (fun s => (row m s).map fun p => eI p.1) (fun s hs R hR => ?_) ⟨rfl, _, S.flatMap fun s => (row m s).map fun p : Nat × Nat => p.1, m.length, rfl, ?_, ?_, ?_, hf⟩⟩
  · refine ⟨rfl, _, _, rfl, rfl, _, _, rfl, rfl, dIx_nat rfl (at_eM (hS s hs)) ⟨_, rfl, noLs_map _ _ fun _ _ => rfl, ?_, dColl_one (fun p : Nat × Nat => eI p.1) (fun p hp R2 hR2 => ?_) hR⟩⟩
    · rw [List.length_map, row_len o (hS s hs)]
      have := o.wsmall
      omega
    · exact dg2 rfl rfl ⟨_, _, rfl, rfl, rfl, hR2⟩
  · show some _ = some _
    rw [List.map_flatMap]
    congr 2
    funext s
    rw [List.map_map]
    rfl
  · have h1 := flat_len2 (fun s => (row m s).map fun p : Nat × Nat => p.1) 4 S fun s hs => by
      rw [List.length_map, row_len o (hS s hs)]
      exact o.wsmall
    omega
  · intro t ht
    obtain ⟨s, hs, h2⟩ := List.mem_flatMap.mp ht
    obtain ⟨p, hp, rfl⟩ := List.mem_map.mp h2
    refine o.nxt (row m s) ?_ p hp
    unfold row
    rw [List.getD_eq_getElem?_getD, List.getElem?_eq_getElem (hS s hs)]
    exact List.getElem_mem (hS s hs)
end
end Wk
end

section
set_option Elab.async false
set_option linter.all false
set_option maxRecDepth 100000
set_option maxHeartbeats 4000000
namespace Wk
open PySem PySem.Spec PyProof.Rows L2
theorem behind_le {m : Mc} {wd : Nat} (o : Ok m wd) (k : Nat) : (behind m k).length ≤ 5 := by
  have h1 : (behind m k).length ≤ m.length := by
    cases k with
    | zero => show (List.range m.length).length ≤ _; rw [List.length_range]; exact Nat.le_refl _
    | succ k => show (setN _ _).length ≤ _; unfold setN; exact Nat.le_trans (List.length_filter_le _ _) (by rw [List.length_range]; exact Nat.le_refl _)
  exact Nat.le_trans h1 o.small
section
variable {P : Program} {w : World} {K : PySem.W.Frag} {mg : Str → Option Value} {base : Heap}
theorem sc_after_by : FnScope ["machine", "beats", "found", "lap"] ["machine", "beats"] (defScope s_after_by) := ⟨rfl, rfl, rfl, by decide +kernel, rfl, by decide +kernel, by decide +kernel⟩
def G_after (ds : List PyData) (F : PyData → Prop) : Prop := ∃ (m : Mc) (wd b : Nat), ds = [eM m, eI b] ∧ Ok m wd ∧ F (eS (behind m (min b m.length)))
theorem o_after (fr : Fre mg) (D : Df K mg "after_by" s_after_by [] []) (O_all_standings : Own P w K mg base 1 "all_standings" [] (spD 1 G_allS)) (O_nexts_of : Own P w K mg base 2 "nexts_of" [] (spD 2 G_nexts)) : Own P w K mg base 3 "after_by" [] (spD 2 G_after) := by
  refine Df.own (ps := ["machine", "beats"]) D (fun f fd F => okD F sc_after_by rfl fun cdv A outer s H E hr => ?_) fun _ _ _ _ _ _ us hl => match us, hl with | [_, _], _ => rfl
  have nd := sc_after_by.nd
  have hu := hr.units
  have hu1 := hu_of hr
  have hu5 := Room.units65 hr
  refine ⟨_, _, (dseq (dset 2 nd (PD.v (dcall O_all_standings (hr.mono (by decide)) (by rfl) (acons (dv 0) anil)))) (dseq (dforR PassesOwn.never rfl (by rfl) fr.range (acons (dmin rfl (by rfl) fr.min (dofl (ldisp (acons (dv 1) (acons (dlen (by rfl) fr.len (dv 0)) anil))))) anil) (gname 3 nd) (dlast (dset 2 nd (PD.v (dcall O_nexts_of (hr.mono (by decide)) (by rfl) (acons (dv 0) (acons (dv 2) anil))))))) (dlast (dret (dv 2))))), fun as Fp hl hG => ?_⟩
  obtain ⟨m, wd, b, rfl, o, hf⟩ := hG
  have hm5 := o.small
  refine ⟨_, _, rfl, rfl, rfl, eM m, m.map eR, rfl, rfl, by rw [List.length_map]; omega, noL_eS _, fun _ => ?_⟩
  refine ⟨_, _, rfl, rfl, _, _, rfl, rfl, _, m.map eR, rfl, rfl, by show 2 ≤ 100000; decide, rfl, [(b : Nat), ((m.map eR).length : Nat)], rfl, by show 0 < 2; decide, fun k hk hl => ⟨min b m.length, ?_, by omega, ?_⟩⟩
  · rw [List.length_map] at hk hl
    have h1 := hl (b : Nat) (by simp)
    have h2 := hl (m.length : Nat) (by simp)
    have h3 : k = (b : Nat) ∨ k = (m.length : Nat) := by simpa using hk
    congr 2
    omega
  · refine ⟨fun i τ => i ≤ min b m.length ∧ ∃ x3, τ = [some (.d (eM m)), some (.d (eI b)), some (.d (eS (behind m i))), x3], ⟨Nat.zero_le _, none, by rw [List.length_map]; rfl⟩, fun _ _ _ _ => trivial, fun i x τ' hx hw => ?_, fun τ' hw => ?_⟩
    · obtain ⟨hi, x3, rfl⟩ := hw
      have hil : i < min b m.length := by
        have := (List.getElem?_eq_some_iff.mp hx).1
        rw [rgD_len] at this
        exact this
      rw [rgD_at hil] at hx
      cases hx
      exact ⟨rfl, _, _, rfl, rfl, _, _, rfl, rfl, rfl, m, wd, behind m i, rfl, o, behind_lt m i, behind_le o i, noL_eS _, fun _ => ⟨hil, _, rfl⟩⟩
    · obtain ⟨hi, x3, rfl⟩ := hw
      rw [rgD_len]
      exact ⟨_, _, rfl, rfl, hf⟩
end
end Wk
end

section
set_option Elab.async false
set_option linter.all false
set_option maxRecDepth 100000
set_option maxHeartbeats 4000000
namespace Wk
open PySem PySem.Spec PyProof.Rows L2
theorem firstsA_app {α : Type} [DecidableEq α] : ∀ (xs ys acc : List α), firstsA acc (xs ++ ys) = firstsA (firstsA acc xs) ys
  | [], _, _ => rfl
  | x :: xs, ys, acc => firstsA_app xs ys _
theorem firsts_snoc {α : Type} [DecidableEq α] (l : List α) (k : α) : firsts (l ++ [k]) = if k ∈ firsts l then firsts l else firsts l ++ [k] := by
  unfold firsts
  rw [firstsA_app]
  rfl
def kvsOf {α : Type} [DecidableEq α] (enc : α → PyData) (l : List α) : List (PyData × PyData) := (firsts l).map fun k => (enc k, eI ((firsts l).idxOf k))
theorem kvs_keys {α : Type} [DecidableEq α] (enc : α → PyData) (l : List α) : (kvsOf enc l).map (·.1) = (firsts l).map enc := by
  unfold kvsOf
  rw [List.map_map]
  rfl
theorem kvs_new {α : Type} [DecidableEq α] (enc : α → PyData) (l : List α) (k : α) (h : k ∉ firsts l) : kvsOf enc (l ++ [k]) = kvsOf enc l ++ [(enc k, eI (firsts l).length)] := by
  unfold kvsOf
  rw [firsts_snoc, if_neg h, List.map_append]
  congr 1
  · apply List.map_congr_left
    intro x hx
    rw [List.idxOf_append, if_pos hx]
  · rw [List.map_cons, List.map_nil, List.idxOf_append, if_neg h]
    simp
theorem kvs_old {α : Type} [DecidableEq α] (enc : α → PyData) (l : List α) (k : α) (h : k ∈ firsts l) : kvsOf enc (l ++ [k]) = kvsOf enc l := by
  unfold kvsOf
  rw [firsts_snoc, if_pos h]
section
variable {P : Program} {w : World} {K : PySem.W.Frag} {mg : Str → Option Value} {base : Heap}
theorem sc_marks_of : FnScope ["keys", "found", "key"] ["keys"] (defScope s_marks_of) := ⟨rfl, rfl, rfl, by decide +kernel, rfl, by decide +kernel, by decide +kernel⟩
def G_marksOf (ds : List PyData) (F : PyData → Prop) : Prop := ∃ (α : Type) (_ : DecidableEq α) (enc : α → PyData) (ks : List α), ds = [.list (ks.map enc)] ∧ (∀ a b, enc a = enc b → a = b) ∧ (∀ k ∈ ks, TupD (enc k) ∧ noL (enc k) = true) ∧ ks.length ≤ 900 ∧ F (eS (numb ks))
theorem o_marksOf (fr : Fre mg) (D : Df K mg "marks_of" s_marks_of [] []) : Own P w K mg base 1 "marks_of" [] (spD 1 G_marksOf) := by
  refine Df.own (ps := ["keys"]) D (fun f fd F => okD F sc_marks_of rfl fun cdv A outer s H E hr => ?_) fun _ _ _ _ _ _ us hl => match us, hl with | [_], _ => rfl
  have nd := sc_marks_of.nd
  have hu := hr.units
  have hu1 := hu_of hr
  have hu5 := Room.units65 hr
  refine ⟨_, _, (dseq (dset 1 nd vnewN) (dseq (dforD 0 PassesOwn.never rfl (gname 2 nd) (dlast (difS (tninN hu 1 (dv 2)) (dlast (dsetN hu 1 (dv 2) (dlenN (by rfl) fr.len 1))) dnil))) (dlast (dret (dtupOfL (by rfl) fr.tuple (lcL (dv 0) (plc (own := [("key", 2)]) rfl nd (blkOk_by (by kernel_rfl)) (fun _ _ _ _ _ => (gname 2 nd)) (by decide) (fun _ _ _ _ _ => yes) (fun _ _ _ _ _ => (dixN P w hu 1 (dv 2)))))))))), fun as Fp hl hG => ?_⟩
  obtain ⟨α, dec, enc, ks, rfl, inj, hk, hlen, hf⟩ := hG
  have nks : noLs (ks.map enc) = true := noLs_map _ _ fun k h => (hk k h).2
  refine ⟨rfl, fun p => ⟨_, rfl, nks, fun i τ => ∃ x2, τ = [some (.d (.list (ks.map enc))), some (.n p (kvsOf enc (ks.take i))), x2], ⟨none, rfl⟩, fun _ _ _ _ => trivial, fun i x τ' hx hw => ?_, fun τ' hw => ?_⟩⟩
  · obtain ⟨x2, rfl⟩ := hw
    rw [List.getElem?_map] at hx
    cases e : ks[i]? with
    | none => rw [e] at hx; cases hx
    | some k =>
      rw [e] at hx
      cases hx
      have km := List.mem_of_getElem? e
      have htake : ks.take (i + 1) = ks.take i ++ [k] := by rw [List.take_add_one, e]; rfl
      refine ⟨(hk k km).2, _, _, rfl, rfl, p, _, rfl, (hk k km).1, fun c hc => ?_⟩
      rw [kvs_keys, List.mem_map] at hc
      by_cases hin : k ∈ firsts (ks.take i)
      · have : c = true := hc.mpr ⟨k, hin, rfl⟩
        subst this
        exact ⟨some (.d (enc k)), by rw [htake, kvs_old _ _ _ hin]; rfl⟩
      · have hni : enc k ∉ (kvsOf enc (ks.take i)).map (·.1) := by
          rw [kvs_keys, List.mem_map]
          rintro ⟨k2, h2, e2⟩
          exact hin (inj _ _ e2 ▸ h2)
        have : c = false := by
          cases c with
          | false => rfl
          | true =>
            obtain ⟨k2, h2, e2⟩ := hc.mp rfl
            exact absurd (inj _ _ e2 ▸ h2) hin
        subst this
        have hl : (kvsOf enc (ks.take i)).length = (firsts (ks.take i)).length := by unfold kvsOf; rw [List.length_map]
        have hl2 : (firsts (ks.take i)).length ≤ 900 := by
          have := firsts_len (ks.take i)
          rw [List.length_take] at this
          omega
        refine ⟨p, _, rfl, p, _, rfl, _, _, rfl, rfl, (hk k km).1, (hk k km).2, rfl, hni, by omega, ?_⟩
        exact ⟨some (.d (enc k)), by rw [htake, kvs_new _ _ _ hin, hl]; rfl⟩
  · obtain ⟨x2, rfl⟩ := hw
    rw [List.length_map, List.take_length]
    refine ⟨_, _, rfl, rfl, _, rfl, by rw [List.length_map]; omega, dColl_one (zs := ks) (enc := enc) (fun k => eI ((firsts ks).idxOf k)) (fun k hkm R hR => ?_) ?_⟩
    · refine ⟨(hk k hkm).2, p, _, rfl, _, _, rfl, rfl, _, (hk k hkm).1, ?_, rfl, hR⟩
      exact List.mem_map.mpr ⟨k, (firsts_mem ks k).mpr hkm, rfl⟩
    · have : eS (numb ks) = .tuple (ks.map fun k => eI ((firsts ks).idxOf k)) := by
        unfold eS numb
        rw [List.map_map]
        rfl
      rw [← this]
      exact hf
theorem sc_marks_by : FnScope ["machine", "standing", "late", "answer", "marks", "k", "to"] ["machine"] (defScope s_marks_by) := ⟨rfl, rfl, rfl, by decide +kernel, rfl, by decide +kernel, by decide +kernel⟩
def G_marks (ds : List PyData) (F : PyData → Prop) : Prop := ∃ (m : Mc) (wd : Nat), ds = [eM m] ∧ Ok m wd ∧ F (eS (cls m))
def eK (k : Nat × List Nat) : PyData := .tuple [eI k.1, eS k.2]
theorem eK_inj (a b : Nat × List Nat) (h : eK a = eK b) : a = b := by
  unfold eK at h
  have := PyData.tuple.inj h
  simp only [List.cons.injEq, and_true] at this
  exact Prod.ext (eI_inj this.1) (eS_inj this.2)
theorem tupD_of {x : PyData} {xs : List PyData} (h : pureD (.tuple (x :: xs)) = true) (hd : (PyData.tuple (x :: xs)).depth ≤ 8) : TupD (.tuple (x :: xs)) := ⟨h, hd, x, xs, rfl⟩
theorem tupD_eS {l : List Nat} (h : l ≠ []) : TupD (eS l) := by
  cases l with
  | nil => exact absurd rfl h
  | cons a l => exact tupD_of (pure_eS (a :: l)) (by have := dep_eS (a :: l); unfold eS at this; simp only [List.map_cons] at this; omega)
theorem tupD_eK (k : Nat × List Nat) : TupD (eK k) ∧ noL (eK k) = true := by
  refine ⟨tupD_of ?_ ?_, ?_⟩
  · show pureDs [eI k.1, eS k.2] = true
    simp only [pureDs, pure_eS, Bool.and_true]
    rfl
  · have h : (PyData.tuple [eI k.1, eS k.2]).depth ≤ 1 + 1 := dep_tup fun d hd => by
      rcases List.mem_cons.mp hd with rfl | hd
      · have := dep_eI k.1
        omega
      · rw [List.mem_singleton.mp hd]
        exact dep_eS _
    omega
  · show noLs [eI k.1, eS k.2] = true
    simp only [noLs, noL_eS, Bool.and_true]
    rfl
theorem at_eS {L : List Nat} {i : Nat} (h : i < L.length) : (L.map eI)[i]? = some (eI (L.getD i 0)) := at_map (by
  rw [List.getElem?_eq_getElem h, List.getD_eq_getElem?_getD, List.getElem?_eq_getElem h]
  rfl)
theorem rgD_eI (n : Nat) : rgD n = (List.range n).map eI := rfl
theorem o_marks (fr : Fre mg) (D : Df K mg "marks_by" s_marks_by [] []) (O_marks_of : Own P w K mg base 1 "marks_of" [] (spD 1 G_marksOf)) : Own P w K mg base 2 "marks_by" [] (spD 1 G_marks) := by
  refine Df.own (ps := ["machine"]) D (fun f fd F => okD F sc_marks_by rfl fun cdv A outer s H E hr => ?_) fun _ _ _ _ _ _ us hl => match us, hl with | [_], _ => rfl
  have nd := sc_marks_by.nd
  have hu := hr.units
  have hu1 := hu_of hr
  have hu5 := Room.units65 hr
  refine ⟨_, _, (dseq (dset 4 nd (PD.v (dcall O_marks_of (hr.mono (by decide)) (by rfl) (acons (dofl (lcT (dv 0) (plc (own := [("standing", 1)]) rfl nd (blkOk_by (by kernel_rfl)) (fun _ _ _ _ _ => (gname 1 nd)) (by decide) (fun _ _ _ _ _ => yes) (fun _ _ _ _ _ => (dtupOfL (by rfl) fr.tuple (lcT (dv 1) (plc (own := [("late", 2), ("answer", 3)]) rfl nd (blkOk_by (by kernel_rfl)) (fun _ _ _ _ _ => (gtup (n := 2) rfl (gcons (gname 2 nd) (gcons (gname 3 nd) gnil)))) (by decide) (fun _ _ _ _ _ => yes) (fun _ _ _ _ _ => (dv 3))))))))) anil)))) (dseq (dset 2 nd (PD.v (dtup anil))) (dseq (dwhile PassesOwn.never (tne hu (dv 2) (dv 4)) (dseq (dset 2 nd (PD.v (dv 4))) (dlast (dset 4 nd (PD.v (dcall O_marks_of (hr.mono (by decide)) (by rfl) (acons (dofl (lcR (by rfl) fr.range (acons (dlen (by rfl) fr.len (dv 0)) anil) (plc (own := [("k", 5)]) rfl nd (blkOk_by (by kernel_rfl)) (fun _ _ _ _ _ => (gname 5 nd)) (by decide) (fun _ _ _ _ _ => yes) (fun _ _ _ _ _ => (dtup (acons (dix (dv 2) (dv 5)) (acons (dtupOfL (by rfl) fr.tuple (lcT (dix (dv 0) (dv 5)) (plc (own := [("to", 6), ("answer", 3)]) rfl nd (blkOk_by (by kernel_rfl)) (fun _ _ _ _ _ => (gtup (n := 2) rfl (gcons (gname 6 nd) (gcons (gname 3 nd) gnil)))) (by decide) (fun _ _ _ _ _ => yes) (fun _ _ _ _ _ => (dix (dv 2) (dv 6)))))) anil))))))) anil))))))) (dlast (dret (dv 4)))))), fun as Fp hl hG => ?_⟩
  obtain ⟨m, wd, rfl, o, hf⟩ := hG
  have hm5 := o.small
  refine ⟨_, _, rfl, rfl, _, rfl, by rw [List.length_map]; omega, dColl_one (zs := m) (enc := eR) (fun r => eS (r.map fun p => p.2)) (fun r hr R hR => ?_) ?_⟩
  · refine ⟨noL_eR r, _, _, rfl, rfl, _, rfl, ?_, dColl_one (zs := r) (enc := eP) (fun p => eI p.2) (fun p hp R2 hR2 => dg2 rfl rfl ⟨_, _, rfl, rfl, rfl, hR2⟩) ⟨noLs_map _ _ fun _ _ => rfl, ?_⟩⟩
    · rw [List.length_map, o.wid r hr]
      have := o.wsmall
      omega
    · have e : eS (r.map fun p => p.2) = .tuple (r.map fun p => eI p.2) := by
        unfold eS
        rw [List.map_map]
        rfl
      rw [← e]
      exact hR
  · refine ⟨rfl, List Nat, inferInstance, eS, m.map fun r => r.map fun p => p.2, by rw [List.map_map]; rfl, fun a b => eS_inj, fun k hk => ?_, by rw [List.length_map]; omega, noL_eS _, fun _ => ?_⟩
    · obtain ⟨r, hr, rfl⟩ := List.mem_map.mp hk
      refine ⟨tupD_eS fun e => ?_, noL_eS _⟩
      have := o.wid r hr
      have h2 := o.wp
      rw [List.map_eq_nil_iff] at e
      rw [e] at this
      simp at this
      omega
    · refine ⟨Nat.zero_le _, rfl, rfl, fun _ => ⟨fun k τ => ∃ L Lp, τ = [some (.d (eM m)), none, some (.d (eS Lp)), none, some (.d (eS L)), none, none] ∧ MInv m wd L ∧ (Lp = [] ∨ (MInv m wd Lp ∧ L = stepP m Lp)) ∧ k = (if Lp = L then 0 else 1 + (m.length - (firsts L).length)), ⟨_, marks0 m, [], rfl, marks0_inv o, .inl rfl, rfl⟩, ?_⟩⟩
      rintro k τ ⟨L, Lp, rfl, hI, hp, rfl⟩
      refine ⟨_, _, rfl, rfl, _, _, rfl, rfl, rfl, rfl, shaped_eS _, shaped_eS _, _, rfl, ?_⟩
      rw [eqv_eS]
      have hl := hI.len
      by_cases c : Lp = L
      · rw [decide_eq_true c]
        have hL : L = cls m := by
          rcases hp with e | ⟨hIp, e⟩
          · exfalso
            rw [← c, e] at hl
            have := o.ne
            simp at hl
            omega
          · rw [c] at e
            exact hI.done o e.symm
        exact ⟨_, _, rfl, rfl, by rw [hL]; exact hf⟩
      · rw [decide_eq_false c, if_neg c]
        refine ⟨_, _, rfl, rfl, noL_eS _, fun _ => ⟨_, _, rfl, rfl, _, m.map eR, rfl, rfl, (m.map eR).length, rfl, by rw [List.length_map]; omega, ?_⟩⟩
        refine dColl_one (zs := List.range (m.map eR).length) (enc := eI) (fun k => eK (L.getD k 0, (row m k).map fun p => L.getD p.1 0)) (fun k hk R hR => ?_) ?_
        · rw [List.length_map] at hk
          have hk := List.mem_range.mp hk
          refine ⟨rfl, _, _, rfl, rfl, _, _, rfl, rfl, dIx_nat rfl (at_eS (by omega)) ⟨_, _, rfl, rfl, _, _, rfl, rfl, dIx_nat rfl (at_eM hk) ⟨_, rfl, ?_, dColl_one (zs := row m k) (enc := eP) (fun p => eI (L.getD p.1 0)) (fun p hp R2 hR2 => dg2 rfl rfl ⟨_, _, rfl, rfl, _, _, rfl, rfl, dIx_nat rfl (at_eS ?_) ⟨rfl, hR2⟩⟩) ⟨by show 2 ≤ 100000; decide, rfl, ?_, ?_⟩⟩⟩⟩
          · rw [List.length_map, o.row_len hk]
            have := o.wsmall
            omega
          · rw [hl]
            exact o.nxt _ (row_mem hk) p hp
          · show noLs _ = true
            have : noLs ((row m k).map fun p => eI (L.getD p.1 0)) = true := noLs_map _ _ fun _ _ => rfl
            simp only [noLs, noL, this, Bool.and_true]
            rfl
          · have e : eK (L.getD k 0, (row m k).map fun p => L.getD p.1 0) = .tuple [eI (L.getD k 0), .tuple ((row m k).map fun p => eI (L.getD p.1 0))] := by
              unfold eK eS
              rw [List.map_map]
              rfl
            rw [← e]
            exact hR
        · refine ⟨rfl, Nat × List Nat, inferInstance, eK, keysP m L, by unfold keysP; rw [List.map_map, List.length_map]; rfl, eK_inj, fun k _ => tupD_eK k, by unfold keysP; rw [List.length_map, List.length_range]; omega, noL_eS _, fun _ => ?_⟩
          refine ⟨_, ?_, stepP m L, L, rfl, hI.step o, .inr ⟨hI, rfl⟩, rfl⟩
          by_cases c2 : L = stepP m L
          · rw [if_pos c2]
            omega
          · rw [if_neg c2]
            rcases hI.grows o with e | e
            · exact absurd e.symm c2
            · have := (hI.step o).few
              omega
end
end Wk
end

section
set_option Elab.async false
set_option linter.all false
set_option maxRecDepth 100000
set_option maxHeartbeats 4000000
namespace Wk
open PySem PySem.Spec PyProof.Rows L2
theorem idx_cast (l : List Nat) (k : Nat) : (l.map fun n => ((n : Nat) : Int)).idxOf ((k : Nat) : Int) = l.idxOf k := idxOf_map (fun n : Nat => ((n : Nat) : Int)) l k fun x _ h => by
  have h : ((x : Nat) : Int) = ((k : Nat) : Int) := h
  omega
theorem setN_all {n : Nat} {xs : List Nat} (h : ∀ t, t < n → t ∈ xs) : setN n xs = List.range n := by
  unfold setN
  rw [List.filter_eq_self]
  intro t ht
  exact decide_eq_true (h t (List.mem_range.mp ht))
section
variable {P : Program} {w : World} {K : PySem.W.Frag} {mg : Str → Option Value} {base : Heap}
theorem sc_merged_by : FnScope ["machine", "marks", "mark", "firsts", "first", "late", "answer"] ["machine"] (defScope s_merged_by) := ⟨rfl, rfl, rfl, by decide +kernel, rfl, by decide +kernel, by decide +kernel⟩
def G_merged (ds : List PyData) (F : PyData → Prop) : Prop := ∃ (m : Mc) (wd : Nat), ds = [eM m] ∧ Ok m wd ∧ F (eM (Wk.mg m))
theorem o_merged (fr : Fre mg) (D : Df K mg "merged_by" s_merged_by [] []) (O_marks_by : Own P w K mg base 2 "marks_by" [] (spD 1 G_marks)) (O_as_set : Own P w K mg base 1 "as_set" [] (spD 1 G_setI)) : Own P w K mg base 3 "merged_by" [] (spD 1 G_merged) := by
  refine Df.own (ps := ["machine"]) D (fun f fd F => okD F sc_merged_by rfl fun cdv A outer s H E hr => ?_) fun _ _ _ _ _ _ us hl => match us, hl with | [_], _ => rfl
  have nd := sc_merged_by.nd
  have hu := hr.units
  have hu1 := hu_of hr
  have hu5 := Room.units65 hr
  refine ⟨_, _, (dseq (dset 1 nd (PD.v (dcall O_marks_by (hr.mono (by decide)) (by rfl) (acons (dv 0) anil)))) (dseq (dsetT 3 (dcall O_as_set (hr.mono (by decide)) (by rfl) (acons (dv 1) anil)) (plc (own := [("mark", 2)]) rfl nd (blkOk_by (by kernel_rfl)) (fun _ _ _ _ _ => (gname 2 nd)) (by decide) (fun _ _ _ _ _ => yes) (fun _ _ _ _ _ => (dindexT (dv 1) (dv 2))))) (dlast (dret (dtupOfL (by rfl) fr.tuple (lcL (dv 3) (plc (own := [("first", 4)]) rfl nd (blkOk_by (by kernel_rfl)) (fun _ _ _ _ _ => (gname 4 nd)) (by decide) (fun _ _ _ _ _ => yes) (fun _ _ _ _ _ => (dtupOfL (by rfl) fr.tuple (lcT (dix (dv 0) (dv 4)) (plc (own := [("late", 5), ("answer", 6)]) rfl nd (blkOk_by (by kernel_rfl)) (fun _ _ _ _ _ => (gtup (n := 2) rfl (gcons (gname 5 nd) (gcons (gname 6 nd) gnil)))) (by decide) (fun _ _ _ _ _ => yes) (fun _ _ _ _ _ => (dtup (acons (dix (dv 1) (dv 5)) (acons (dv 6) anil))))))))))))))), fun as Fp hl hG => ?_⟩
  obtain ⟨m, wd, rfl, o, hf⟩ := hG
  have hm5 := o.small
  have hc := cls_can o
  have hcl := cls_len m
  have hset : setN (nC (cls m)) (cls m) = List.range (nC (cls m)) := setN_all fun t ht => hc.lt.mpr ht
  have hn : nC (cls m) ≤ 5 := by
    have := mg_le o
    rw [mg_len] at this
    omega
  refine ⟨_, _, rfl, rfl, rfl, m, wd, rfl, o, noL_eS _, fun _ => ⟨_, _, rfl, rfl, rfl, eS (cls m), cls m, nC (cls m), rfl, rfl, by omega, fun t ht => hc.lt.mp ht, ?_⟩⟩
  rw [hset]
  refine ⟨_, rfl, by rw [List.length_map, List.length_range]; omega, dColl_one (zs := List.range (nC (cls m))) (enc := eI) (fun k => eI ((cls m).idxOf k)) (fun k hk R hR => ?_) ⟨noLs_map _ _ fun _ _ => rfl, fun p => ?_⟩⟩
  · refine ⟨rfl, _, _, rfl, rfl, (cls m).map fun n => ((n : Nat) : Int), by show eS (cls m) = _; unfold eS; rw [eI_ints], _, _, rfl, rfl, (k : Nat), rfl, List.mem_map.mpr ⟨k, hc.lt.mpr (List.mem_range.mp hk), rfl⟩, rfl, ?_⟩
    rw [idx_cast]
    exact hR
  · refine ⟨_, _, rfl, rfl, _, rfl, by rw [List.length_map, List.length_range]; omega, dColl_one (zs := List.range (nC (cls m))) (enc := fun k => eI ((cls m).idxOf k)) (fun k => eR ((row m ((cls m).idxOf k)).map fun p => (cl m p.1, p.2))) (fun k hk R hR => ?_) ?_⟩
    · have hi : (cls m).idxOf k < m.length := by
        rw [← hcl]
        exact List.idxOf_lt_length_iff.mpr (hc.lt.mpr (List.mem_range.mp hk))
      refine ⟨rfl, _, _, rfl, rfl, _, _, rfl, rfl, dIx_nat rfl (at_eM hi) ⟨_, rfl, ?_, dColl_one (zs := row m ((cls m).idxOf k)) (enc := eP) (fun p => eP (cl m p.1, p.2)) (fun p hp R2 hR2 => dg2 rfl rfl ⟨_, _, rfl, rfl, _, _, rfl, rfl, dIx_nat rfl (at_eS ?_) ⟨_, _, rfl, rfl, by show 2 ≤ 100000; decide, rfl, rfl, hR2⟩⟩) ⟨noLs_map _ _ fun _ _ => rfl, ?_⟩⟩⟩
      · rw [List.length_map, o.row_len hi]
        have := o.wsmall
        omega
      · rw [hcl]
        exact o.nxt _ (row_mem hi) p hp
      · have e : eR ((row m ((cls m).idxOf k)).map fun p => (cl m p.1, p.2)) = .tuple ((row m ((cls m).idxOf k)).map fun p => eP (cl m p.1, p.2)) := by
          unfold eR
          rw [List.map_map]
          rfl
        rw [← e]
        exact hR
    · have e : eM (Wk.mg m) = .tuple ((List.range (nC (cls m))).map fun k => eR ((row m ((cls m).idxOf k)).map fun p => (cl m p.1, p.2))) := by
        unfold eM Wk.mg
        rw [List.map_map]
        rfl
      rw [← e]
      exact hf
end
end Wk
end

section
set_option Elab.async false
set_option linter.all false
set_option maxRecDepth 100000
set_option maxHeartbeats 4000000
namespace Wk
open PySem PySem.Spec PyProof.Rows L2
/-- what a search has found, and what is behind it -/
structure LedInv (m : Mc) (wd s : Nat) (A B : List Nat) : Prop where
  sB : B.Pairwise (· < ·)
  lB : ∀ t ∈ B, ∃ r, Lets wd r ∧ ends m s r = t
  sB2 : s ∈ B
  st : A = [] ∨ B = setN m.length (A ++ nextsOf m A) ∧ (∀ t ∈ A, t < m.length)
theorem led_done {m : Mc} {wd s : Nat} (o : Ok m wd) (hs : s < m.length) {A : List Nat} (h : LedInv m wd s A A) : A = reach m s := by
  refine sorted_ext _ _ h.sB (setN_sorted _ _) fun t => ⟨fun ht => (mem_reach o hs).mpr (h.lB t ht), fun ht => ?_⟩
  rcases h.st with e | ⟨e, hl⟩
  · rw [e] at h
    exact absurd h.sB2 (by simp)
  · have cl : ∀ u ∈ A, ∀ x, x < wd → nx m u x ∈ A := fun u hu x hx => by
      rw [e]
      have hlt := o.nx_lt (hl u hu) hx
      exact mem_setN.mpr ⟨hlt, List.mem_append_right _ ((mem_nexts o hl).mpr ⟨u, hu, x, hx, rfl⟩)⟩
    obtain ⟨r, lr, e2⟩ := (mem_reach o hs).mp ht
    rw [← e2]
    have key : ∀ (r : List Nat) (u : Nat), u ∈ A → Lets wd r → ends m u r ∈ A := by
      intro r
      induction r with
      | nil => exact fun u hu _ => hu
      | cons x r ih => exact fun u hu l => ih _ (cl u hu x (Lets.cons.mp l).1) (Lets.cons.mp l).2
    exact key r s h.sB2 lr
theorem LedInv.lt {m : Mc} {wd s : Nat} (o : Ok m wd) (hs : s < m.length) {A B : List Nat} (h : LedInv m wd s A B) : ∀ t ∈ B, t < m.length := fun t ht => by
  obtain ⟨r, lr, rfl⟩ := h.lB t ht
  exact ends_lt o r s hs lr
theorem LedInv.step {m : Mc} {wd s : Nat} (o : Ok m wd) (hs : s < m.length) {A B : List Nat} (h : LedInv m wd s A B) : LedInv m wd s B (setN m.length (B ++ nextsOf m B)) := by
  have hl := h.lt o hs
  refine ⟨setN_sorted _ _, fun t ht => ?_, mem_setN.mpr ⟨hs, List.mem_append_left _ h.sB2⟩, .inr ⟨rfl, hl⟩⟩
  obtain ⟨h1, h2⟩ := mem_setN.mp ht
  rcases List.mem_append.mp h2 with h2 | h2
  · exact h.lB t h2
  · obtain ⟨u, hu, x, hx, e⟩ := (mem_nexts o hl).mp h2
    obtain ⟨r, lr, e2⟩ := h.lB u hu
    refine ⟨r ++ [x], lr.app (Lets.cons.mpr ⟨hx, Lets.nil⟩), ?_⟩
    rw [ends_app, e2]
    exact e
theorem LedInv.grow {m : Mc} {wd s : Nat} (o : Ok m wd) (hs : s < m.length) {A B : List Nat} (h : LedInv m wd s A B) : B = setN m.length (B ++ nextsOf m B) ∨ B.length < (setN m.length (B ++ nextsOf m B)).length := by
  have hl := h.lt o hs
  have hsub : ∀ t ∈ B, t ∈ setN m.length (B ++ nextsOf m B) := fun t ht => mem_setN.mpr ⟨hl t ht, List.mem_append_left _ ht⟩
  have ndB : B.Nodup := h.sB.imp fun h => Nat.ne_of_lt h
  by_cases c : B.length < (setN m.length (B ++ nextsOf m B)).length
  · exact .inr c
  · left
    refine sorted_ext _ _ h.sB (setN_sorted _ _) fun t => ⟨hsub t, fun ht => ?_⟩
    by_cases hin : t ∈ B
    · exact hin
    · have nd2 : (t :: B).Nodup := List.nodup_cons.mpr ⟨hin, ndB⟩
      have := nodup_len_le (t :: B) (setN m.length (B ++ nextsOf m B)) nd2 fun u hu => by
        rcases List.mem_cons.mp hu with rfl | hu
        · exact ht
        · exact hsub u hu
      rw [List.length_cons] at this
      omega
section
variable {P : Program} {w : World} {K : PySem.W.Frag} {mg : Str → Option Value} {base : Heap}
theorem sc_led_from : FnScope ["machine", "standing", "found", "late"] ["machine", "standing"] (defScope s_led_from) := ⟨rfl, rfl, rfl, by decide +kernel, rfl, by decide +kernel, by decide +kernel⟩
def G_led (ds : List PyData) (F : PyData → Prop) : Prop := ∃ (m : Mc) (wd s : Nat), ds = [eM m, eI s] ∧ Ok m wd ∧ s < m.length ∧ F (eS (reach m s))
theorem o_led (fr : Fre mg) (D : Df K mg "led_from" s_led_from [] []) (O_as_set : Own P w K mg base 1 "as_set" [] (spD 1 G_setI)) (O_nexts_of : Own P w K mg base 2 "nexts_of" [] (spD 2 G_nexts)) : Own P w K mg base 3 "led_from" [] (spD 2 G_led) := by
  refine Df.own (ps := ["machine", "standing"]) D (fun f fd F => okD F sc_led_from rfl fun cdv A outer s H E hr => ?_) fun _ _ _ _ _ _ us hl => match us, hl with | [_, _], _ => rfl
  have nd := sc_led_from.nd
  have hu := hr.units
  have hu1 := hu_of hr
  have hu5 := Room.units65 hr
  refine ⟨_, _, (dseq (dpar 2 3 rfl nd (PD.v (dtup anil)) (PD.v (dtup (acons (dv 1) anil))) (by rfl)) (dseq (dwhile PassesOwn.never (tne hu (dv 3) (dv 2)) (dseq (dset 2 nd (PD.v (dv 3))) (dlast (dset 3 nd (PD.v (dcall O_as_set (hr.mono (by decide)) (by rfl) (acons (dofl (ldisp (astar (dv 2) (astar (dcall O_nexts_of (hr.mono (by decide)) (by rfl) (acons (dv 0) (acons (dv 2) anil))) anil)))) anil))))))) (dlast (dret (dv 2))))), fun as Fp hl hG => ?_⟩
  obtain ⟨m, wd, s, rfl, o, hs, hf⟩ := hG
  have hm5 := o.small
  refine ⟨Nat.zero_le _, rfl, _, _, rfl, rfl, by show 1 ≤ 100000; decide, rfl, rfl, rfl, fun _ _ => ⟨fun k τ => ∃ A B, τ = [some (.d (eM m)), some (.d (eI s)), some (.d (eS A)), some (.d (eS B))] ∧ LedInv m wd s A B ∧ k = (if B = A then 0 else 1 + (m.length - B.length)), ⟨_, [], [s], rfl, ⟨by simp, fun t ht => ⟨[], Lets.nil, by simp at ht; exact ht.symm⟩, by simp, .inl rfl⟩, rfl⟩, ?_⟩⟩
  rintro k τ ⟨A, B, rfl, hI, rfl⟩
  refine ⟨_, _, rfl, rfl, _, _, rfl, rfl, rfl, rfl, shaped_eS _, shaped_eS _, _, rfl, ?_⟩
  rw [eqv_eS]
  have hBl := hI.lt o hs
  have ndB : B.Nodup := hI.sB.imp fun h => Nat.ne_of_lt h
  have hB5 : B.length ≤ m.length := by
    have := nodup_len_le B (List.range m.length) ndB fun t ht => List.mem_range.mpr (hBl t ht)
    rw [List.length_range] at this
    exact this
  by_cases c : B = A
  · rw [decide_eq_true c]
    subst c
    exact ⟨_, _, rfl, rfl, by rw [led_done o hs hI]; exact hf⟩
  · rw [decide_eq_false c, if_neg c]
    have hnx : (nextsOf m B).length ≤ 5 := Nat.le_trans (setN_len _ _) hm5
    refine ⟨_, _, rfl, rfl, noL_eS _, fun _ => ⟨_, _, rfl, rfl, _, rfl, _, _, rfl, rfl, _, _, rfl, rfl, rfl, ⟨m, wd, B, rfl, o, hBl, by omega, ⟨_, rfl, ?_, ?_, rfl, ⟨_, B ++ nextsOf m B, m.length, rfl, ?_, ?_, ?_, noL_eS _, fun _ => ?_⟩⟩⟩⟩⟩
    · simp only [List.length_append, List.length_map, List.length_nil]
      omega
    · simp only [List.append_nil, List.all_append, Bool.and_eq_true, List.all_eq_true]
      exact ⟨fun d hd => by obtain ⟨t, _, rfl⟩ := List.mem_map.mp hd; rfl, fun d hd => by obtain ⟨t, _, rfl⟩ := List.mem_map.mp hd; rfl⟩
    · simp [seqOf]
    · rw [List.length_append]
      omega
    · intro t ht
      rcases List.mem_append.mp ht with ht | ht
      · exact hBl t ht
      · exact nexts_lt m B t ht
    · refine ⟨_, ?_, B, setN m.length (B ++ nextsOf m B), rfl, hI.step o hs, rfl⟩
      by_cases c2 : setN m.length (B ++ nextsOf m B) = B
      · rw [if_pos c2]
        omega
      · rw [if_neg c2]
        have h1 := setN_len m.length (B ++ nextsOf m B)
        rcases hI.grow o hs with e | e
        · exact absurd e.symm c2
        · omega
end
end Wk
end

section
set_option Elab.async false
set_option linter.all false
set_option maxRecDepth 100000
set_option maxHeartbeats 4000000
namespace Wk
open PySem PySem.Spec PyProof.Rows L2
theorem spots_find : ∀ (T : List Int) (k : Nat) (n : Int), n ∈ T → ((T.zipIdx k).map fun q => (q.1, (q.2 : Int))).find? (fun q => decide (q.1 = n)) = some (n, ((k + T.idxOf n : Nat) : Int))
  | [], _, _, h => by simp at h
  | t :: T, k, n, h => by
    rw [List.zipIdx_cons, List.map_cons, List.find?_cons]
    by_cases c : t = n
    · subst c
      simp
    · have hm : n ∈ T := by
        rcases List.mem_cons.mp h with e | e
        · exact absurd e.symm c
        · exact e
      simp only [c, decide_false]
      rw [spots_find T (k + 1) n hm, List.idxOf_cons]
      have hb : (t == n) = false := by simp [c]
      rw [hb]
      simp only [cond_false]
      congr 3
      omega
theorem eI_succ (k : Nat) : PyData.int (((k : Nat) : Int) + 1) = eI (k + 1) := by
  unfold eI
  rw [Int.natCast_succ]
theorem pushAll_snoc : ∀ (r : List (Nat × Nat)) (o : List Nat) (q : Nat × Nat), pushAll o (r ++ [q]) = if q.1 ∈ pushAll o r then pushAll o r else pushAll o r ++ [q.1]
  | [], o, q => rfl
  | p :: r, o, q => pushAll_snoc r _ q
theorem nodup_cast {S : List Nat} (h : S.Nodup) : (S.map fun n => ((n : Nat) : Int)).Nodup := by
  unfold List.Nodup
  rw [List.pairwise_map]
  exact h.imp fun hne e => hne (by omega)
section
variable {P : Program} {w : World} {K : PySem.W.Frag} {mg : Str → Option Value} {base : Heap}
theorem sc_part_by : FnScope ["machine", "standings", "k", "old", "spots", "late", "answer"] ["machine", "standings"] (defScope s_part_by) := ⟨rfl, rfl, rfl, by decide +kernel, rfl, by decide +kernel, by decide +kernel⟩
def partOf (m : Mc) (S : List Nat) : Mc := S.map fun t => (row m t).map fun q => (S.idxOf q.1, q.2)
def G_part (ds : List PyData) (F : PyData → Prop) : Prop := ∃ (m : Mc) (wd : Nat) (S : List Nat), ds = [eM m, .list (S.map eI)] ∧ Ok m wd ∧ S.Nodup ∧ S.length ≤ 5 ∧ (∀ s ∈ S, s < m.length) ∧ (∀ s ∈ S, ∀ p ∈ row m s, p.1 ∈ S) ∧ F (eM (partOf m S))
theorem o_part (fr : Fre mg) (D : Df K mg "part_by" s_part_by [] []) : Own P w K mg base 1 "part_by" [] (spD 2 G_part) := by
  refine Df.own (ps := ["machine", "standings"]) D (fun f fd F => okD F sc_part_by rfl fun cdv A outer s H E hr => ?_) fun _ _ _ _ _ _ us hl => match us, hl with | [_, _], _ => rfl
  have nd := sc_part_by.nd
  have hu := hr.units
  have hu1 := hu_of hr
  have hu5 := Room.units65 hr
  refine ⟨_, _, (dseq (dset 4 nd (vdcS (own := [("k", 2), ("old", 3)]) 2 3 rfl nd (by rfl) fr.enumerate (dv 1) (blkOk_by (by kernel_rfl)) (by decide) (by decide) (by decide) (by rfl) (fun _ _ _ _ _ => pg_tup rfl (pgs_cons (pg_name nd rfl (Or.inl rfl)) (pgs_cons (pg_name nd rfl (Or.inl rfl)) pgs_nil)) (by rfl)) (fun _ _ _ _ _ => pv 3) (fun _ _ _ _ _ => pv 2) (by intro _; rfl))) (dlast (dret (dtupOfL (by rfl) fr.tuple (lcL (dv 1) (plc (own := [("old", 3)]) rfl nd (blkOk_by (by kernel_rfl)) (fun _ _ _ _ _ => (gname 3 nd)) (by decide) (fun _ _ _ _ _ => yes) (fun _ _ _ _ _ => (dtupOfL (by rfl) fr.tuple (lcT (dix (dv 0) (dv 3)) (plc (own := [("late", 5), ("answer", 6)]) rfl nd (blkOk_by (by kernel_rfl)) (fun _ _ _ _ _ => (gtup (n := 2) rfl (gcons (gname 5 nd) (gcons (gname 6 nd) gnil)))) (by decide) (fun _ _ _ _ _ => yes) (fun _ _ _ _ _ => (dtup (acons (dixS hu1 4 (dv 5)) (acons (dv 6) anil)))))))))))))), fun as Fp hl hG => ?_⟩
  obtain ⟨m, wd, S, rfl, o, nd2, hl5, hlt, hcl, hf⟩ := hG
  refine ⟨_, _, rfl, rfl, S.map fun n => ((n : Nat) : Int), by rw [eI_ints], nodup_cast nd2, by rw [List.length_map]; omega, by show 2 < 7; decide, by show 3 < 7; decide, rfl, fun p => ?_⟩
  refine ⟨_, _, rfl, rfl, _, rfl, by rw [List.length_map]; omega, dColl_one (zs := S) (enc := eI) (fun t => eR ((row m t).map fun q => (S.idxOf q.1, q.2))) (fun t ht R hR => ?_) ?_⟩
  · refine ⟨rfl, _, _, rfl, rfl, _, _, rfl, rfl, dIx_nat rfl (at_eM (hlt t ht)) ⟨_, rfl, ?_, dColl_one (zs := row m t) (enc := eP) (fun q => eP (S.idxOf q.1, q.2)) (fun q hq R2 hR2 => dg2 rfl rfl ⟨p, _, rfl, _, _, rfl, rfl, (q.1 : Nat), ((S.idxOf q.1 : Nat) : Int), rfl, ?_, _, _, rfl, rfl, by show 2 ≤ 100000; decide, rfl, rfl, hR2⟩) ⟨noLs_map _ _ fun _ _ => rfl, ?_⟩⟩⟩
    · rw [List.length_map, o.row_len (hlt t ht)]
      have := o.wsmall
      omega
    · have h := spots_find (S.map fun n => ((n : Nat) : Int)) 0 (q.1 : Nat) (List.mem_map.mpr ⟨q.1, hcl t ht q hq, rfl⟩)
      rw [idx_cast, Nat.zero_add] at h
      exact h
    · have e : eR ((row m t).map fun q => (S.idxOf q.1, q.2)) = .tuple ((row m t).map fun q => eP (S.idxOf q.1, q.2)) := by
        unfold eR
        rw [List.map_map]
        rfl
      rw [← e]
      exact hR
  · have e : eM (partOf m S) = .tuple (S.map fun t => eR ((row m t).map fun q => (S.idxOf q.1, q.2))) := by
      unfold eM partOf
      rw [List.map_map]
      rfl
    rw [← e]
    exact hf
theorem sc_numbered_from : FnScope ["machine", "standing", "order", "spot", "late", "answer"] ["machine", "standing"] (defScope s_numbered_from) := ⟨rfl, rfl, rfl, by decide +kernel, rfl, by decide +kernel, by decide +kernel⟩
def G_numbered (ds : List PyData) (F : PyData → Prop) : Prop := ∃ (m : Mc) (wd s : Nat), ds = [eM m, eI s] ∧ Ok m wd ∧ s < m.length ∧ F (eM (numbered m s))
theorem any_eI (l : List Nat) (t : Nat) : ((l.map eI).any fun z => PyData.eqv z (eI t)) = decide (t ∈ l) := by
  rw [Bool.eq_iff_iff, List.any_eq_true, decide_eq_true_eq]
  constructor
  · rintro ⟨z, hz, e⟩
    obtain ⟨u, hu, rfl⟩ := List.mem_map.mp hz
    rw [eqv_eI, decide_eq_true_eq] at e
    rw [← e]
    exact hu
  · intro h
    exact ⟨eI t, List.mem_map.mpr ⟨t, h, rfl⟩, by rw [eqv_eI]; exact decide_eq_true rfl⟩
theorem shaped_eIs (l : List Nat) : SeqAt.shaped (.list (l.map eI)) = true := shaped_list (pureDs_map _ _ fun _ _ => rfl) fun d hd => by
  obtain ⟨x, _, rfl⟩ := List.mem_map.mp hd
  have := dep_eI x
  omega
theorem o_numbered (fr : Fre mg) (D : Df K mg "numbered_from" s_numbered_from [] []) (O_part_by : Own P w K mg base 1 "part_by" [] (spD 2 G_part)) : Own P w K mg base 2 "numbered_from" [] (spD 2 G_numbered) := by
  refine Df.own (ps := ["machine", "standing"]) D (fun f fd F => okD F sc_numbered_from rfl fun cdv A outer s H E hr => ?_) fun _ _ _ _ _ _ us hl => match us, hl with | [_, _], _ => rfl
  have nd := sc_numbered_from.nd
  have hu := hr.units
  have hu1 := hu_of hr
  have hu5 := Room.units65 hr
  refine ⟨_, _, (dseq (dset 2 nd (PLd.v (ldisp (acons (dv 1) anil)))) (dseq (dset 3 nd (PD.v dint)) (dseq (dwhile PassesOwn.never (tlt (dv 3) (dlen (by rfl) fr.len (dv 2))) (dseq (dforT PassesOwn.never rfl (dix (dv 0) (dix (dv 2) (dv 3))) (gtup (n := 2) rfl (gcons (gname 4 nd) (gcons (gname 5 nd) gnil))) (dlast (difS (tnin hu5 (dv 4) (dv 2)) (dlast (dappend 2 (dv 4))) dnil))) (dlast (dset 3 nd (PD.v (dadd (dv 3) dint)))))) (dlast (dret (dcall O_part_by (hr.mono (by decide)) (by rfl) (acons (dv 0) (acons (dv 2) anil)))))))), fun as Fp hl hG => ?_⟩
  obtain ⟨m, wd, s, rfl, o, hs, hf⟩ := hG
  have hm5 := o.small
  refine ⟨_, _, rfl, rfl, by show 1 ≤ 100000; decide, rfl, rfl, fun p => ⟨rfl, fun _ => ⟨fun μ τ => ∃ k x4 x5, τ = [some (.d (eM m)), some (.d (eI s)), some (.l p ((ordK m s k).map eI)), some (.d (eI k)), x4, x5] ∧ k ≤ (ordK m s k).length ∧ μ = m.length - k, ⟨_, 0, none, none, rfl, Nat.zero_le _, rfl⟩, ?_⟩⟩⟩
  rintro μ τ ⟨k, x4, x5, rfl, hk, rfl⟩
  have hol := ordK_len o hs k
  refine ⟨_, _, rfl, rfl, _, _, rfl, rfl, _, _, rfl, rfl, _, _, rfl, rfl, _, rfl, ?_⟩
  rw [List.length_map]
  by_cases c : k < (ordK m s k).length
  · rw [decide_eq_true (show ((k : Nat) : Int) < ((ordK m s k).length : Nat) by omega)]
    have hat : ((ordK m s k).map eI)[k]? = some (eI ((ordK m s k).getD k 0)) := at_eS c
    have hkm : (ordK m s k).getD k 0 < m.length := by
      rw [getD_at c]
      exact ordK_lt o hs k _ (List.getElem_mem c)
    refine ⟨_, _, rfl, rfl, _, _, rfl, rfl, _, _, rfl, rfl, dIx_nat rfl hat (dIx_nat rfl (at_eM hkm) ⟨_, rfl, noLs_map _ _ fun _ _ => rfl, ?_⟩)⟩
    refine ⟨fun i τ => ∃ x4 x5, τ = [some (.d (eM m)), some (.d (eI s)), some (.l p ((pushAll (ordK m s k) ((row m ((ordK m s k).getD k 0)).take i)).map eI)), some (.d (eI k)), x4, x5], ⟨x4, x5, rfl⟩, fun _ _ _ _ => trivial, fun i x τ' hx hw => ?_, fun τ' hw => ?_⟩
    · obtain ⟨y4, y5, rfl⟩ := hw
      rw [List.getElem?_map] at hx
      cases e : (row m ((ordK m s k).getD k 0))[i]? with
      | none => rw [e] at hx; cases hx
      | some q =>
        rw [e] at hx
        cases hx
        have htake : (row m ((ordK m s k).getD k 0)).take (i + 1) = (row m ((ordK m s k).getD k 0)).take i ++ [q] := by rw [List.take_add_one, e]; rfl
        have hpl : ∀ t ∈ pushAll (ordK m s k) ((row m ((ordK m s k).getD k 0)).take i), t < m.length := fun t ht => by
          rcases (pushAll_mem _ _ t).mp ht with h | ⟨q2, h2, rfl⟩
          · exact ordK_lt o hs k t h
          · exact o.nxt _ (row_mem hkm) _ (List.mem_of_mem_take h2)
        have hpn : (pushAll (ordK m s k) ((row m ((ordK m s k).getD k 0)).take i)).length ≤ m.length := by
          have := nodup_len_le _ (List.range m.length) (pushAll_nodup ((row m ((ordK m s k).getD k 0)).take i) _ (ordK_nodup m s k)) fun t ht => List.mem_range.mpr (hpl t ht)
          rw [List.length_range] at this
          exact this
        refine dg2 rfl rfl ⟨_, _, rfl, rfl, _, _, rfl, rfl, _, rfl, rfl, shaped_eI _, shaped_eIs _, _, rfl, ?_⟩
        rw [if_pos rfl, any_eI]
        by_cases hin : q.1 ∈ pushAll (ordK m s k) ((row m ((ordK m s k).getD k 0)).take i)
        · rw [decide_eq_true hin]
          exact ⟨some (.d (eI q.1)), some (.d (eI q.2)), by rw [htake, pushAll_snoc, if_pos hin]; rfl⟩
        · rw [decide_eq_false hin]
          exact ⟨p, _, rfl, by rw [List.length_map]; omega, _, _, rfl, rfl, rfl, some (.d (eI q.1)), some (.d (eI q.2)), by rw [htake, pushAll_snoc, if_neg hin, List.map_append]; rfl⟩
    · obtain ⟨y4, y5, rfl⟩ := hw
      rw [List.length_map, List.take_length]
      refine ⟨_, _, rfl, rfl, _, _, rfl, rfl, rfl, fun _ => ⟨m.length - (k + 1), by omega, k + 1, y4, y5, ?_, ?_, rfl⟩⟩
      · rw [show ordK m s (k + 1) = pushAll (ordK m s k) (row m ((ordK m s k).getD k 0)) by rw [ordK, if_pos c]]
        show [_, _, _, _, _, _] = _
        rw [← eI_succ]
        rfl
      · obtain ⟨e, he⟩ := ordK_pre m s k
        rw [he, List.length_append]
        omega
  · rw [decide_eq_false (show ¬ ((k : Nat) : Int) < ((ordK m s k).length : Nat) by omega)]
    have hord : ordK m s k = ord m s := (ordK_stay m s (Nat.le_of_not_lt c) m.length (by omega)).symm
    refine ⟨_, _, rfl, rfl, _, _, rfl, rfl, rfl, m, wd, ordK m s k, rfl, o, ordK_nodup m s k, by omega, ordK_lt o hs k, fun t ht q hq => ?_, ?_⟩
    · rw [hord] at ht ⊢
      obtain ⟨x, hx, rfl⟩ := (o.mem_row (by rw [← hord] at ht; exact ordK_lt o hs k t ht)).mp hq
      exact ord_closed o hs ht hx
    · have : partOf m (ordK m s k) = numbered m s := by
        rw [hord]
        rfl
      rw [this]
      exact hf
end
end Wk
end

section
set_option Elab.async false
set_option linter.all false
set_option maxRecDepth 100000
set_option maxHeartbeats 4000000
namespace Wk
open PySem PySem.Spec PyProof.Rows L2
/-! ### the order of machines as data -/
def leM (a b : Mc) : Bool := PySem.W.dataLe false (fun z : PyData => z) (eM a) (eM b)
theorem alike_map {α : Type} {f : α → PyData} (h : ∀ a b, PySem.W.alike (f a) (f b) = true) : ∀ l l' : List α, PySem.W.alike (.tuple (l.map f)) (.tuple (l'.map f)) = true := by
  have key : ∀ l l' : List α, PySem.W.alikeAll (l.map f) (l'.map f) = true := by
    intro l
    induction l with
    | nil => intro l'; simp [PySem.W.alikeAll]
    | cons a l ih =>
      intro l'
      cases l' with
      | nil => simp [PySem.W.alikeAll]
      | cons b l' =>
        simp only [List.map_cons, PySem.W.alikeAll, h, ih, Bool.and_self]
  intro l l'
  simp only [PySem.W.alike]
  exact key l l'
theorem alike_eI (a b : Nat) : PySem.W.alike (eI a) (eI b) = true := by
  unfold eI
  simp [PySem.W.alike]
theorem alike_eS (a b : List Nat) : PySem.W.alike (eS a) (eS b) = true := alike_map alike_eI a b
theorem alike_eP (a b : Nat × Nat) : PySem.W.alike (eP a) (eP b) = true := by
  unfold eP
  simp only [PySem.W.alike, PySem.W.alikeAll, alike_eI, Bool.and_self]
theorem alike_eM (a b : Mc) : PySem.W.alike (eM a) (eM b) = true := alike_map (fun r r' => alike_map alike_eP r r') a b
theorem dataLe_anti {x y : PyData} (ha : PySem.W.alike x y = true) (hx : pureD x = true) (hy : pureD y = true) (h1 : PySem.W.dataLe false (fun z : PyData => z) x y = true) (h2 : PySem.W.dataLe false (fun z : PyData => z) y x = true) : x = y := by
  have e1 : PySem.W.dataLt y x = false := by
    have t : (!PySem.W.dataLt y x) = true := h1
    simpa using t
  have e2 : PySem.W.dataLt x y = false := by
    have t : (!PySem.W.dataLt x y) = true := h2
    simpa using t
  have ek : PySem.W.keyToks x = PySem.W.keyToks y := (PyProof.Rows.listOrd PyProof.Rows.itemOrd).total _ _ e2 e1
  cases c : PyData.eqv x y with
  | true => exact (eqv_pure x y hx hy).mp c
  | false =>
    exfalso
    have h := (PySem.W.toks_eqv x y ha).2 c [.inl 0] [.inl 1]
    rw [ek, PySem.W.lex_pre, PyProof.Rows.lex_irrefl] at h
    exact absurd h (by decide)
theorem leM_ok : LeOk leM := by
  have tot := PySem.W.sortLe_total (α := PyData) (PyProof.Rows.listOrd PyProof.Rows.itemOrd) false PySem.W.keyToks
  exact ⟨fun a b => tot.total (eM a) (eM b), fun a b c h1 h2 => tot.trans (eM a) (eM b) (eM c) h1 h2, fun a b h1 h2 => eM_inj (dataLe_anti (alike_eM a b) (pure_eM a) (pure_eM b) h1 h2)⟩
theorem tupD_eM {m : Mc} (h : m ≠ []) : TupD (eM m) := by
  cases m with
  | nil => exact absurd rfl h
  | cons r m => exact tupD_of (pure_eM (r :: m)) (by have := dep_eM (r :: m); unfold eM at this; simp only [List.map_cons] at this; omega)
theorem numbered_ne (p : Mc) (s : Nat) : numbered p s ≠ [] := fun e => by
  unfold numbered at e
  rw [List.map_eq_nil_iff] at e
  have := ordK_pos p s p.length
  unfold ord at e
  rw [e] at this
  exact absurd this (by simp)
section
variable {P : Program} {w : World} {K : PySem.W.Frag} {mg : Str → Option Value} {base : Heap}
theorem sc_least_parts : FnScope ["machine", "standing", "parts", "part", "found"] ["machine"] (defScope s_least_parts) := ⟨rfl, rfl, rfl, by decide +kernel, rfl, by decide +kernel, by decide +kernel⟩
def G_least (ds : List PyData) (F : List PyData → Prop) : Prop := ∃ (p : Mc) (wd : Nat), ds = [eM p] ∧ Ok p wd ∧ ∀ Ls : List (List Nat), Ls.Nodup → (∀ S, S ∈ Ls ↔ ∃ k, k < p.length ∧ good p k = true ∧ S = reach p k) → F (Ls.map eS)
theorem eS_enc (S : List Nat) : eS S = tupEnc (S.map fun n => ((n : Nat) : Int)) := by
  unfold eS tupEnc
  rw [eI_ints]
theorem o_least (fr : Fre mg) (D : Df K mg "least_parts" s_least_parts [] []) (O_all_standings : Own P w K mg base 1 "all_standings" [] (spD 1 G_allS)) (O_led_from : Own P w K mg base 3 "led_from" [] (spD 2 G_led)) : Own P w K mg base 4 "least_parts" [] (spL 1 G_least) := by
  refine Df.own (ps := ["machine"]) D (fun f fd F => okL F sc_least_parts rfl fun cdv A outer s H E hr => ?_) fun _ _ _ _ _ _ us hl => match us, hl with | [_], _ => rfl
  have nd := sc_least_parts.nd
  have hu := hr.units
  have hu1 := hu_of hr
  have hu5 := Room.units65 hr
  refine ⟨_, _, (dseq (dset 2 nd (PLd.v (lcT (dcall O_all_standings (hr.mono (by decide)) (by rfl) (acons (dv 0) anil)) (plc (own := [("standing", 1)]) rfl nd (blkOk_by (by kernel_rfl)) (fun _ _ _ _ _ => (gname 1 nd)) (by decide) (fun _ _ _ _ _ => yes) (fun _ _ _ _ _ => (dcall O_led_from (hr.mono (by decide)) (by rfl) (acons (dv 0) (acons (dv 1) anil)))))))) (dseq (dsetLl 4 (dv 2) (plc (own := [("part", 3)]) rfl nd (blkOk_by (by kernel_rfl)) (fun _ _ _ _ _ => (gname 3 nd)) (by decide) (fun _ _ _ _ _ => only (tval (dall rfl (by rfl) fr.all (dofl (lcT (dv 3) (plc (own := [("standing", 1)]) rfl nd (blkOk_by (by kernel_rfl)) (fun _ _ _ _ _ => (gname 1 nd)) (by decide) (fun _ _ _ _ _ => yes) (fun _ _ _ _ _ => (deq hu (dix (dv 2) (dv 1)) (dv 3))))))))) (fun _ _ _ _ _ => (dv 3)))) (dlast (dretL (lsortT rfl hu (by rfl) fr.sorted (by rfl) fr.set (dv 4)))))), fun as Fp hl hG => ?_⟩
  obtain ⟨m, wd, rfl, o, hf⟩ := hG
  have hm5 := o.small
  have hr5 : ∀ k, (reach m k).length ≤ 5 := fun k => Nat.le_trans (setN_len _ _) hm5
  refine ⟨_, _, rfl, rfl, rfl, eM m, m.map eR, rfl, rfl, by rw [List.length_map]; omega, ?_⟩
  rw [List.length_map]
  refine ⟨_, rfl, by rw [List.length_map, List.length_range]; omega, dColl_one (zs := List.range m.length) (enc := eI) (fun k => eS (reach m k)) (fun k hk R hR => ⟨rfl, _, _, rfl, rfl, _, _, rfl, rfl, rfl, m, wd, k, rfl, o, List.mem_range.mp hk, noL_eS _, hR⟩) ⟨noLs_map _ _ fun _ _ => noL_eS _, fun p => ?_⟩⟩
  refine ⟨_, _, rfl, rfl, _, rfl, by rw [List.length_map, List.length_range]; omega, dColl_filter (zs := List.range m.length) (enc := fun k => eS (reach m k)) (good m) (fun k => eS (reach m k)) (fun k hk R h1 h2 => ?_) ⟨noLs_map _ _ fun _ _ => noL_eS _, fun q => ?_⟩⟩
  · have hk := List.mem_range.mp hk
    refine ⟨noL_eS _, _, _, rfl, rfl, _, rfl, by rw [List.length_map]; have := hr5 k; omega, dColl_one (zs := reach m k) (enc := eI) (fun t => .bool (decide (reach m t = reach m k))) (fun t ht R2 hR2 => ?_) ⟨(reach m k).map fun t => decide (reach m t = reach m k), by rw [List.map_map]; rfl, _, rfl, ?_⟩⟩
    · refine ⟨rfl, _, _, rfl, rfl, _, _, rfl, rfl, dIx_nat rfl (at_map (l := List.range m.length) (f := fun k => eS (reach m k)) (x := t) (by rw [List.getElem?_range (reach_lt ht)])) ⟨_, _, rfl, rfl, rfl, rfl, shaped_eS _, shaped_eS _, rfl, ?_⟩⟩
      rw [eqv_eS]
      exact hR2
    · have : ((reach m k).map fun t => decide (reach m t = reach m k)).all id = good m k := by
        unfold good
        rw [List.all_map]
        rfl
      rw [this]
      cases c : good m k with
      | true => exact ⟨_, _, rfl, rfl, noL_eS _, h1 c⟩
      | false => exact h2 c
  · refine ⟨_, _, rfl, rfl, (((List.range m.length).filter (good m)).map fun k => reach m k).map fun S => S.map fun n => ((n : Nat) : Int), ?_, ?_, ?_, fun Rs hnd hm => ?_⟩
    · show PyData.list _ = _
      congr 1
      rw [List.map_map, List.map_map]
      apply List.map_congr_left
      intro k _
      exact eS_enc _
    · rw [List.length_map, List.length_map]
      have := List.length_filter_le (good m) (List.range m.length)
      rw [List.length_range] at this
      omega
    · intro S hS
      obtain ⟨T, hT, rfl⟩ := List.mem_map.mp hS
      obtain ⟨k, hk, rfl⟩ := List.mem_map.mp hT
      intro e
      rw [List.map_eq_nil_iff] at e
      have := reach_self o (List.mem_range.mp (List.mem_filter.mp hk).1)
      rw [e] at this
      simp at this
    · have cast_inj : ∀ a b : List Nat, (a.map fun n => ((n : Nat) : Int)) = (b.map fun n => ((n : Nat) : Int)) → a = b := fun a b h => by
        have h2 := congrArg (List.map Int.toNat) h
        rw [List.map_map, List.map_map] at h2
        have : (Int.toNat ∘ fun n : Nat => ((n : Nat) : Int)) = id := by funext n; simp
        rw [this, List.map_id, List.map_id] at h2
        exact h2
      have hback : ∀ S ∈ Rs, ∃ k, k < m.length ∧ good m k = true ∧ S = (reach m k).map fun n => ((n : Nat) : Int) := fun S hS => by
        obtain ⟨T, hT, rfl⟩ := List.mem_map.mp ((hm S).mp hS)
        obtain ⟨k, hk, rfl⟩ := List.mem_map.mp hT
        obtain ⟨h1, h2⟩ := List.mem_filter.mp hk
        exact ⟨k, List.mem_range.mp h1, h2, rfl⟩
      have eRs : Rs = (Rs.map fun S => S.map Int.toNat).map fun S => S.map fun n => ((n : Nat) : Int) := by
        rw [List.map_map]
        conv => lhs; rw [← List.map_id Rs]
        apply List.map_congr_left
        intro S hS
        obtain ⟨k, _, _, rfl⟩ := hback S hS
        show _ = List.map _ (List.map _ _)
        rw [List.map_map, List.map_map]
        apply List.map_congr_left
        intro n _
        simp
      have eF : Rs.map tupEnc = (Rs.map fun S => S.map Int.toNat).map eS := by
        conv => lhs; rw [eRs]
        rw [List.map_map]
        apply List.map_congr_left
        intro S _
        exact (eS_enc S).symm
      rw [eF]
      refine hf _ ?_ fun S => ?_
      · rw [eRs] at hnd
        unfold List.Nodup at hnd ⊢
        rw [List.pairwise_map] at hnd
        exact hnd.imp fun h e => h (by rw [e])
      · constructor
        · intro hS
          obtain ⟨T, hT, rfl⟩ := List.mem_map.mp hS
          obtain ⟨k, h1, h2, rfl⟩ := hback T hT
          refine ⟨k, h1, h2, ?_⟩
          rw [List.map_map]
          have : (Int.toNat ∘ fun n : Nat => ((n : Nat) : Int)) = id := by funext n; simp
          rw [this, List.map_id]
        · rintro ⟨k, h1, h2, rfl⟩
          refine List.mem_map.mpr ⟨(reach m k).map fun n => ((n : Nat) : Int), (hm _).mpr (List.mem_map.mpr ⟨reach m k, List.mem_map.mpr ⟨k, List.mem_filter.mpr ⟨List.mem_range.mpr h1, h2⟩, rfl⟩, rfl⟩), ?_⟩
          rw [List.map_map]
          have : (Int.toNat ∘ fun n : Nat => ((n : Nat) : Int)) = id := by funext n; simp
          rw [this, List.map_id]
end
end Wk
end

section
set_option Elab.async false
set_option linter.all false
set_option maxRecDepth 100000
set_option maxHeartbeats 4000000
namespace Wk
open PySem PySem.Spec PyProof.Rows L2
theorem least_few {p : Mc} {wd : Nat} (om : Ok p wd) {Ls : List (List Nat)} (hnd : Ls.Nodup) (hm : ∀ S, S ∈ Ls ↔ ∃ k, k < p.length ∧ good p k = true ∧ S = reach p k) : Ls.length ≤ 5 := by
  have h5 := om.small
  have h1 : (Ls.map fun S => S.headD 0).length ≤ (List.range (p).length).length := by
    refine nodup_len_le _ _ ?_ fun x hx => ?_
    · unfold List.Nodup
      rw [List.pairwise_map]
      refine hnd.imp_of_mem fun {A B} hA hB hne e => hne ?_
      obtain ⟨k, hk, gk, rfl⟩ := (hm A).mp hA
      obtain ⟨j, hj, gj, rfl⟩ := (hm B).mp hB
      have hx : ∀ i, i < (p).length → (reach (p) i).headD 0 ∈ reach (p) i := fun i hi => by
        have := reach_self om hi
        cases c : reach (p) i with
        | nil => rw [c] at this; simp at this
        | cons a r => simp
      have e1 := (good_reach om hk gk (hx k hk)).2
      have e2 := (good_reach om hj gj (hx j hj)).2
      rw [← e1, ← e2, e]
    · obtain ⟨S, hS, rfl⟩ := List.mem_map.mp hx
      obtain ⟨k, hk, gk, rfl⟩ := (hm S).mp hS
      have : (reach (p) k).headD 0 ∈ reach (p) k := by
        have := reach_self om hk
        cases c : reach (p) k with
        | nil => rw [c] at this; simp at this
        | cons a r => simp
      exact List.mem_range.mpr (reach_lt this)
  rw [List.length_map, List.length_range] at h1
  omega
theorem good_flat {p : Mc} {wd : Nat} (om : Ok p wd) {Ls : List (List Nat)} (hm : ∀ S, S ∈ Ls ↔ ∃ k, k < p.length ∧ good p k = true ∧ S = reach p k) {k : Nat} (hk : k < p.length) : decide (k ∈ Ls.flatten) = good p k := by
  rw [Bool.eq_iff_iff, decide_eq_true_eq, List.mem_flatten]
  constructor
  · rintro ⟨S, hS, hkS⟩
    obtain ⟨j, hj, gj, rfl⟩ := (hm S).mp hS
    exact (good_reach om hj gj hkS).1
  · intro g
    exact ⟨reach p k, (hm _).mpr ⟨k, hk, g, rfl⟩, reach_self om hk⟩
section
variable {P : Program} {w : World} {K : PySem.W.Frag} {mg : Str → Option Value} {base : Heap}
def G_setD (ds : List PyData) (F : PyData → Prop) : Prop := ∃ xs : List PyData, ds = [.list xs] ∧ xs.length ≤ 1000 ∧ (∀ x ∈ xs, TupD x) ∧ PySem.W.AllAlike xs ∧
  ∀ rs : List PyData, (∃ sub : List PyData, sub.Sublist xs ∧ rs.Perm sub) → (∀ x ∈ xs, x ∈ rs) → rs.Pairwise (fun x y => PySem.W.dataLe false (fun z : PyData => z) x y = true) → F (.tuple rs)
theorem o_setD (fr : Fre mg) (D : Df K mg "as_set" s_as_set [] []) : Own P w K mg base 1 "as_set" [] (spD 1 G_setD) := by
  refine Df.own (ps := ["things"]) D (fun f fd F => okD F sc_as_set rfl fun cdv A outer s H E hr => ?_) fun _ _ _ _ _ _ us hl => match us, hl with | [_], _ => rfl
  have nd := sc_as_set.nd
  have hu := hr.units
  have hu1 := hu_of hr
  have hu5 := Room.units65 hr
  refine ⟨_, _, (dlast (dret (dtupOfL (by rfl) fr.tuple (lsortD rfl hu (by rfl) fr.sorted (by rfl) fr.set (dv 0))))), fun as Fp hl hG => ?_⟩
  obtain ⟨xs, rfl, h1, h2, h3, h4⟩ := hG
  exact ⟨_, _, rfl, rfl, xs, rfl, h1, h2, h3, h4⟩
theorem sc_core_by : FnScope ["machine", "part", "standing"] ["machine", "part"] (defScope s_core_by) := ⟨rfl, rfl, rfl, by decide +kernel, rfl, by decide +kernel, by decide +kernel⟩
def G_core (ds : List PyData) (F : PyData → Prop) : Prop := ∃ (p : Mc) (wd : Nat) (S : List Nat), ds = [eM p, eS S] ∧ Ok p wd ∧ S ≠ [] ∧ S.length ≤ 5 ∧ (∀ s ∈ S, s < p.length) ∧ F (eM (lst leM (S.map (numbered p))))
theorem allAlike_eM (l : List Mc) : PySem.W.AllAlike (l.map eM) := fun d hd d' hd' => by
  obtain ⟨a, _, rfl⟩ := List.mem_map.mp hd
  obtain ⟨b, _, rfl⟩ := List.mem_map.mp hd'
  exact alike_eM a b
theorem o_core (fr : Fre mg) (D : Df K mg "core_by" s_core_by [] []) (O_numbered_from : Own P w K mg base 2 "numbered_from" [] (spD 2 G_numbered)) : Own P w K mg base 3 "core_by" [] (spD 2 G_core) := by
  refine Df.own (ps := ["machine", "part"]) D (fun f fd F => okD F sc_core_by rfl fun cdv A outer s H E hr => ?_) fun _ _ _ _ _ _ us hl => match us, hl with | [_, _], _ => rfl
  have nd := sc_core_by.nd
  have hu := hr.units
  have hu1 := hu_of hr
  have hu5 := Room.units65 hr
  refine ⟨_, _, (dlast (dret (dix (dofl (lsortD rfl hu (by rfl) fr.sorted (by rfl) fr.set (dofl (lcT (dv 1) (plc (own := [("standing", 2)]) rfl nd (blkOk_by (by kernel_rfl)) (fun _ _ _ _ _ => (gname 2 nd)) (by decide) (fun _ _ _ _ _ => yes) (fun _ _ _ _ _ => (dcall O_numbered_from (hr.mono (by decide)) (by rfl) (acons (dv 0) (acons (dv 2) anil))))))))) dint))), fun as Fp hl hG => ?_⟩
  obtain ⟨m, wd, S, rfl, o, hne, hl5, hS, hf⟩ := hG
  refine ⟨_, _, rfl, rfl, _, rfl, by rw [List.length_map]; omega, dColl_one (zs := S) (enc := eI) (fun s => eM (numbered m s)) (fun s hs R hR => ⟨rfl, _, _, rfl, rfl, _, _, rfl, rfl, rfl, m, wd, s, rfl, o, hS s hs, noL_eM _, hR⟩) ⟨_, rfl, by rw [List.length_map]; omega, fun x hx => ?_, ?_, fun rs hsub hall hp => ?_⟩⟩
  · obtain ⟨s, _, rfl⟩ := List.mem_map.mp hx
    exact tupD_eM (numbered_ne m s)
  · intro d hd d' hd'
    obtain ⟨a, _, rfl⟩ := List.mem_map.mp hd
    obtain ⟨b, _, rfl⟩ := List.mem_map.mp hd'
    exact alike_eM _ _
  · obtain ⟨sub, hs1, hs2⟩ := hsub
    cases rs with
    | nil =>
      exfalso
      cases S with
      | nil => exact hne rfl
      | cons s S =>
        have := hall _ (List.mem_map.mpr ⟨s, by simp, rfl⟩)
        simp at this
    | cons d rs =>
      have hd : d ∈ S.map fun s => eM (numbered m s) := hs1.subset (hs2.mem_iff.mp (by simp))
      obtain ⟨s0, hs0, rfl⟩ := List.mem_map.mp hd
      refine dIx_nat (k := 0) rfl rfl ?_
      have : lst leM (S.map (numbered m)) = numbered m s0 := by
        refine lst_unique leM_ok (List.mem_map.mpr ⟨s0, hs0, rfl⟩) fun y hy => ?_
        obtain ⟨t, ht, rfl⟩ := List.mem_map.mp hy
        rcases List.mem_cons.mp (hall _ (List.mem_map.mpr ⟨t, ht, rfl⟩)) with e | e
        · rw [eM_inj e]
          exact leM_ok.refl _
        · exact (List.pairwise_cons.mp hp).1 _ e
      rw [this] at hf
      exact hf
theorem sc_cores_by : FnScope ["machine", "plain", "part"] ["machine"] (defScope s_cores_by) := ⟨rfl, rfl, rfl, by decide +kernel, rfl, by decide +kernel, by decide +kernel⟩
def CoresAre (m : Mc) (Cs : List Mc) : Prop := Asc leM Cs ∧ ∀ c, c ∈ Cs ↔ ∃ k, k < (Wk.mg m).length ∧ core leM (Wk.mg m) k = some c
def G_cores (ds : List PyData) (F : PyData → Prop) : Prop := ∃ (m : Mc) (wd : Nat), ds = [eM m] ∧ Ok m wd ∧ ∀ Cs, CoresAre m Cs → F (.tuple (Cs.map eM))
theorem o_cores (fr : Fre mg) (D : Df K mg "cores_by" s_cores_by [] []) (O_merged_by : Own P w K mg base 3 "merged_by" [] (spD 1 G_merged)) (O_as_set : Own P w K mg base 1 "as_set" [] (spD 1 G_setD)) (O_least_parts : Own P w K mg base 4 "least_parts" [] (spL 1 G_least)) (O_core_by : Own P w K mg base 3 "core_by" [] (spD 2 G_core)) : Own P w K mg base 5 "cores_by" [] (spD 1 G_cores) := by
  refine Df.own (ps := ["machine"]) D (fun f fd F => okD F sc_cores_by rfl fun cdv A outer s H E hr => ?_) fun _ _ _ _ _ _ us hl => match us, hl with | [_], _ => rfl
  have nd := sc_cores_by.nd
  have hu := hr.units
  have hu1 := hu_of hr
  have hu5 := Room.units65 hr
  refine ⟨_, _, (dseq (dset 1 nd (PD.v (dcall O_merged_by (hr.mono (by decide)) (by rfl) (acons (dv 0) anil)))) (dlast (dret (dcall O_as_set (hr.mono (by decide)) (by rfl) (acons (dofl (lcL (dofl (lcall O_least_parts (hr.mono (by decide)) (by rfl) (acons (dv 1) anil))) (plc (own := [("part", 2)]) rfl nd (blkOk_by (by kernel_rfl)) (fun _ _ _ _ _ => (gname 2 nd)) (by decide) (fun _ _ _ _ _ => yes) (fun _ _ _ _ _ => (dcall O_core_by (hr.mono (by decide)) (by rfl) (acons (dv 1) (acons (dv 2) anil))))))) anil))))), fun as Fp hl hG => ?_⟩
  obtain ⟨m, wd, rfl, o, hf⟩ := hG
  have om := mg_ok o
  have h5 := om.small
  refine ⟨_, _, rfl, rfl, rfl, m, wd, rfl, o, noL_eM _, fun _ => ⟨_, _, rfl, rfl, rfl, Wk.mg m, wd, rfl, om, fun Ls hnd hm => ?_⟩⟩
  have hLs5 : Ls.length ≤ 5 := least_few om hnd hm
  have hcore : ∀ k, k < (Wk.mg m).length → good (Wk.mg m) k = true → core leM (Wk.mg m) k = some (lst leM ((reach (Wk.mg m) k).map (numbered (Wk.mg m)))) := fun k _ g => core_some.mpr ⟨g, rfl⟩
  refine ⟨_, rfl, by rw [List.length_map]; omega, dColl_one (zs := Ls) (enc := eS) (fun S => eM (lst leM (S.map (numbered (Wk.mg m))))) (fun S hS R hR => ?_) ⟨rfl, _, rfl, by rw [List.length_map]; omega, fun x hx => ?_, ?_, fun rs hsub hall hp => ?_⟩⟩
  · obtain ⟨k, hk, gk, rfl⟩ := (hm S).mp hS
    exact ⟨noL_eS _, _, _, rfl, rfl, _, _, rfl, rfl, rfl, Wk.mg m, wd, _, rfl, om, (fun e => by have := reach_self om hk; rw [e] at this; simp at this), Nat.le_trans (setN_len _ _) h5, fun s hs => reach_lt hs, noL_eM _, hR⟩
  · obtain ⟨S, hS, rfl⟩ := List.mem_map.mp hx
    obtain ⟨k, hk, gk, rfl⟩ := (hm S).mp hS
    obtain ⟨h1, _⟩ := lst_spec leM_ok (map_ne om hk)
    obtain ⟨s, _, e⟩ := List.mem_map.mp h1
    rw [← e]
    exact tupD_eM (numbered_ne _ s)
  · intro d hd d' hd'
    obtain ⟨a, _, rfl⟩ := List.mem_map.mp hd
    obtain ⟨b, _, rfl⟩ := List.mem_map.mp hd'
    exact alike_eM _ _
  · have e1 : (Ls.map fun S => eM (lst leM (S.map (numbered (Wk.mg m))))) = (Ls.map fun S => lst leM (S.map (numbered (Wk.mg m)))).map eM := by rw [List.map_map]; rfl
    rw [e1] at hsub hall
    have ndC : (Ls.map fun S => lst leM (S.map (numbered (Wk.mg m)))).Nodup := by
      unfold List.Nodup
      rw [List.pairwise_map]
      refine hnd.imp_of_mem fun {A B} hA hB hne e => hne ?_
      obtain ⟨k, hk, gk, rfl⟩ := (hm A).mp hA
      obtain ⟨j, hj, gj, rfl⟩ := (hm B).mp hB
      obtain ⟨h1, _⟩ := lst_spec leM_ok (map_ne om hk)
      obtain ⟨h2, _⟩ := lst_spec leM_ok (map_ne om hj)
      obtain ⟨s, hs, es⟩ := List.mem_map.mp h1
      obtain ⟨t, ht, et⟩ := List.mem_map.mp h2
      have al := alike_of_numbered om om (reach_lt hs) (reach_lt ht) (es.trans (e.trans et.symm))
      have := mg_red o s t (reach_lt hs) (reach_lt ht) al
      subst this
      rw [← (good_reach om hk gk hs).2, ← (good_reach om hj gj ht).2]
    obtain ⟨sub, hs1, hs2⟩ := hsub
    obtain ⟨subc, hs3, rfl⟩ := List.sublist_map_iff.mp hs1
    obtain ⟨Cs, pC, eC⟩ := perm_back eM hs2.symm
    subst eC
    have hmem : ∀ c, c ∈ Cs ↔ c ∈ Ls.map fun S => lst leM (S.map (numbered (Wk.mg m))) := fun c => ⟨fun h => hs3.subset (pC.mem_iff.mp h), fun h => by
      obtain ⟨c2, h2, e2⟩ := List.mem_map.mp (hall _ (List.mem_map.mpr ⟨c, h, rfl⟩))
      rw [← eM_inj e2]
      exact h2⟩
    refine hf Cs ⟨⟨?_, pC.nodup_iff.mpr (hs3.nodup ndC)⟩, fun c => ?_⟩
    · rw [List.pairwise_map] at hp
      exact hp
    · rw [hmem c, List.mem_map]
      constructor
      · rintro ⟨S, hS, rfl⟩
        obtain ⟨k, hk, gk, rfl⟩ := (hm S).mp hS
        exact ⟨k, hk, hcore k hk gk⟩
      · rintro ⟨k, hk, e⟩
        obtain ⟨g, e2⟩ := core_some.mp e
        exact ⟨reach (Wk.mg m) k, (hm _).mpr ⟨k, hk, g, rfl⟩, e2⟩
theorem sc_settled_by : FnScope ["machine", "marks", "settled", "part", "here", "beats", "standing"] ["machine"] (defScope s_settled_by) := ⟨rfl, rfl, rfl, by decide +kernel, rfl, by decide +kernel, by decide +kernel⟩
def eO (o : Option Nat) : PyData := match o with
  | some k => eI k
  | none => .none
def G_settled (ds : List PyData) (F : PyData → Prop) : Prop := ∃ (m : Mc) (wd : Nat), ds = [eM m] ∧ Ok m wd ∧ F (eO (settled m))
theorem o_settled (fr : Fre mg) (D : Df K mg "settled_by" s_settled_by [] []) (O_marks_by : Own P w K mg base 2 "marks_by" [] (spD 1 G_marks)) (O_merged_by : Own P w K mg base 3 "merged_by" [] (spD 1 G_merged)) (O_least_parts : Own P w K mg base 4 "least_parts" [] (spL 1 G_least)) (O_all_standings : Own P w K mg base 1 "all_standings" [] (spD 1 G_allS)) (O_nexts_of : Own P w K mg base 2 "nexts_of" [] (spD 2 G_nexts)) : Own P w K mg base 5 "settled_by" [] (spD 1 G_settled) := by
  refine Df.own (ps := ["machine"]) D (fun f fd F => okD F sc_settled_by rfl fun cdv A outer s H E hr => ?_) fun _ _ _ _ _ _ us hl => match us, hl with | [_], _ => rfl
  have nd := sc_settled_by.nd
  have hu := hr.units
  have hu1 := hu_of hr
  have hu5 := Room.units65 hr
  refine ⟨_, _, (dseq (dset 1 nd (PD.v (dcall O_marks_by (hr.mono (by decide)) (by rfl) (acons (dv 0) anil)))) (dseq (dset 2 nd (PLd.v (ldisp anil))) (dseq (dforL PassesOwn.never rfl (lcall O_least_parts (hr.mono (by decide)) (by rfl) (acons (dcall O_merged_by (hr.mono (by decide)) (by rfl) (acons (dv 0) anil)) anil)) (gname 3 nd) (dlast (dextend 2 (llistOf (by rfl) fr.list (dv 3))))) (dseq (dset 4 nd (PD.v (dcall O_all_standings (hr.mono (by decide)) (by rfl) (acons (dv 0) anil)))) (dseq (dforR PassesOwn.never rfl (by rfl) fr.range (acons (dadd (dlen (by rfl) fr.len (dv 0)) dint) anil) (gname 5 nd) (dseq (difS (tval (dall rfl (by rfl) fr.all (dofl (lcT (dv 4) (plc (own := [("standing", 6)]) rfl nd (blkOk_by (by kernel_rfl)) (fun _ _ _ _ _ => (gname 6 nd)) (by decide) (fun _ _ _ _ _ => yes) (fun _ _ _ _ _ => (din hu5 (dix (dv 1) (dv 6)) (dv 2)))))))) (dlast (dret (dv 5))) dnil) (dlast (dset 4 nd (PD.v (dcall O_nexts_of (hr.mono (by decide)) (by rfl) (acons (dv 0) (acons (dv 4) anil)))))))) (dlast (dret dnon))))))), fun as Fp hl hG => ?_⟩
  obtain ⟨m, wd, rfl, o, hf⟩ := hG
  have om := mg_ok o
  have h5 := om.small
  have hm5 := o.small
  have hcl := cls_len m
  refine ⟨_, _, rfl, rfl, rfl, m, wd, rfl, o, noL_eS _, fun _ => ⟨Nat.zero_le _, rfl, rfl, fun p => ⟨_, _, rfl, rfl, rfl, m, wd, rfl, o, rfl, Wk.mg m, wd, rfl, om, fun Ls hnd hm => ?_⟩⟩⟩
  have hLs5 := least_few om hnd hm
  have hS5 : ∀ S ∈ Ls, S.length ≤ 5 := fun S hS => by
    obtain ⟨k, _, _, rfl⟩ := (hm S).mp hS
    exact Nat.le_trans (setN_len _ _) h5
  refine ⟨noLs_map _ _ fun _ _ => noL_eS _, fun i τ => ∃ x3, τ = [some (.d (eM m)), some (.d (eS (cls m))), some (.l p ((Ls.take i).flatten.map eI)), x3, none, none, none], ⟨none, rfl⟩, fun _ _ _ _ => trivial, fun i x τ' hx hw => ?_, fun τ' hw => ?_⟩
  · obtain ⟨x3, rfl⟩ := hw
    rw [List.getElem?_map] at hx
    cases e : Ls[i]? with
    | none => rw [e] at hx; cases hx
    | some S =>
      rw [e] at hx
      cases hx
      have htake : Ls.take (i + 1) = Ls.take i ++ [S] := by rw [List.take_add_one, e]; rfl
      have hfl : (Ls.take i).flatten.length ≤ 100 := by
        have h1 := flat_len2 (id : List Nat → List Nat) 5 (Ls.take i) fun S hS => hS5 S (List.mem_of_mem_take hS)
        rw [List.flatMap_id, List.length_take] at h1
        omega
      have hSl := hS5 S (List.mem_of_getElem? e)
      refine ⟨noL_eS _, p, _, rfl, _, _, rfl, rfl, eS S, S.map eI, rfl, rfl, noLs_eI _, by rw [List.length_map, List.length_map]; omega, some (.d (eS S)), ?_⟩
      rw [htake, List.flatten_append, List.map_append]
      simp
  · obtain ⟨x3, rfl⟩ := hw
    rw [List.length_map, List.take_length]
    refine ⟨_, _, rfl, rfl, rfl, eM m, m.map eR, rfl, rfl, by rw [List.length_map]; omega, noL_eS _, fun _ => ⟨_, _, rfl, rfl, _, m.map eR, rfl, rfl, _, _, rfl, rfl, m.length + 1, by rw [List.length_map]; rfl, by omega, ?_⟩⟩
    have hgood : ∀ s, s < m.length → decide (cl m s ∈ Ls.flatten) = goodAt m s := fun s hs => good_flat om hm (cl_lt o hs)
    refine ⟨fun i τ => i ≤ m.length + 1 ∧ (∃ x3 x5, τ = [some (.d (eM m)), some (.d (eS (cls m))), some (.l p (Ls.flatten.map eI)), x3, some (.d (eS (behind m i))), x5, none]) ∧ ∀ j, j < i → (behind m j).all (goodAt m) = false, ⟨Nat.zero_le _, ⟨x3, none, by rw [List.length_map]; rfl⟩, fun j hj => absurd hj (Nat.not_lt_zero j)⟩, fun _ _ _ _ => trivial, fun i x τ' hx hw => ?_, fun τ' hw => ?_⟩
    · obtain ⟨hi, ⟨y3, y5, rfl⟩, hno⟩ := hw
      have hil : i < m.length + 1 := by
        have := (List.getElem?_eq_some_iff.mp hx).1
        rw [rgD_len] at this
        exact this
      rw [rgD_at hil] at hx
      cases hx
      have hb5 := behind_le o i
      refine ⟨rfl, _, _, rfl, rfl, _, rfl, by rw [List.length_map]; omega, dColl_one (zs := behind m i) (enc := eI) (fun s => .bool (goodAt m s)) (fun s hs R hR => ?_) ⟨(behind m i).map (goodAt m), by rw [List.map_map]; rfl, _, rfl, ?_⟩⟩
      · have hsl := behind_lt m i s hs
        refine ⟨rfl, _, _, rfl, rfl, _, _, rfl, rfl, dIx_nat rfl (at_eS (by rw [hcl]; exact hsl)) ⟨_, _, rfl, rfl, _, rfl, rfl, shaped_eI _, shaped_eIs _, rfl, ?_⟩⟩
        rw [if_neg (by decide), any_eI]
        have := hgood s hsl
        unfold cl at this
        rw [this]
        exact hR
      · have : ((behind m i).map (goodAt m)).all id = (behind m i).all (goodAt m) := by
          rw [List.all_map]
          rfl
        rw [this]
        cases c : (behind m i).all (goodAt m) with
        | true =>
          refine ⟨_, _, rfl, rfl, ?_⟩
          have : settled m = some i := by
            unfold settled
            rw [List.find?_range_eq_some]
            refine ⟨c, List.mem_range.mpr hil, fun j hj => ?_⟩
            rw [hno j hj]
            rfl
          rw [this] at hf
          exact hf
        | false =>
          refine ⟨_, _, rfl, rfl, _, _, rfl, rfl, rfl, m, wd, behind m i, rfl, o, behind_lt m i, behind_le o i, noL_eS _, fun _ => ⟨hil, ⟨y3, _, rfl⟩, fun j hj => ?_⟩⟩
          by_cases cj : j = i
          · rw [cj]
            exact c
          · exact hno j (by omega)
    · obtain ⟨hi, ⟨y3, y5, rfl⟩, hno⟩ := hw
      rw [rgD_len] at hno
      have : settled m = none := by
        unfold settled
        rw [List.find?_eq_none]
        intro j hj
        rw [hno j (List.mem_range.mp hj)]
        decide
      rw [this] at hf
      exact hf
end
end Wk
end

section
set_option Elab.async false
set_option linter.all false
set_option maxRecDepth 100000
set_option maxHeartbeats 4000000
namespace Wk
open PySem PySem.Spec PyProof.Rows L2
section
variable {P : Program} {w : World} {K : PySem.W.Frag} {mg : Str → Option Value} {base : Heap}
theorem sc_is_integer : FnScope ["thing"] ["thing"] (defScope s_is_integer) := ⟨rfl, rfl, rfl, by decide +kernel, rfl, by decide +kernel, by decide +kernel⟩
def G_isint (ds : List PyData) (F : PyData → Prop) : Prop := ∃ n : Nat, ds = [eI n] ∧ F (.bool true)
theorem o_isint (fr : Fre mg) (D : Df K mg "is_integer" s_is_integer [] []) : Own P w K mg base 1 "is_integer" [] (spD 1 G_isint) := by
  refine Df.own (ps := ["thing"]) D (fun f fd F => okD F sc_is_integer rfl fun cdv A outer s H E hr => ?_) fun _ _ _ _ _ _ us hl => match us, hl with | [_], _ => rfl
  have nd := sc_is_integer.nd
  have hu := hr.units
  have hu1 := hu_of hr
  have hu5 := Room.units65 hr
  refine ⟨_, _, (dlast (dret (dand (disi "int" (by rfl) fr.isinstance (by rfl) fr.int (by decide +kernel) (dv 0)) (done_ (dnot (disi "bool" (by rfl) fr.isinstance (by rfl) fr.bool (by decide +kernel) (dv 0))))))), fun as Fp hl hG => ?_⟩
  obtain ⟨n, rfl, hf⟩ := hG
  exact ⟨_, _, rfl, rfl, true, rfl, rfl, _, rfl, _, _, rfl, rfl, false, rfl, rfl, _, rfl, hf⟩
theorem sc_is_number : FnScope ["thing"] ["thing"] (defScope s_is_number) := ⟨rfl, rfl, rfl, by decide +kernel, rfl, by decide +kernel, by decide +kernel⟩
theorem o_isnum (fr : Fre mg) (D : Df K mg "is_number" s_is_number [] []) (O_is_integer : Own P w K mg base 1 "is_integer" [] (spD 1 G_isint)) : Own P w K mg base 2 "is_number" [] (spD 1 G_isint) := by
  refine Df.own (ps := ["thing"]) D (fun f fd F => okD F sc_is_number rfl fun cdv A outer s H E hr => ?_) fun _ _ _ _ _ _ us hl => match us, hl with | [_], _ => rfl
  have nd := sc_is_number.nd
  have hu := hr.units
  have hu1 := hu_of hr
  have hu5 := Room.units65 hr
  refine ⟨_, _, (dlast (dret (dand (dcall O_is_integer (hr.mono (by decide)) (by rfl) (acons (dv 0) anil)) (done_ (dge (dv 0) dint))))), fun as Fp hl hG => ?_⟩
  obtain ⟨n, rfl, hf⟩ := hG
  refine ⟨_, _, rfl, rfl, rfl, n, rfl, _, rfl, _, _, rfl, rfl, _, _, rfl, rfl, ?_⟩
  show Fp (.bool (decide ((0 : Int) ≤ (n : Nat))))
  rw [decide_eq_true (show (0 : Int) ≤ (n : Nat) by omega)]
  exact hf
theorem sc_is_pair : FnScope ["thing"] ["thing"] (defScope s_is_pair) := ⟨rfl, rfl, rfl, by decide +kernel, rfl, by decide +kernel, by decide +kernel⟩
def G_ispair (ds : List PyData) (F : PyData → Prop) : Prop := ∃ p : Nat × Nat, ds = [eP p] ∧ F (.bool true)
theorem o_ispair (fr : Fre mg) (D : Df K mg "is_pair" s_is_pair [] []) : Own P w K mg base 1 "is_pair" [] (spD 1 G_ispair) := by
  refine Df.own (ps := ["thing"]) D (fun f fd F => okD F sc_is_pair rfl fun cdv A outer s H E hr => ?_) fun _ _ _ _ _ _ us hl => match us, hl with | [_], _ => rfl
  have nd := sc_is_pair.nd
  have hu := hr.units
  have hu1 := hu_of hr
  have hu5 := Room.units65 hr
  refine ⟨_, _, (dlast (dret (dand (disi "tuple" (by rfl) fr.isinstance (by rfl) fr.tuple (by decide +kernel) (dv 0)) (done_ (deq hu (dlen (by rfl) fr.len (dv 0)) dint))))), fun as Fp hl hG => ?_⟩
  obtain ⟨p, rfl, hf⟩ := hG
  exact ⟨_, _, rfl, rfl, true, rfl, rfl, _, rfl, _, _, rfl, rfl, _, _, rfl, rfl, rfl, rfl, shaped_eI 2, shaped_eI 2, hf⟩
theorem sc_is_by_form : FnScope ["thing", "one"] ["thing"] (defScope s_is_by_form) := ⟨rfl, rfl, rfl, by decide +kernel, rfl, by decide +kernel, by decide +kernel⟩
def G_isform (ds : List PyData) (F : PyData → Prop) : Prop := ∃ r : List (Nat × Nat), ds = [eR r] ∧ r ≠ [] ∧ r.length ≤ 4 ∧ F (.bool true)
theorem eqv_len (n m : Nat) : PyData.eqv (.int (n : Nat)) (.int (m : Nat)) = decide (n = m) := eqv_eI n m
theorem eqv_len0 {n : Nat} (h : n ≠ 0) : PyData.eqv (.int (n : Nat)) (.int 0) = false := by
  have := eqv_len n 0
  rw [decide_eq_false h] at this
  exact this
theorem o_isform (fr : Fre mg) (D : Df K mg "is_by_form" s_is_by_form [] []) (O_is_pair : Own P w K mg base 1 "is_pair" [] (spD 1 G_ispair)) (O_is_number : Own P w K mg base 2 "is_number" [] (spD 1 G_isint)) : Own P w K mg base 3 "is_by_form" [] (spD 1 G_isform) := by
  refine Df.own (ps := ["thing"]) D (fun f fd F => okD F sc_is_by_form rfl fun cdv A outer s H E hr => ?_) fun _ _ _ _ _ _ us hl => match us, hl with | [_], _ => rfl
  have nd := sc_is_by_form.nd
  have hu := hr.units
  have hu1 := hu_of hr
  have hu5 := Room.units65 hr
  refine ⟨_, _, (dseq (difS (tw (tor (tnot (tval (disi "tuple" (by rfl) fr.isinstance (by rfl) fr.tuple (by decide +kernel) (dv 0)))) (tor1 (teq hu (dlen (by rfl) fr.len (dv 0)) dint)))) (dlast (dret dbl)) dnil) (dlast (dret (dall rfl (by rfl) fr.all (dofl (lcT (dv 0) (plc (own := [("one", 1)]) rfl nd (blkOk_by (by kernel_rfl)) (fun _ _ _ _ _ => (gname 1 nd)) (by decide) (fun _ _ _ _ _ => yes) (fun _ _ _ _ _ => (dand (dcall O_is_pair (hr.mono (by decide)) (by rfl) (acons (dv 1) anil)) (dand (dcall O_is_number (hr.mono (by decide)) (by rfl) (acons (dix (dv 1) dint) anil)) (done_ (dcall O_is_number (hr.mono (by decide)) (by rfl) (acons (dix (dv 1) dint) anil))))))))))))), fun as Fp hl hG => ?_⟩
  obtain ⟨r, rfl, hne, hl4, hf⟩ := hG
  refine ⟨_, _, rfl, rfl, true, rfl, rfl, _, rfl, _, _, rfl, rfl, _, r.map eP, rfl, rfl, rfl, rfl, shaped_eI _, shaped_eI 0, _, rfl, ?_⟩
  rw [eqv_len0 (by rw [List.length_map]; intro e; exact hne (List.eq_nil_of_length_eq_zero e))]
  refine ⟨_, _, rfl, rfl, _, rfl, by rw [List.length_map]; omega, dColl_one (zs := r) (enc := eP) (fun p => .bool true) (fun p hp R hR => ⟨rfl, _, _, rfl, rfl, rfl, p, rfl, _, rfl, _, _, rfl, rfl, dIx_nat (k := 0) rfl rfl ⟨rfl, p.1, rfl, _, rfl, _, _, rfl, rfl, dIx_nat (k := 1) rfl rfl ⟨rfl, p.2, rfl, rfl, hR⟩⟩⟩) ⟨r.map fun _ => true, by rw [List.map_map]; rfl, ?_⟩⟩
  have : (r.map fun _ => true).all id = true := by
    rw [List.all_map, List.all_eq_true]
    exact fun _ _ => rfl
  rw [this]
  exact hf
theorem sc_machine_fault : FnScope ["thing", "k", "standing", "x", "late", "answer"] ["thing"] (defScope s_machine_fault) := ⟨rfl, rfl, rfl, by decide +kernel, rfl, by decide +kernel, by decide +kernel⟩
def G_fault (ds : List PyData) (F : PyData → Prop) : Prop := ∃ (m : Mc) (wd : Nat), ds = [eM m] ∧ Ok m wd ∧ F .none
theorem o_fault (fr : Fre mg) (D : Df K mg "machine_fault" s_machine_fault [] []) (O_is_by_form : Own P w K mg base 3 "is_by_form" [] (spD 1 G_isform)) : Own P w K mg base 4 "machine_fault" [] (spD 1 G_fault) := by
  refine Df.own (ps := ["thing"]) D (fun f fd F => okD F sc_machine_fault rfl fun cdv A outer s H E hr => ?_) fun _ _ _ _ _ _ us hl => match us, hl with | [_], _ => rfl
  have nd := sc_machine_fault.nd
  have hu := hr.units
  have hu1 := hu_of hr
  have hu5 := Room.units65 hr
  refine ⟨_, _, (dseq (difS (tw (tor (tnot (tval (disi "tuple" (by rfl) fr.isinstance (by rfl) fr.tuple (by decide +kernel) (dv 0)))) (tor1 (teq hu (dlen (by rfl) fr.len (dv 0)) dint)))) (dlast (dret dnever)) dnil) (dseq (dforE PassesOwn.never rfl (by rfl) fr.enumerate (dv 0) (gcons (gname 1 nd) (gcons (gname 2 nd) gnil)) (dseq (difS (tnot (tval (dcall O_is_by_form (hr.mono (by decide)) (by rfl) (acons (dv 2) anil)))) (dlast (dret dnever)) dnil) (dlast (difS (tne hu (dlen (by rfl) fr.len (dv 2)) (dlen (by rfl) fr.len (dix (dv 0) dint))) (dlast (dret dnever)) dnil)))) (dseq (dforE PassesOwn.never rfl (by rfl) fr.enumerate (dv 0) (gcons (gname 1 nd) (gcons (gname 2 nd) gnil)) (dlast (dforE PassesOwn.never rfl (by rfl) fr.enumerate (dv 2) (gcons (gname 3 nd) (gcons (gtup (n := 2) rfl (gcons (gname 4 nd) (gcons (gname 5 nd) gnil))) gnil)) (dlast (difS (tge (dv 4) (dlen (by rfl) fr.len (dv 0))) (dlast (dret dnever)) dnil))))) (dlast (dret dnon))))), fun as Fp hl hG => ?_⟩
  obtain ⟨m, wd, rfl, o, hf⟩ := hG
  have hm0 := o.ne
  refine ⟨_, _, rfl, rfl, true, rfl, rfl, _, rfl, _, _, rfl, rfl, _, m.map eR, rfl, rfl, rfl, rfl, shaped_eI _, shaped_eI 0, _, rfl, ?_⟩
  rw [eqv_len0 (by rw [List.length_map]; omega)]
  have rowm : ∀ {i : Nat} {r : List (Nat × Nat)}, m[i]? = some r → r ∈ m := fun h => List.mem_of_getElem? h
  refine ⟨_, _, rfl, rfl, _, rfl, noLs_eR m, fun i τ => ∃ x1 x2 x3 x4 x5, τ = [some (.d (eM m)), x1, x2, x3, x4, x5], ⟨none, none, none, none, none, rfl⟩, fun i x τ' hx hw => ?_, fun τ' hw => ?_⟩
  · obtain ⟨x1, x2, x3, x4, x5, rfl⟩ := hw
    rw [List.getElem?_map] at hx
    cases e : m[i]? with
    | none => rw [e] at hx; cases hx
    | some r =>
      rw [e] at hx
      cases hx
      have hr := rowm e
      have hrl := o.wid r hr
      have hw0 := o.wp
      have hw4 := o.wsmall
      refine ⟨_, _, rfl, rfl, _, _, rfl, noL_eR r, rfl, _, _, rfl, rfl, rfl, r, rfl, (fun e => by rw [e] at hrl; simp at hrl; omega), by omega, _, rfl, ?_⟩
      refine ⟨_, _, rfl, rfl, _, r.map eP, rfl, rfl, _, _, rfl, rfl, dIx_nat (k := 0) rfl (at_eM hm0) ⟨_, (row m 0).map eP, rfl, rfl, rfl, rfl, shaped_eI _, shaped_eI _, _, rfl, ?_⟩⟩
      rw [eqv_len, List.length_map, List.length_map, hrl, o.row_len hm0, decide_eq_true rfl]
      exact ⟨_, _, _, _, _, rfl⟩
  · obtain ⟨x1, x2, x3, x4, x5, rfl⟩ := hw
    refine ⟨_, _, rfl, rfl, _, rfl, noLs_eR m, fun i τ => ∃ x1 x2 x3 x4 x5, τ = [some (.d (eM m)), x1, x2, x3, x4, x5], ⟨_, _, _, _, _, rfl⟩, fun i x τ' hx hw => ?_, fun τ' hw => ?_⟩
    · obtain ⟨x1, x2, x3, x4, x5, rfl⟩ := hw
      rw [List.getElem?_map] at hx
      cases e : m[i]? with
      | none => rw [e] at hx; cases hx
      | some r =>
        rw [e] at hx
        cases hx
        have hr := rowm e
        refine ⟨_, _, rfl, rfl, _, _, rfl, noL_eR r, rfl, _, _, rfl, rfl, _, rfl, noLs_map _ _ fun _ _ => rfl, fun j τ => ∃ x1 x3 x4 x5, τ = [some (.d (eM m)), x1, some (.d (eR r)), x3, x4, x5], ⟨_, _, _, _, rfl⟩, fun j y τ' hy hw => ?_, fun τ' hw => ?_⟩
        · obtain ⟨x1, x3, x4, x5, rfl⟩ := hw
          rw [List.getElem?_map] at hy
          cases e2 : r[j]? with
          | none => rw [e2] at hy; cases hy
          | some q =>
            rw [e2] at hy
            cases hy
            have hlt := o.nxt r hr q (List.mem_of_getElem? e2)
            refine ⟨_, _, rfl, rfl, _, _, rfl, dg2 rfl rfl ⟨rfl, _, _, rfl, rfl, _, _, rfl, rfl, _, m.map eR, rfl, rfl, _, _, rfl, rfl, _, rfl, ?_⟩⟩
            rw [List.length_map, decide_eq_false (by omega)]
            exact ⟨_, _, _, _, rfl⟩
        · obtain ⟨x1, x3, x4, x5, rfl⟩ := hw
          exact ⟨_, _, _, _, _, rfl⟩
    · obtain ⟨x1, x2, x3, x4, x5, rfl⟩ := hw
      exact hf
theorem sc_is_machine : FnScope ["thing"] ["thing"] (defScope s_is_machine) := ⟨rfl, rfl, rfl, by decide +kernel, rfl, by decide +kernel, by decide +kernel⟩
def G_ismach (ds : List PyData) (F : PyData → Prop) : Prop := ∃ (m : Mc) (wd : Nat), ds = [eM m] ∧ Ok m wd ∧ F (.bool true)
theorem o_ismach (fr : Fre mg) (D : Df K mg "is_machine" s_is_machine [] []) (O_machine_fault : Own P w K mg base 4 "machine_fault" [] (spD 1 G_fault)) : Own P w K mg base 5 "is_machine" [] (spD 1 G_ismach) := by
  refine Df.own (ps := ["thing"]) D (fun f fd F => okD F sc_is_machine rfl fun cdv A outer s H E hr => ?_) fun _ _ _ _ _ _ us hl => match us, hl with | [_], _ => rfl
  have nd := sc_is_machine.nd
  have hu := hr.units
  have hu1 := hu_of hr
  have hu5 := Room.units65 hr
  refine ⟨_, _, (dlast (dret (disN (dcall O_machine_fault (hr.mono (by decide)) (by rfl) (acons (dv 0) anil)) dnon))), fun as Fp hl hG => ?_⟩
  obtain ⟨m, wd, rfl, o, hf⟩ := hG
  exact ⟨_, _, rfl, rfl, rfl, m, wd, rfl, o, rfl, hf⟩
end
end Wk
end

section
set_option Elab.async false
set_option linter.all false
set_option maxRecDepth 100000
set_option maxHeartbeats 4000000
namespace Wk
open PySem PySem.Spec PyProof.Rows L2
theorem Df.ownB {P : Program} {w : World} {K : PySem.W.Frag} {mg : Str → Option Value} {base : Heap} {k : Nat} {x : Str} {st : Stmt} {ps : List Str} {sp : Sp} {dvs : List L2.V} {kws : List (Str × L2.V)} {dds : List PyData} (D : Df K mg x st dvs kws)
    (h : ∀ f fd, FunD K x x (defArgs st) (defBody st) (defScope st) dvs kws f fd → FnOk P w K mg base CX0 k f fd ps sp)
    (hb : ∀ f fd, FunD K x x (defArgs st) (defBody st) (defScope st) dvs kws f fd → ∃ ds, Vals (dds.map valOf) ds ∧ Binds K fd ps ds) (hdd : ∀ H, RpAll H (dds.map valOf) dds) : Own P w K mg base k x dds sp := by
  obtain ⟨f, fd, F, hm⟩ := D
  obtain ⟨ds, h1, h2⟩ := hb f fd F
  exact ⟨f, fd, ps, ds, h f fd F, hm, F.kp, h2, h1, hdd⟩
section
variable {P : Program} {w : World} {K : PySem.W.Frag} {mg : Str → Option Value} {base : Heap}
theorem sc_want : FnScope ["is_right", "word", "at"] ["is_right", "word", "at"] (defScope s_want) := ⟨rfl, rfl, rfl, by decide +kernel, rfl, by decide +kernel, by decide +kernel⟩
def G_want (ds : List PyData) (F : PyData → Prop) : Prop := ∃ a b : PyData, ds = [.bool true, a, b] ∧ F .none
theorem ok_want {dvs kws f fd} (fr : Fre mg) (F : FunD K "want" "want" (defArgs s_want) (defBody s_want) (defScope s_want) dvs kws f fd) : FnOk P w K mg base CX0 1 f fd ["is_right", "word", "at"] (spD 3 G_want) := by
  refine okD F sc_want rfl fun cdv A outer s H E hr => ?_
  have nd := sc_want.nd
  have hu := hr.units
  have hu1 := hu_of hr
  have hu5 := Room.units65 hr
  refine ⟨_, _, (dlast (difS (tnot (tval (dv 0))) (dlast draise) dnil)), fun as Fp hl hG => ?_⟩
  obtain ⟨a, b, rfl, hf⟩ := hG
  exact ⟨_, _, rfl, rfl, _, rfl, hf⟩
theorem o_want2 (fr : Fre mg) (D : Df K mg "want" s_want [.int (-1)] []) : Own P w K mg base 1 "want" [.int (-1)] (spD 3 G_want) :=
  D.ownB (ps := ["is_right", "word", "at"]) (fun f fd F => ok_want fr F) (fun f fd F => F.binds1 2 0 (by simp) rfl fun T kV doc pm an cdv ct us its h1 h2 => match us, its, h1, h2 with | [_, _], [_], _, _ => ⟨_, rfl, rfl⟩) fun H => .cons (.inl (.int _)) .nil
theorem sc_want_machine : FnScope ["machine", "word"] ["machine", "word"] (defScope s_want_machine) := ⟨rfl, rfl, rfl, by decide +kernel, rfl, by decide +kernel, by decide +kernel⟩
def G_wantm (ds : List PyData) (F : PyData → Prop) : Prop := ∃ (m : Mc) (wd : Nat) (b : PyData), ds = [eM m, b] ∧ Ok m wd ∧ F .none
theorem ok_wantm {dvs kws f fd} (fr : Fre mg) (F : FunD K "want_machine" "want_machine" (defArgs s_want_machine) (defBody s_want_machine) (defScope s_want_machine) dvs kws f fd) (O_want2 : Own P w K mg base 1 "want" [.int (-1)] (spD 3 G_want)) (O_is_machine : Own P w K mg base 5 "is_machine" [] (spD 1 G_ismach)) : FnOk P w K mg base CX0 6 f fd ["machine", "word"] (spD 2 G_wantm) := by
  refine okD F sc_want_machine rfl fun cdv A outer s H E hr => ?_
  have nd := sc_want_machine.nd
  have hu := hr.units
  have hu1 := hu_of hr
  have hu5 := Room.units65 hr
  refine ⟨_, _, (dlast (dexpr (dcall O_want2 (hr.mono (by decide)) (by rfl) (acons (dcall O_is_machine (hr.mono (by decide)) (by rfl) (acons (dv 0) anil)) (acons (dv 1) anil))))), fun as Fp hl hG => ?_⟩
  obtain ⟨m, wd, b, rfl, o, hf⟩ := hG
  exact ⟨_, _, rfl, rfl, rfl, m, wd, rfl, o, _, _, rfl, rfl, rfl, _, _, rfl, hf⟩
theorem o_wantm1 (fr : Fre mg) (D : Df K mg "want_machine" s_want_machine [.str "machine"] []) (O_want2 : Own P w K mg base 1 "want" [.int (-1)] (spD 3 G_want)) (O_is_machine : Own P w K mg base 5 "is_machine" [] (spD 1 G_ismach)) : Own P w K mg base 6 "want_machine" [.str "machine"] (spD 2 G_wantm) :=
  D.ownB (ps := ["machine", "word"]) (fun f fd F => ok_wantm fr F O_want2 O_is_machine) (fun f fd F => F.binds1 1 0 (by simp) rfl fun T kV doc pm an cdv ct us its h1 h2 => match us, its, h1, h2 with | [_], [_], _, _ => ⟨_, rfl, rfl⟩) fun H => .cons (.inl (.str _)) .nil
theorem o_wantm2 (fr : Fre mg) (D : Df K mg "want_machine" s_want_machine [.str "machine"] []) (O_want2 : Own P w K mg base 1 "want" [.int (-1)] (spD 3 G_want)) (O_is_machine : Own P w K mg base 5 "is_machine" [] (spD 1 G_ismach)) : Own P w K mg base 6 "want_machine" [] (spD 2 G_wantm) :=
  D.ownB (ps := ["machine", "word"]) (fun f fd F => ok_wantm fr F O_want2 O_is_machine) (fun f fd F => F.binds1 2 1 (by simp) rfl fun T kV doc pm an cdv ct us its h1 h2 => match us, its, h1, h2 with | [_, _], [_], _, _ => ⟨_, rfl, rfl⟩) fun H => .nil
theorem sc_want_both : FnScope ["one", "other"] ["one", "other"] (defScope s_want_both) := ⟨rfl, rfl, rfl, by decide +kernel, rfl, by decide +kernel, by decide +kernel⟩
def G_wantb (ds : List PyData) (F : PyData → Prop) : Prop := ∃ (m n : Mc) (wd : Nat), ds = [eM m, eM n] ∧ Ok m wd ∧ Ok n wd ∧ F .none
theorem o_wantb (fr : Fre mg) (D : Df K mg "want_both" s_want_both [] []) (O_want_machine2 : Own P w K mg base 6 "want_machine" [] (spD 2 G_wantm)) (O_want2 : Own P w K mg base 1 "want" [.int (-1)] (spD 3 G_want)) (O_is_machine : Own P w K mg base 5 "is_machine" [] (spD 1 G_ismach)) : Own P w K mg base 7 "want_both" [] (spD 2 G_wantb) := by
  refine Df.own (ps := ["one", "other"]) D (fun f fd F => okD F sc_want_both rfl fun cdv A outer s H E hr => ?_) fun _ _ _ _ _ _ us hl => match us, hl with | [_, _], _ => rfl
  have nd := sc_want_both.nd
  have hu := hr.units
  have hu1 := hu_of hr
  have hu5 := Room.units65 hr
  refine ⟨_, _, (dseq (dexpr (dcall O_want_machine2 (hr.mono (by decide)) (by rfl) (acons (dv 0) (acons dstr anil)))) (dlast (dexpr (dcall O_want2 (hr.mono (by decide)) (by rfl) (acons (dand (dcall O_is_machine (hr.mono (by decide)) (by rfl) (acons (dv 1) anil)) (done_ (deq hu (dlen (by rfl) fr.len (dix (dv 1) dint)) (dlen (by rfl) fr.len (dix (dv 0) dint))))) (acons dstr anil)))))), fun as Fp hl hG => ?_⟩
  obtain ⟨m, n, wd, rfl, o1, o2, hf⟩ := hG
  refine ⟨_, _, rfl, rfl, rfl, m, wd, _, rfl, o1, _, _, rfl, rfl, rfl, n, wd, rfl, o2, true, rfl, ?_⟩
  refine ⟨_, _, rfl, rfl, dIx_nat (k := 0) rfl (at_eM o2.ne) ⟨_, (row n 0).map eP, rfl, rfl, _, _, rfl, rfl, dIx_nat (k := 0) rfl (at_eM o1.ne) ⟨_, (row m 0).map eP, rfl, rfl, rfl, rfl, shaped_eI _, shaped_eI _, ?_⟩⟩⟩
  rw [eqv_len, List.length_map, List.length_map, o1.row_len o1.ne, o2.row_len o2.ne, decide_eq_true rfl]
  exact ⟨rfl, _, _, rfl, hf⟩
theorem sc_want_case : FnScope ["one", "other", "beats", "guard"] ["one", "other", "beats", "guard"] (defScope s_want_case) := ⟨rfl, rfl, rfl, by decide +kernel, rfl, by decide +kernel, by decide +kernel⟩
def G_wantc (ds : List PyData) (F : PyData → Prop) : Prop := ∃ (m n : Mc) (wd b : Nat), ds = [eM m, eM n, eI b, .none] ∧ Ok m wd ∧ Ok n wd ∧ F .none
theorem o_wantc (fr : Fre mg) (D : Df K mg "want_case" s_want_case [] []) (O_want_both : Own P w K mg base 7 "want_both" [] (spD 2 G_wantb)) (O_want2 : Own P w K mg base 1 "want" [.int (-1)] (spD 3 G_want)) (O_is_number : Own P w K mg base 2 "is_number" [] (spD 1 G_isint)) : Own P w K mg base 8 "want_case" [] (spD 4 G_wantc) := by
  refine Df.own (ps := ["one", "other", "beats", "guard"]) D (fun f fd F => okD F sc_want_case rfl fun cdv A outer s H E hr => ?_) fun _ _ _ _ _ _ us hl => match us, hl with | [_, _, _, _], _ => rfl
  have nd := sc_want_case.nd
  have hu := hr.units
  have hu1 := hu_of hr
  have hu5 := Room.units65 hr
  refine ⟨_, _, (dseq (dexpr (dcall O_want_both (hr.mono (by decide)) (by rfl) (acons (dv 0) (acons (dv 1) anil)))) (dseq (dexpr (dcall O_want2 (hr.mono (by decide)) (by rfl) (acons (dcall O_is_number (hr.mono (by decide)) (by rfl) (acons (dv 2) anil)) (acons dstr anil)))) (dlast (dexpr (dcall O_want2 (hr.mono (by decide)) (by rfl) (acons (dor (disN (dv 3) dnon) (done_ dnever)) (acons dstr anil))))))), fun as Fp hl hG => ?_⟩
  obtain ⟨m, n, wd, b, rfl, o1, o2, hf⟩ := hG
  exact ⟨_, _, rfl, rfl, _, _, rfl, rfl, rfl, m, n, wd, rfl, o1, o2, _, _, rfl, rfl, rfl, b, rfl, rfl, _, _, rfl, _, _, rfl, rfl, rfl, true, rfl, rfl, _, _, rfl, hf⟩
theorem sc_cores_of : FnScope ["machine"] ["machine"] (defScope s_cores_of) := ⟨rfl, rfl, rfl, by decide +kernel, rfl, by decide +kernel, by decide +kernel⟩
theorem o_coresOf (fr : Fre mg) (D : Df K mg "cores_of" s_cores_of [] []) (O_want_machine1 : Own P w K mg base 6 "want_machine" [.str "machine"] (spD 2 G_wantm)) (O_cores_by : Own P w K mg base 5 "cores_by" [] (spD 1 G_cores)) : Own P w K mg base 7 "cores_of" [] (spD 1 G_cores) := by
  refine Df.own (ps := ["machine"]) D (fun f fd F => okD F sc_cores_of rfl fun cdv A outer s H E hr => ?_) fun _ _ _ _ _ _ us hl => match us, hl with | [_], _ => rfl
  have nd := sc_cores_of.nd
  have hu := hr.units
  have hu1 := hu_of hr
  have hu5 := Room.units65 hr
  refine ⟨_, _, (dseq (dexpr (dcall O_want_machine1 (hr.mono (by decide)) (by rfl) (acons (dv 0) anil))) (dlast (dret (dcall O_cores_by (hr.mono (by decide)) (by rfl) (acons (dv 0) anil))))), fun as Fp hl hG => ?_⟩
  obtain ⟨m, wd, rfl, o, hf⟩ := hG
  exact ⟨_, _, rfl, rfl, rfl, m, wd, _, rfl, o, _, _, rfl, rfl, rfl, m, wd, rfl, o, hf⟩
theorem sc_settled_after : FnScope ["machine"] ["machine"] (defScope s_settled_after) := ⟨rfl, rfl, rfl, by decide +kernel, rfl, by decide +kernel, by decide +kernel⟩
theorem o_settledAfter (fr : Fre mg) (D : Df K mg "settled_after" s_settled_after [] []) (O_want_machine1 : Own P w K mg base 6 "want_machine" [.str "machine"] (spD 2 G_wantm)) (O_settled_by : Own P w K mg base 5 "settled_by" [] (spD 1 G_settled)) : Own P w K mg base 7 "settled_after" [] (spD 1 G_settled) := by
  refine Df.own (ps := ["machine"]) D (fun f fd F => okD F sc_settled_after rfl fun cdv A outer s H E hr => ?_) fun _ _ _ _ _ _ us hl => match us, hl with | [_], _ => rfl
  have nd := sc_settled_after.nd
  have hu := hr.units
  have hu1 := hu_of hr
  have hu5 := Room.units65 hr
  refine ⟨_, _, (dseq (dexpr (dcall O_want_machine1 (hr.mono (by decide)) (by rfl) (acons (dv 0) anil))) (dlast (dret (dcall O_settled_by (hr.mono (by decide)) (by rfl) (acons (dv 0) anil))))), fun as Fp hl hG => ?_⟩
  obtain ⟨m, wd, rfl, o, hf⟩ := hG
  exact ⟨_, _, rfl, rfl, rfl, m, wd, _, rfl, o, _, _, rfl, rfl, rfl, m, wd, rfl, o, hf⟩
theorem sc_shares_cores : FnScope ["one", "other", "found", "core"] ["one", "other"] (defScope s_shares_cores) := ⟨rfl, rfl, rfl, by decide +kernel, rfl, by decide +kernel, by decide +kernel⟩
def G_shares (ds : List PyData) (F : PyData → Prop) : Prop := ∃ (m n : Mc) (wd : Nat), ds = [eM m, eM n] ∧ Ok m wd ∧ Ok n wd ∧ F (.bool (shares leM m n))
theorem cores_few {m : Mc} {wd : Nat} (o : Ok m wd) {Cs : List Mc} (h : CoresAre m Cs) : Cs.length ≤ 5 := by
  have h1 : Cs.length ≤ ((List.range (Wk.mg m).length).map fun k => (core leM (Wk.mg m) k).getD []).length := nodup_len_le _ _ h.1.2 fun c hc => by
    obtain ⟨k, hk, e⟩ := (h.2 c).mp hc
    exact List.mem_map.mpr ⟨k, List.mem_range.mpr hk, by rw [e]; rfl⟩
  rw [List.length_map, List.length_range] at h1
  have := mg_le o
  have := o.small
  omega
theorem mem_core {m : Mc} {wd : Nat} (o : Ok m wd) {Cs : List Mc} (h : CoresAre m Cs) (c : Mc) : c ∈ Cs ↔ some c ∈ coreAt leM m := by
  rw [h.2 c, mem_coreAt]
  constructor
  · rintro ⟨k, hk, e⟩
    obtain ⟨s, hs, rfl⟩ := cl_onto o hk
    exact ⟨s, hs, e⟩
  · rintro ⟨s, hs, e⟩
    exact ⟨cl m s, cl_lt o hs, e⟩
theorem any_eM (l : List Mc) (c : Mc) : ((l.map eM).any fun z => PyData.eqv z (eM c)) = decide (c ∈ l) := by
  rw [Bool.eq_iff_iff, List.any_eq_true, decide_eq_true_eq]
  constructor
  · rintro ⟨z, hz, e⟩
    obtain ⟨u, hu, rfl⟩ := List.mem_map.mp hz
    rw [← eM_inj ((eqv_pure _ _ (pure_eM u) (pure_eM c)).mp e)]
    exact hu
  · intro h
    exact ⟨eM c, List.mem_map.mpr ⟨c, h, rfl⟩, (eqv_pure _ _ (pure_eM c) (pure_eM c)).mpr rfl⟩
theorem shaped_eM (m : Mc) : SeqAt.shaped (eM m) = true := shaped_of (pure_eM m) (by have := dep_eM m; omega)
theorem shaped_eMs (l : List Mc) : SeqAt.shaped (.tuple (l.map eM)) = true := shaped_of (pureDs_map _ _ fun m _ => pure_eM m) (by have := dep_map eM l fun m _ => dep_eM m; omega)
theorem o_shares (fr : Fre mg) (D : Df K mg "shares_cores" s_shares_cores [] []) (O_want_both : Own P w K mg base 7 "want_both" [] (spD 2 G_wantb)) (O_cores_by : Own P w K mg base 5 "cores_by" [] (spD 1 G_cores)) : Own P w K mg base 8 "shares_cores" [] (spD 2 G_shares) := by
  refine Df.own (ps := ["one", "other"]) D (fun f fd F => okD F sc_shares_cores rfl fun cdv A outer s H E hr => ?_) fun _ _ _ _ _ _ us hl => match us, hl with | [_, _], _ => rfl
  have nd := sc_shares_cores.nd
  have hu := hr.units
  have hu1 := hu_of hr
  have hu5 := Room.units65 hr
  refine ⟨_, _, (dseq (dexpr (dcall O_want_both (hr.mono (by decide)) (by rfl) (acons (dv 0) (acons (dv 1) anil)))) (dseq (dset 2 nd (PD.v (dcall O_cores_by (hr.mono (by decide)) (by rfl) (acons (dv 1) anil)))) (dlast (dret (dall rfl (by rfl) fr.all (dofl (lcT (dcall O_cores_by (hr.mono (by decide)) (by rfl) (acons (dv 0) anil)) (plc (own := [("core", 3)]) rfl nd (blkOk_by (by kernel_rfl)) (fun _ _ _ _ _ => (gname 3 nd)) (by decide) (fun _ _ _ _ _ => yes) (fun _ _ _ _ _ => (dinT hu5 (dv 3) (dv 2))))))))))), fun as Fp hl hG => ?_⟩
  obtain ⟨m, n, wd, rfl, o1, o2, hf⟩ := hG
  refine ⟨_, _, rfl, rfl, _, _, rfl, rfl, rfl, m, n, wd, rfl, o1, o2, _, _, rfl, rfl, rfl, n, wd, rfl, o2, fun Ds hD => ⟨noLs_map _ _ fun c _ => noL_eM c, fun _ => ⟨_, _, rfl, rfl, rfl, m, wd, rfl, o1, fun Cs hC => ?_⟩⟩⟩
  have hC5 := cores_few o1 hC
  refine ⟨_, rfl, by rw [List.length_map]; omega, dColl_one (zs := Cs) (enc := eM) (fun c => .bool (decide (c ∈ Ds))) (fun c hc R hR => ⟨noL_eM c, _, _, rfl, rfl, _, _, rfl, rfl, _, rfl, noF_noL (noL_eM c), shaped_eM c, shaped_eMs Ds, rfl, ?_⟩) ⟨Cs.map fun c => decide (c ∈ Ds), by rw [List.map_map]; rfl, ?_⟩⟩
  · rw [if_neg (by decide), any_eM]
    exact hR
  · have : (Cs.map fun c => decide (c ∈ Ds)).all id = shares leM m n := by
      rw [List.all_map, Bool.eq_iff_iff, List.all_eq_true]
      unfold shares
      rw [List.all_eq_true]
      constructor
      · intro h x hx
        cases x with
        | none => rfl
        | some c =>
          have := h c ((mem_core o1 hC c).mpr hx)
          have h2 : c ∈ Ds := of_decide_eq_true this
          simp only [Bool.or_eq_true, decide_eq_true_eq]
          exact .inr ((mem_core o2 hD c).mp h2)
      · intro h c hc
        have := h (some c) ((mem_core o1 hC c).mp hc)
        simp only [Option.isNone_some, Bool.false_or, decide_eq_true_eq] at this
        exact decide_eq_true ((mem_core o2 hD c).mpr this)
    rw [this]
    exact hf
end
end Wk
end

section
set_option Elab.async false
set_option linter.all false
set_option maxRecDepth 100000
set_option maxHeartbeats 4000000
namespace Wk
open PySem PySem.Spec PyProof.Rows L2
/-! ### states as data -/
def eT (q : State) : PyData := .tuple [.int 0, eI q.1, eS q.2]
abbrev Trip := List Nat × Nat × State
def e3 (t : Trip) : PyData := .tuple [eS t.1, eI t.2.1, eT t.2.2]
theorem noL_eT (q : State) : noL (eT q) = true := by
  show noLs [.int 0, eI q.1, eS q.2] = true
  simp only [noLs, noL_eS, Bool.and_true]
  rfl
theorem noL_e3 (t : Trip) : noL (e3 t) = true := by
  show noLs [eS t.1, eI t.2.1, eT t.2.2] = true
  simp only [noLs, noL_eS, noL_eT, Bool.and_true]
  rfl
theorem pure_eT (q : State) : pureD (eT q) = true := by
  show pureDs [.int 0, eI q.1, eS q.2] = true
  simp only [pureDs, pure_eS, Bool.and_true]
  rfl
theorem pure_e3 (t : Trip) : pureD (e3 t) = true := by
  show pureDs [eS t.1, eI t.2.1, eT t.2.2] = true
  simp only [pureDs, pure_eS, pure_eT, Bool.and_true]
  rfl
theorem dep_eT (q : State) : (eT q).depth ≤ 2 := dep_tup fun d hd => by
  rcases List.mem_cons.mp hd with rfl | hd
  · have := dep_eI 0
    exact Nat.le_trans this (by omega)
  · rcases List.mem_cons.mp hd with rfl | hd
    · have := dep_eI q.1
      omega
    · rw [List.mem_singleton.mp hd]
      exact dep_eS _
theorem dep_e3 (t : Trip) : (e3 t).depth ≤ 3 := dep_tup fun d hd => by
  rcases List.mem_cons.mp hd with rfl | hd
  · have := dep_eS t.1
    omega
  · rcases List.mem_cons.mp hd with rfl | hd
    · have := dep_eI t.2.1
      omega
    · rw [List.mem_singleton.mp hd]
      exact dep_eT _
theorem eT_inj {a b : State} (h : eT a = eT b) : a = b := by
  unfold eT at h
  have := PyData.tuple.inj h
  simp only [List.cons.injEq, and_true, true_and] at this
  exact Prod.ext (eI_inj this.1) (eS_inj this.2)
theorem e3_inj {a b : Trip} (h : e3 a = e3 b) : a = b := by
  unfold e3 at h
  have := PyData.tuple.inj h
  simp only [List.cons.injEq, and_true] at this
  exact Prod.ext (eS_inj this.1) (Prod.ext (eI_inj this.2.1) (eT_inj this.2.2))
theorem tupD_eT (q : State) : TupD (eT q) := tupD_of (pure_eT q) (by have := dep_eT q; unfold eT at this; omega)
theorem tupD_e3 (t : Trip) : TupD (e3 t) := tupD_of (pure_e3 t) (by have := dep_e3 t; unfold e3 at this; omega)
theorem alike_e3 (a b : Trip) : PySem.W.alike (e3 a) (e3 b) = true := by
  unfold e3 eT
  simp only [PySem.W.alike, PySem.W.alikeAll, alike_eI, alike_eS, Bool.and_self]
section
variable {P : Program} {w : World} {K : PySem.W.Frag} {mg : Str → Option Value} {base : Heap}
theorem sc_goal_by : FnScope ["guard", "place", "letter"] ["guard", "place", "letter"] (defScope s_goal_by) := ⟨rfl, rfl, rfl, by decide +kernel, rfl, by decide +kernel, by decide +kernel⟩
def G_goal (ds : List PyData) (F : PyData → Prop) : Prop := ∃ a b : PyData, ds = [.none, a, b] ∧ F (.int 0)
theorem o_goal (fr : Fre mg) (D : Df K mg "goal_by" s_goal_by [] []) : Own P w K mg base 1 "goal_by" [] (spD 3 G_goal) := by
  refine Df.own (ps := ["guard", "place", "letter"]) D (fun f fd F => okD F sc_goal_by rfl fun cdv A outer s H E hr => ?_) fun _ _ _ _ _ _ us hl => match us, hl with | [_, _, _], _ => rfl
  have nd := sc_goal_by.nd
  have hu := hr.units
  have hu1 := hu_of hr
  have hu5 := Room.units65 hr
  refine ⟨_, _, (dlast (dret (dif_ (tisN (dv 0) dnon) dint (dix (dix (dv 0) (dv 1)) (dv 2))))), fun as Fp hl hG => ?_⟩
  obtain ⟨a, b, rfl, hf⟩ := hG
  exact ⟨_, _, rfl, rfl, rfl, _, rfl, hf⟩
theorem sc_states_behind : FnScope ["one", "other", "guard", "state", "place", "standing", "standings", "found", "letter", "late", "answer", "goal"] ["one", "other", "guard", "state"] (defScope s_states_behind) := ⟨rfl, rfl, rfl, by decide +kernel, rfl, by decide +kernel, by decide +kernel⟩
def G_behind (ds : List PyData) (F : List PyData → Prop) : Prop := ∃ (m n : Mc) (wd : Nat) (q : State), ds = [eM m, eM n, .none, eT q] ∧ Ok m wd ∧ Ok n wd ∧ StOk m n q ∧ F ((List.range wd).map fun x => .tuple [eI x, eT (stp m n q x)])
theorem st_len {m n : Mc} {wd : Nat} (o2 : Ok n wd) {q : State} (h : StOk m n q) : q.2.length ≤ 5 := by
  obtain ⟨_, xs, e⟩ := h
  rw [e]
  exact Nat.le_trans (setN_len _ _) o2.small
theorem o_behind (fr : Fre mg) (D : Df K mg "states_behind" s_states_behind [] []) (O_goal_by : Own P w K mg base 1 "goal_by" [] (spD 3 G_goal)) (O_left_by : Own P w K mg base 2 "left_by" [] (spD 4 G_left)) : Own P w K mg base 3 "states_behind" [] (spL 4 G_behind) := by
  refine Df.own (ps := ["one", "other", "guard", "state"]) D (fun f fd F => okL F sc_states_behind rfl fun cdv A outer s H E hr => ?_) fun _ _ _ _ _ _ us hl => match us, hl with | [_, _, _, _], _ => rfl
  have nd := sc_states_behind.nd
  have hu := hr.units
  have hu1 := hu_of hr
  have hu5 := Room.units65 hr
  refine ⟨_, _, (dseq (dasg (dv 3) (gtup (n := 3) rfl (gcons (gname 4 nd) (gcons (gname 5 nd) (gcons (gname 6 nd) gnil))))) (dseq (dset 7 nd (PLd.v (ldisp anil))) (dseq (dforE PassesOwn.never rfl (by rfl) fr.enumerate (dix (dv 0) (dv 5)) (gcons (gname 8 nd) (gcons (gtup (n := 2) rfl (gcons (gname 9 nd) (gcons (gname 10 nd) gnil))) gnil)) (dseq (dset 11 nd (PD.v (dcall O_goal_by (hr.mono (by decide)) (by rfl) (acons (dv 2) (acons (dv 4) (acons (dv 8) anil)))))) (dlast (difS (tnotN (dv 11) dnon) (dlast (dappend 7 (dtup (acons (dv 8) (acons (dtup (acons (dv 11) (acons (dv 9) (acons (dcall O_left_by (hr.mono (by decide)) (by rfl) (acons (dv 1) (acons (dv 6) (acons (dv 8) (acons (dv 10) anil))))) anil)))) anil))))) dnil)))) (dlast (dretV 7))))), fun as Fp hl hG => ?_⟩
  obtain ⟨m, n, wd, q, rfl, o1, o2, hq, hf⟩ := hG
  have hw4 := o1.wsmall
  have hs := hq.1
  refine ⟨_, _, rfl, rfl, dg3 rfl rfl (noL_eS _) ⟨Nat.zero_le _, rfl, rfl, fun p => ?_⟩⟩
  refine ⟨_, _, rfl, rfl, _, _, rfl, rfl, dIx_nat rfl (at_eM hs) ⟨_, rfl, noLs_map _ _ fun _ _ => rfl, fun i τ => ∃ x8 x9 x10 x11, τ = [some (.d (eM m)), some (.d (eM n)), some (.d .none), some (.d (eT q)), some (.d (.int 0)), some (.d (eI q.1)), some (.d (eS q.2)), some (.l p (((List.range wd).map fun x => .tuple [eI x, eT (stp m n q x)]).take i)), x8, x9, x10, x11], ⟨none, none, none, none, rfl⟩, fun i y τ' hy hw => ?_, fun τ' hw => ?_⟩⟩
  · obtain ⟨x8, x9, x10, x11, rfl⟩ := hw
    rw [List.getElem?_map] at hy
    cases e : (row m q.1)[i]? with
    | none => rw [e] at hy; cases hy
    | some c =>
      rw [e] at hy
      cases hy
      have hil : i < wd := by
        have := (List.getElem?_eq_some_iff.mp e).1
        rw [o1.row_len hs] at this
        exact this
      have ec : c = (nx m q.1 i, an m q.1 i) := by
        have := o1.pair hs hil
        rw [List.getElem?_eq_getElem (by rw [o1.row_len hs]; exact hil)] at e
        exact (Option.some.inj e).symm.trans this
      subst ec
      have hl : (((List.range wd).map fun x => PyData.tuple [eI x, eT (stp m n q x)]).take i).length ≤ 4 := by
        rw [List.length_take, List.length_map, List.length_range]
        omega
      refine ⟨_, _, rfl, rfl, _, _, rfl, dg2 rfl rfl ⟨rfl, _, _, rfl, rfl, _, _, rfl, rfl, _, _, rfl, rfl, rfl, _, _, rfl, rfl, fun _ => ?_⟩⟩
      refine ⟨_, _, rfl, rfl, rfl, _, rfl, p, _, rfl, by omega, _, _, rfl, rfl, _, _, rfl, rfl, _, _, rfl, rfl, _, _, rfl, rfl, _, _, rfl, rfl, _, _, rfl, rfl, _, _, rfl, rfl, rfl, n, wd, q.2, i, an m q.1 i, rfl, o2, hq.lt, by have := st_len o2 hq; omega, hil, ?_⟩
      refine ⟨by show 3 ≤ 100000; decide, rfl, by show 2 ≤ 100000; decide, rfl, ?_, ?_⟩
      · show noLs [eI i, eT (stp m n q i)] = true
        simp only [noLs, noL_eT, Bool.and_true]
        rfl
      · exact ⟨some (.d (eI i)), some (.d (eI (nx m q.1 i))), some (.d (eI (an m q.1 i))), some (.d (.int 0)), by
          rw [List.take_add_one, List.getElem?_map, List.getElem?_range hil]
          rfl⟩
  · obtain ⟨x8, x9, x10, x11, rfl⟩ := hw
    rw [List.length_map, o1.row_len hs]
    refine ⟨p, _, rfl, ?_⟩
    rw [List.take_of_length_le (by rw [List.length_map, List.length_range]; exact Nat.le_refl _)]
    exact hf
theorem sc_states_begun : FnScope ["one", "other", "beats", "standing"] ["one", "other", "beats"] (defScope s_states_begun) := ⟨rfl, rfl, rfl, by decide +kernel, rfl, by decide +kernel, by decide +kernel⟩
def G_begun (ds : List PyData) (F : List PyData → Prop) : Prop := ∃ (m n : Mc) (wd b : Nat), ds = [eM m, eM n, eI b] ∧ Ok m wd ∧ Ok n wd ∧ F ((behind m (min b m.length)).map fun s => eT (s, List.range n.length))
theorem o_begun (fr : Fre mg) (D : Df K mg "states_begun" s_states_begun [] []) (O_after_by : Own P w K mg base 3 "after_by" [] (spD 2 G_after)) (O_all_standings : Own P w K mg base 1 "all_standings" [] (spD 1 G_allS)) : Own P w K mg base 4 "states_begun" [] (spL 3 G_begun) := by
  refine Df.own (ps := ["one", "other", "beats"]) D (fun f fd F => okL F sc_states_begun rfl fun cdv A outer s H E hr => ?_) fun _ _ _ _ _ _ us hl => match us, hl with | [_, _, _], _ => rfl
  have nd := sc_states_begun.nd
  have hu := hr.units
  have hu1 := hu_of hr
  have hu5 := Room.units65 hr
  refine ⟨_, _, (dlast (dretL (lcT (dcall O_after_by (hr.mono (by decide)) (by rfl) (acons (dv 0) (acons (dv 2) anil))) (plc (own := [("standing", 3)]) rfl nd (blkOk_by (by kernel_rfl)) (fun _ _ _ _ _ => (gname 3 nd)) (by decide) (fun _ _ _ _ _ => yes) (fun _ _ _ _ _ => (dtup (acons dint (acons (dv 3) (acons (dcall O_all_standings (hr.mono (by decide)) (by rfl) (acons (dv 1) anil)) anil))))))))), fun as Fp hl hG => ?_⟩
  obtain ⟨m, n, wd, b, rfl, o1, o2, hf⟩ := hG
  have hn5 := o2.small
  refine ⟨_, _, rfl, rfl, _, _, rfl, rfl, rfl, m, wd, b, rfl, o1, _, rfl, by rw [List.length_map]; have := behind_le o1 (min b m.length); omega, dColl_one (zs := behind m (min b m.length)) (enc := eI) (fun s => eT (s, List.range n.length)) (fun s hs R hR => ⟨rfl, _, _, rfl, rfl, _, _, rfl, rfl, rfl, eM n, n.map eR, rfl, rfl, by rw [List.length_map]; omega, ?_⟩) hf⟩
  rw [List.length_map]
  exact ⟨by show 3 ≤ 100000; decide, rfl, noL_eT (s, List.range n.length), hR⟩
end
end Wk
end

section
set_option Elab.async false
set_option linter.all false
set_option maxRecDepth 100000
set_option maxHeartbeats 8000000
namespace Wk
open PySem PySem.Spec PyProof.Rows L2
structure FInv (m n : Mc) (wd : Nat) (S : List Nat) (L : List Trip) (Z : List State) : Prop where
  nd : Z.Nodup
  ok : ∀ q ∈ Z, StOk m n q
  ne : ∀ q ∈ Z, q.2 ≠ []
  start : ∀ s ∈ S, (s, List.range n.length) ∈ Z
  rch : ∀ q ∈ Z, ∃ s ∈ S, ∃ r, Lets wd r ∧ stR m n (s, List.range n.length) r = q
  lv : ∀ t ∈ L, t.2.2 ∈ Z
  ndL : (L.map fun t => t.2.2).Nodup
  cl : ∀ q ∈ Z, q ∈ (L.map fun t => t.2.2) ∨ ∀ x, x < wd → stp m n q x ∈ Z
  few : ∀ t ∈ L, t.1.length ≤ Z.length
def lateOf (m n : Mc) (wd : Nat) (L : List Trip) : List Trip := L.flatMap fun t => (List.range wd).map fun x => (t.1 ++ [x], t.2.1, stp m n t.2.2 x)
theorem lateOf_snoc (m n : Mc) (wd : Nat) (A : List Trip) (t : Trip) : lateOf m n wd (A ++ [t]) = lateOf m n wd A ++ (List.range wd).map fun x => (t.1 ++ [x], t.2.1, stp m n t.2.2 x) := by
  unfold lateOf
  rw [List.flatMap_append]
  simp
theorem FInv.done {m n : Mc} {wd : Nat} {S : List Nat} {Z : List State} (o1 : Ok m wd) (o2 : Ok n wd) (hS : ∀ s ∈ S, s < m.length) (h : FInv m n wd S [] Z) : May wd m n S :=
  may_closed o1 o2 hS (fun q => q ∈ Z) h.start fun q hq x hx => by
    rcases h.cl q hq with e | e
    · simp at e
    · exact ⟨e x hx, h.ne _ (e x hx)⟩
theorem FInv.no {m n : Mc} {wd : Nat} {S : List Nat} {L : List Trip} {Z : List State} (o1 : Ok m wd) (o2 : Ok n wd) (hS : ∀ s ∈ S, s < m.length) (h : FInv m n wd S L Z) {t : Trip} (ht : t ∈ lateOf m n wd L) (he : t.2.2.2 = []) : ¬ May wd m n S := fun hm => by
  obtain ⟨u, hu, h2⟩ := List.mem_flatMap.mp ht
  obtain ⟨x, hx, rfl⟩ := List.mem_map.mp h2
  obtain ⟨s, hs, r, lr, e⟩ := h.rch _ (h.lv u hu)
  refine (may_states o1 o2 hS).mp hm s hs (r ++ [x]) (lr.app (Lets.cons.mpr ⟨List.mem_range.mp hx, Lets.nil⟩)) ?_
  rw [stR_app, e]
  exact he
/-- what the second half of a round keeps -/
structure HInv (Z : List State) (Ts L' : List Trip) (i : Nat) : Prop where
  nd : (Z ++ L'.map fun t => t.2.2).Nodup
  sub : ∀ t ∈ L', t ∈ Ts
  ne : ∀ t ∈ L', t.2.2.2 ≠ []
  all : ∀ t ∈ Ts.take i, t.2.2 ∈ Z ++ L'.map fun t => t.2.2
theorem FInv.next {m n : Mc} {wd : Nat} {S : List Nat} {L L' Ts : List Trip} {Z : List State} (o1 : Ok m wd) (h : FInv m n wd S L Z) (g : HInv Z Ts L' Ts.length) (hT : ∀ t, t ∈ Ts ↔ t ∈ lateOf m n wd L) : FInv m n wd S L' (Z ++ L'.map fun t => t.2.2) := by
  have late : ∀ t ∈ L', ∃ u ∈ L, ∃ x, x < wd ∧ t = (u.1 ++ [x], u.2.1, stp m n u.2.2 x) := fun t ht => by
    obtain ⟨u, hu, h2⟩ := List.mem_flatMap.mp ((hT t).mp (g.sub t ht))
    obtain ⟨x, hx, e⟩ := List.mem_map.mp h2
    exact ⟨u, hu, x, List.mem_range.mp hx, e.symm⟩
  refine ⟨g.nd, fun q hq => ?_, fun q hq => ?_, fun s hs => List.mem_append_left _ (h.start s hs), fun q hq => ?_, fun t ht => List.mem_append_right _ (List.mem_map.mpr ⟨t, ht, rfl⟩), (List.nodup_append.mp g.nd).2.1, fun q hq => ?_, fun t ht => ?_⟩
  · rcases List.mem_append.mp hq with hq | hq
    · exact h.ok q hq
    · obtain ⟨t, ht, rfl⟩ := List.mem_map.mp hq
      obtain ⟨u, hu, x, hx, rfl⟩ := late t ht
      exact (h.ok _ (h.lv u hu)).stp o1 hx
  · rcases List.mem_append.mp hq with hq | hq
    · exact h.ne q hq
    · obtain ⟨t, ht, rfl⟩ := List.mem_map.mp hq
      exact g.ne t ht
  · rcases List.mem_append.mp hq with hq | hq
    · exact h.rch q hq
    · obtain ⟨t, ht, rfl⟩ := List.mem_map.mp hq
      obtain ⟨u, hu, x, hx, rfl⟩ := late t ht
      obtain ⟨s, hs, r, lr, e⟩ := h.rch _ (h.lv u hu)
      refine ⟨s, hs, r ++ [x], lr.app (Lets.cons.mpr ⟨hx, Lets.nil⟩), ?_⟩
      rw [stR_app, e]
      rfl
  · rcases List.mem_append.mp hq with hq | hq
    · refine .inr fun x hx => ?_
      rcases h.cl q hq with e | e
      · obtain ⟨u, hu, rfl⟩ := List.mem_map.mp e
        have hin : (u.1 ++ [x], u.2.1, stp m n u.2.2 x) ∈ Ts := (hT _).mpr (List.mem_flatMap.mpr ⟨u, hu, List.mem_map.mpr ⟨x, List.mem_range.mpr hx, rfl⟩⟩)
        have := g.all _ (by rw [List.take_length]; exact hin)
        exact this
      · exact List.mem_append_left _ (e x hx)
    · exact .inl hq
  · obtain ⟨u, hu, x, hx, rfl⟩ := late t ht
    have h1 := h.few u hu
    have h2 : 0 < (L'.map fun t => t.2.2).length := by
      rw [List.length_map]
      exact List.length_pos_of_mem ht
    simp only [List.length_append, List.length_cons, List.length_nil]
    omega
section
variable {P : Program} {w : World} {K : PySem.W.Frag} {mg : Str → Option Value} {base : Heap}
theorem sc_failing_from : FnScope ["one", "other", "guard", "states", "state", "level", "seen", "late", "letters", "begun", "letter", "behind"] ["one", "other", "guard", "states"] (defScope s_failing_from) := ⟨rfl, rfl, rfl, by decide +kernel, rfl, by decide +kernel, by decide +kernel⟩
def kvT (q : State) : PyData × PyData := (eT q, .bool true)
def G_fail (ds : List PyData) (F : PyData → Prop) : Prop := ∃ (m n : Mc) (wd : Nat) (S : List Nat), ds = [eM m, eM n, .none, .list (S.map fun s => eT (s, List.range n.length))] ∧ Ok m wd ∧ Ok n wd ∧ S.Nodup ∧ S.length ≤ 5 ∧ (∀ s ∈ S, s < m.length) ∧ ∀ d : PyData, (d = .none ↔ May wd m n S) → F d
theorem e3_snoc (l : List Nat) (x b : Nat) (q : State) : e3 (l ++ [x], b, q) = .tuple [.tuple (l.map eI ++ [eI x]), eI b, eT q] := by
  unfold e3 eS
  rw [List.map_append]
  rfl
theorem o_fail (fr : Fre mg) (D : Df K mg "failing_from" s_failing_from [] []) (O_states_behind : Own P w K mg base 3 "states_behind" [] (spL 4 G_behind)) (O_as_set : Own P w K mg base 1 "as_set" [] (spD 1 G_setD)) : Own P w K mg base 4 "failing_from" [] (spD 4 G_fail) := by
  refine Df.own (ps := ["one", "other", "guard", "states"]) D (fun f fd F => okD F sc_failing_from rfl fun cdv A outer s H E hr => ?_) fun _ _ _ _ _ _ us hl => match us, hl with | [_, _, _, _], _ => rfl
  have nd := sc_failing_from.nd
  have hu := hr.units
  have hu1 := hu_of hr
  have hu5 := Room.units65 hr
  refine ⟨_, _, (dseq (dsetLl 5 (dv 3) (plc (own := [("state", 4)]) rfl nd (blkOk_by (by kernel_rfl)) (fun _ _ _ _ _ => (gname 4 nd)) (by decide) (fun _ _ _ _ _ => yes) (fun _ _ _ _ _ => (dtup (acons (dtup anil) (acons (dix (dv 4) dint) (acons (dv 4) anil))))))) (dseq (dsetDcN 6 hu (dv 3) (plc (own := [("state", 4)]) rfl nd (blkOk_by (by kernel_rfl)) (fun _ _ _ _ _ => (gname 4 nd)) (by decide) (fun _ _ _ _ _ => yes) (fun _ _ _ _ _ => (dv 4))) (fun _ _ _ _ _ => dbl)) (dseq (dwhile PassesOwn.never (tgt (dlen (by rfl) fr.len (dv 5)) dint) (dseq (dset 7 nd (PLd.v (ldisp anil))) (dseq (dforV 5 PassesOwn.never rfl (gtup (n := 3) rfl (gcons (gname 8 nd) (gcons (gname 9 nd) (gcons (gname 4 nd) gnil)))) (dlast (dforL PassesOwn.never rfl (lcall O_states_behind (hr.mono (by decide)) (by rfl) (acons (dv 0) (acons (dv 1) (acons (dv 2) (acons (dv 4) anil))))) (gtup (n := 2) rfl (gcons (gname 10 nd) (gcons (gname 11 nd) gnil))) (dlast (dappend 7 (dtup (acons (dtup (astar (dv 8) (acons (dv 10) anil))) (acons (dv 9) (acons (dv 11) anil))))))))) (dseq (dset 5 nd (PLd.v (ldisp anil))) (dlast (dforT PassesOwn.never rfl (dcall O_as_set (hr.mono (by decide)) (by rfl) (acons (dv 7) anil)) (gtup (n := 3) rfl (gcons (gname 8 nd) (gcons (gname 9 nd) (gcons (gname 4 nd) gnil)))) (dseq (difS (teq hu (dlen (by rfl) fr.len (dix (dv 4) dint)) dint) (dlast (dret (dtup (acons (dv 9) (acons (dv 8) anil))))) dnil) (dlast (difS (tninN hu 6 (dv 4)) (dseq (dsetN hu 6 (dv 4) dbl) (dlast (dappend 5 (dtup (acons (dv 8) (acons (dv 9) (acons (dv 4) anil))))))) dnil))))))))) (dlast (dret dnon))))), fun as Fp hl hG => ?_⟩
  obtain ⟨m, n, wd, S, rfl, o1, o2, hnd, hS5, hS, hf⟩ := hG
  have hn0 := o2.ne
  have hw4 := o1.wsmall
  refine ⟨_, _, rfl, rfl, _, rfl, by rw [List.length_map]; omega, dColl_one (zs := S) (enc := fun s => eT (s, List.range n.length)) (fun s => e3 ([], s, (s, List.range n.length))) (fun s hs R hR => ⟨noL_eT _, Nat.zero_le _, rfl, _, _, rfl, rfl, dIx_nat (k := 1) rfl rfl ⟨_, _, rfl, rfl, by show 3 ≤ 100000; decide, rfl, noL_e3 ([], s, (s, List.range n.length)), hR⟩⟩) ⟨noLs_map _ _ fun _ _ => noL_e3 _, fun pl => ?_⟩⟩
  refine ⟨_, _, rfl, rfl, _, rfl, fun i acc => acc = (S.take i).map fun s => kvT (s, List.range n.length), rfl, fun i acc x hw hx => ?_, fun acc hw => ⟨rfl, fun ps => ?_⟩⟩
  · rw [List.getElem?_map] at hx
    cases e : S[i]? with
    | none => rw [e] at hx; cases hx
    | some s =>
      rw [e] at hx
      cases hx
      have hil := (List.getElem?_eq_some_iff.mp e).1
      refine ⟨noL_eT _, _, _, rfl, rfl, tupD_eT _, noL_eT _, rfl, ?_, ?_, ?_⟩
      · rw [hw, List.map_map]
        intro hm
        obtain ⟨s2, h2, e2⟩ := List.mem_map.mp hm
        have e3' := congrArg Prod.fst (eT_inj e2)
        have e3' : s2 = s := e3'
        subst e3'
        obtain ⟨j, hj, ej⟩ := List.getElem_of_mem h2
        rw [List.length_take] at hj
        rw [List.getElem_take] at ej
        exact List.pairwise_iff_getElem.mp hnd j i (by omega) hil (by omega) (ej.trans ((List.getElem?_eq_some_iff.mp e).2).symm)
      · rw [hw, List.length_map, List.length_take]
        omega
      · have hw : acc = _ := hw
        show acc ++ [_] = _
        rw [hw, List.take_add_one, e, List.map_append]
        rfl
  · rw [List.length_map, List.take_length] at hw
    subst hw
    have hI0 : FInv m n wd S (S.map fun s => ([], s, (s, List.range n.length))) (S.map fun s => (s, List.range n.length)) := by
      refine ⟨?_, fun q hq => ?_, fun q hq => ?_, fun s hs => List.mem_map.mpr ⟨s, hs, rfl⟩, fun q hq => ?_, fun t ht => ?_, ?_, fun q hq => .inl ?_, fun t ht => ?_⟩
      · unfold List.Nodup
        rw [List.pairwise_map]
        exact hnd.imp fun h e => h (congrArg Prod.fst e)
      · obtain ⟨s, hs, rfl⟩ := List.mem_map.mp hq
        exact stOk_start (hS s hs)
      · obtain ⟨s, hs, rfl⟩ := List.mem_map.mp hq
        intro e
        have e : List.range n.length = [] := e
        rw [List.range_eq_nil] at e
        omega
      · obtain ⟨s, hs, rfl⟩ := List.mem_map.mp hq
        exact ⟨s, hs, [], Lets.nil, rfl⟩
      · obtain ⟨s, hs, rfl⟩ := List.mem_map.mp ht
        exact List.mem_map.mpr ⟨s, hs, rfl⟩
      · rw [List.map_map]
        unfold List.Nodup
        rw [List.pairwise_map]
        exact hnd.imp fun h e => h (congrArg Prod.fst e)
      · obtain ⟨s, hs, rfl⟩ := List.mem_map.mp hq
        exact List.mem_map.mpr ⟨_, List.mem_map.mpr ⟨s, hs, rfl⟩, rfl⟩
      · obtain ⟨s, hs, rfl⟩ := List.mem_map.mp ht
        exact Nat.zero_le _
    refine ⟨fun μ τ => ∃ pl L Z x4 x7 x8 x9 x10 x11, τ = [some (.d (eM m)), some (.d (eM n)), some (.d .none), some (.d (.list (S.map fun s => eT (s, List.range n.length)))), x4, some (.l pl (L.map e3)), some (.n ps (Z.map kvT)), x7, x8, x9, x10, x11] ∧ FInv m n wd S L Z ∧ μ = 2 * (160 - Z.length) + (if L = [] then 0 else 1), ⟨_, pl, _, _, none, none, none, none, none, none, by rw [List.map_map, List.map_map]; rfl, hI0, rfl⟩, ?_⟩
    rintro μ τ ⟨pl, L, Z, x4, x7, x8, x9, x10, x11, rfl, hI, rfl⟩
    have hZ : Z.length ≤ 160 := states_few o1 o2 hI.nd hI.ok
    have hL : L.length ≤ 160 := by
      have := states_few (V := L.map fun t => t.2.2) o1 o2 hI.ndL fun q hq => by
        obtain ⟨t, ht, rfl⟩ := List.mem_map.mp hq
        exact hI.ok _ (hI.lv t ht)
      rw [List.length_map] at this
      exact this
    refine ⟨_, _, rfl, rfl, _, _, rfl, rfl, _, _, rfl, rfl, _, rfl, ?_⟩
    rw [List.length_map]
    by_cases c : L = []
    · subst c
      rw [decide_eq_false (by simp)]
      exact hf .none ⟨fun _ => hI.done o1 o2 hS, fun _ => rfl⟩
    · have hpos : 0 < L.length := List.length_pos_iff.mpr c
      rw [decide_eq_true (show (0 : Int) < ((L.length : Nat) : Int) by omega), if_neg c]
      have hlate : (lateOf m n wd L).length ≤ 640 := by
        have := flat_len2 (fun t : Trip => (List.range wd).map fun x => (t.1 ++ [x], t.2.1, stp m n t.2.2 x)) 4 L fun t _ => by
          rw [List.length_map, List.length_range]
          exact hw4
        unfold lateOf
        omega
      refine ⟨Nat.zero_le _, rfl, rfl, fun pt => ⟨pl, _, rfl, fun i τ => ∃ x4 x8 x9 x10 x11, τ = [some (.d (eM m)), some (.d (eM n)), some (.d .none), some (.d (.list (S.map fun s => eT (s, List.range n.length)))), x4, some (.l pl (L.map e3)), some (.n ps (Z.map kvT)), some (.l pt ((lateOf m n wd (L.take i)).map e3)), x8, x9, x10, x11], ⟨x4, x8, x9, x10, x11, rfl⟩, fun i τ' _ hw => ?_, fun i y τ' hy hw => ?_, fun τ' hw => ?_⟩⟩
      · obtain ⟨x4, x8, x9, x10, x11, rfl⟩ := hw
        rfl
      · obtain ⟨x4, x8, x9, x10, x11, rfl⟩ := hw
        rw [List.getElem?_map] at hy
        cases e : L[i]? with
        | none => rw [e] at hy; cases hy
        | some t =>
          rw [e] at hy
          cases hy
          have htm := List.mem_of_getElem? e
          have htake : L.take (i + 1) = L.take i ++ [t] := by rw [List.take_add_one, e]; rfl
          have hlt : (lateOf m n wd (L.take i)).length ≤ 640 := by
            have := flat_len2 (fun t : Trip => (List.range wd).map fun x => (t.1 ++ [x], t.2.1, stp m n t.2.2 x)) 4 (L.take i) fun t _ => by
              rw [List.length_map, List.length_range]
              exact hw4
            rw [List.length_take] at this
            unfold lateOf
            omega
          have hfew := hI.few t htm
          refine dg3 (noL_eS _) rfl (noL_eT _) ⟨_, _, rfl, rfl, _, _, rfl, rfl, _, _, rfl, rfl, _, _, rfl, rfl, rfl, m, n, wd, t.2.2, rfl, o1, o2, hI.ok _ (hI.lv t htm), ?_⟩
          refine ⟨noLs_map _ _ fun x _ => ?_, fun j τ => ∃ x10 x11, τ = [some (.d (eM m)), some (.d (eM n)), some (.d .none), some (.d (.list (S.map fun s => eT (s, List.range n.length)))), some (.d (eT t.2.2)), some (.l pl (L.map e3)), some (.n ps (Z.map kvT)), some (.l pt ((lateOf m n wd (L.take i) ++ ((List.range wd).take j).map fun x => (t.1 ++ [x], t.2.1, stp m n t.2.2 x)).map e3)), some (.d (eS t.1)), some (.d (eI t.2.1)), x10, x11], ⟨x10, x11, by simp⟩, fun _ _ _ _ => trivial, fun j z τ' hz hw => ?_, fun τ' hw => ?_⟩
          · show noLs [eI x, eT _] = true
            simp only [noLs, noL_eT, Bool.and_true]
            rfl
          · obtain ⟨x10, x11, rfl⟩ := hw
            rw [List.getElem?_map] at hz
            have hjl : j < wd := by
              cases q : (List.range wd)[j]? with
              | none => rw [q] at hz; cases hz
              | some v =>
                have := (List.getElem?_eq_some_iff.mp q).1
                rw [List.length_range] at this
                exact this
            rw [List.getElem?_range hjl] at hz
            cases hz
            refine dg2 rfl (noL_eT _) ⟨pt, _, rfl, ?_, _, _, rfl, rfl, _, rfl, _, _, rfl, rfl, ?_, ?_, _, _, rfl, rfl, _, _, rfl, rfl, by show 3 ≤ 100000; decide, rfl, ?_, ?_⟩
            · rw [List.length_map, List.length_append, List.length_map, List.length_take, List.length_range]
              omega
            · rw [List.length_append, List.length_map]
              simp only [List.length_cons, List.length_nil]
              omega
            · rw [List.all_append, Bool.and_eq_true]
              exact ⟨List.all_eq_true.mpr fun d hd => by obtain ⟨u, _, rfl⟩ := List.mem_map.mp hd; rfl, rfl⟩
            · have := noL_e3 (t.1 ++ [j], t.2.1, stp m n t.2.2 j)
              rw [e3_snoc] at this
              exact this
            · have e5 : (lateOf m n wd (L.take i) ++ ((List.range wd).take (j + 1)).map fun x => (t.1 ++ [x], t.2.1, stp m n t.2.2 x)).map e3 = (lateOf m n wd (L.take i) ++ ((List.range wd).take j).map fun x => (t.1 ++ [x], t.2.1, stp m n t.2.2 x)).map e3 ++ [.tuple [.tuple (t.1.map eI ++ [eI j]), eI t.2.1, eT (stp m n t.2.2 j)]] := by
                rw [List.take_add_one, List.getElem?_range hjl]
                simp only [Option.toList_some, List.map_append, List.append_assoc, List.map_cons, List.map_nil, e3_snoc]
              exact ⟨some (.d (eI j)), some (.d (eT (stp m n t.2.2 j))), by rw [e5]; rfl⟩
          · obtain ⟨x10, x11, rfl⟩ := hw
            rw [List.length_map, List.length_range, show (List.range wd).take wd = List.range wd from List.take_of_length_le (by rw [List.length_range]; exact Nat.le_refl _)]
            exact ⟨some (.d (eT t.2.2)), some (.d (eS t.1)), some (.d (eI t.2.1)), x10, x11, by rw [htake, lateOf_snoc]⟩
      · obtain ⟨x4, x8, x9, x10, x11, rfl⟩ := hw
        rw [List.length_map, List.take_length]
        refine ⟨Nat.zero_le _, rfl, rfl, fun pl2 => ⟨_, _, rfl, rfl, rfl, _, rfl, by rw [List.length_map]; omega, fun x hx => ?_, fun x hx y hy => ?_, fun rs hsub hall hpw => ?_⟩⟩
        · obtain ⟨t, _, rfl⟩ := List.mem_map.mp hx
          exact tupD_e3 t
        · obtain ⟨t, _, rfl⟩ := List.mem_map.mp hx
          obtain ⟨u, _, rfl⟩ := List.mem_map.mp hy
          exact alike_e3 t u
        · obtain ⟨sub, hs1, hs2⟩ := hsub
          obtain ⟨subt, hs3, rfl⟩ := List.sublist_map_iff.mp hs1
          obtain ⟨Ts, pT, eTs⟩ := perm_back e3 hs2.symm
          subst eTs
          have hT : ∀ t, t ∈ Ts ↔ t ∈ lateOf m n wd L := fun t => ⟨fun h => hs3.subset (pT.mem_iff.mp h), fun h => by
            obtain ⟨u, hu, e⟩ := List.mem_map.mp (hall _ (List.mem_map.mpr ⟨t, h, rfl⟩))
            rw [← e3_inj e]
            exact hu⟩
          have hTl : Ts.length ≤ 640 := by
            rw [pT.length_eq]
            exact Nat.le_trans hs3.length_le hlate
          refine ⟨_, rfl, noLs_map _ _ fun _ _ => noL_e3 _, fun i τ => ∃ L' x4 x8 x9 x10 x11, τ = [some (.d (eM m)), some (.d (eM n)), some (.d .none), some (.d (.list (S.map fun s => eT (s, List.range n.length)))), x4, some (.l pl2 (L'.map e3)), some (.n ps ((Z ++ L'.map fun t => t.2.2).map kvT)), some (.l pt ((lateOf m n wd L).map e3)), x8, x9, x10, x11] ∧ HInv Z Ts L' i ∧ L'.length ≤ i, ⟨[], x4, x8, x9, x10, x11, by simp; rfl, ⟨by simpa using hI.nd, fun t h => by simp at h, fun t h => by simp at h, fun t h => by simp at h⟩, Nat.le_refl _⟩, fun _ _ _ _ => trivial, fun i y τ' hy hw => ?_, fun τ' hw => ?_⟩
          · obtain ⟨L', x4, x8, x9, x10, x11, rfl, hH, hl2⟩ := hw
            rw [List.getElem?_map] at hy
            cases e : Ts[i]? with
            | none => rw [e] at hy; cases hy
            | some t =>
              rw [e] at hy
              cases hy
              have htm := List.mem_of_getElem? e
              have hil := (List.getElem?_eq_some_iff.mp e).1
              have htake : Ts.take (i + 1) = Ts.take i ++ [t] := by rw [List.take_add_one, e]; rfl
              refine dg3 (noL_eS _) rfl (noL_eT _) ⟨_, _, rfl, rfl, dIx_nat (k := 2) rfl rfl ⟨_, _, rfl, rfl, rfl, rfl, shaped_eI _, shaped_eI 0, _, rfl, ?_⟩⟩
              by_cases ce : t.2.2.2 = []
              · rw [show PyData.eqv (.int ((t.2.2.2.map eI).length : Nat)) (.int 0) = true by rw [ce]; exact (eqv_pure _ _ rfl rfl).mpr rfl]
                exact ⟨_, _, rfl, rfl, _, _, rfl, rfl, by show 2 ≤ 100000; decide, rfl, hf _ ⟨fun h => (by cases h), fun h => absurd h (hI.no o1 o2 hS ((hT t).mp htm) ce)⟩⟩
              · rw [eqv_len0 (by rw [List.length_map]; intro h; exact ce (List.eq_nil_of_length_eq_zero h))]
                refine ⟨_, _, rfl, rfl, ps, _, rfl, tupD_eT _, fun c2 hc2 => ?_⟩
                have hkeys : ((Z ++ L'.map fun t => t.2.2).map kvT).map (·.1) = (Z ++ L'.map fun t => t.2.2).map eT := by rw [List.map_map]; rfl
                rw [hkeys, List.mem_map] at hc2
                by_cases hin : t.2.2 ∈ Z ++ L'.map fun t => t.2.2
                · have : c2 = true := hc2.mpr ⟨_, hin, rfl⟩
                  subst this
                  refine ⟨L', some (.d (eT t.2.2)), some (.d (eS t.1)), some (.d (eI t.2.1)), x10, x11, rfl, ⟨hH.nd, hH.sub, hH.ne, fun u hu => ?_⟩, by omega⟩
                  rw [htake] at hu
                  rcases List.mem_append.mp hu with hu | hu
                  · exact hH.all u hu
                  · rw [List.mem_singleton.mp hu]
                    exact hin
                · have : c2 = false := by
                    cases c2 with
                    | false => rfl
                    | true =>
                      obtain ⟨q, hq, eq⟩ := hc2.mp rfl
                      rw [eT_inj eq] at hq
                      exact absurd hq hin
                  subst this
                  have hzl : (Z ++ L'.map fun t => t.2.2).length ≤ 900 := by
                    rw [List.length_append, List.length_map]
                    omega
                  refine ⟨ps, _, rfl, _, _, rfl, rfl, tupD_eT _, noL_eT _, rfl, ?_, by rw [List.length_map]; omega, pl2, _, rfl, by rw [List.length_map]; omega, _, _, rfl, rfl, _, _, rfl, rfl, _, _, rfl, rfl, by show 3 ≤ 100000; decide, rfl, noL_e3 t, ?_⟩
                  · rw [hkeys, List.mem_map]
                    rintro ⟨q, hq, eq⟩
                    rw [eT_inj eq] at hq
                    exact hin hq
                  · refine ⟨L' ++ [t], some (.d (eT t.2.2)), some (.d (eS t.1)), some (.d (eI t.2.1)), x10, x11, ?_, ⟨?_, fun u hu => ?_, fun u hu => ?_, fun u hu => ?_⟩, ?_⟩
                    · rw [List.map_append (l₁ := L'), List.map_append (l₁ := L'), ← List.append_assoc, List.map_append (l₁ := Z ++ _)]
                      rfl
                    · rw [List.map_append, ← List.append_assoc]
                      refine List.nodup_append.mpr ⟨hH.nd, by simp, fun a ha b hb => ?_⟩
                      have hb : b = t.2.2 := by simpa using hb
                      intro hab
                      rw [hab, hb] at ha
                      exact hin ha
                    · rcases List.mem_append.mp hu with hu | hu
                      · exact hH.sub u hu
                      · rw [List.mem_singleton.mp hu]
                        exact htm
                    · rcases List.mem_append.mp hu with hu | hu
                      · exact hH.ne u hu
                      · rw [List.mem_singleton.mp hu]
                        exact ce
                    · rw [htake] at hu
                      rw [List.map_append, ← List.append_assoc]
                      rcases List.mem_append.mp hu with hu | hu
                      · exact List.mem_append_left _ (hH.all u hu)
                      · rw [List.mem_singleton.mp hu]
                        exact List.mem_append_right _ (by simp)
                    · rw [List.length_append, List.length_singleton]
                      omega
          · obtain ⟨L', x4, x8, x9, x10, x11, rfl, hH, hl2⟩ := hw
            rw [List.length_map] at hH
            have hI2 := hI.next o1 hH hT
            have hZ2 := states_few o1 o2 hI2.nd hI2.ok
            refine ⟨_, ?_, pl2, L', _, x4, _, x8, x9, x10, x11, rfl, hI2, rfl⟩
            rw [List.length_append, List.length_map] at hZ2 ⊢
            by_cases cl : L' = []
            · subst cl
              simp
            · have := List.length_pos_iff.mpr cl
              rw [if_neg cl]
              omega
end
end Wk
end

section
set_option Elab.async false
set_option linter.all false
set_option maxRecDepth 100000
set_option maxHeartbeats 8000000
namespace Wk
open PySem PySem.Spec PyProof.Rows L2
/-- a def as callers by one keyword have it -/
def OwnK (P : Program) (w : World) (K : PySem.W.Frag) (mg : Str → Option Value) (base : Heap) (k : Nat) (x : Str) (n : Nat) (ks : List Str) (dds : List PyData) (sp : Sp) : Prop :=
  ∃ f fd ps g, FnOk P w K mg base CX0 k f fd ps sp ∧ mg x = some (.ref f) ∧ PySem.W.keepIn K (.ref f) = true ∧ KBn K fd ps n ks g (fun vs zs => vs ++ zs ++ dds.map valOf) ∧ ∀ H, RpAll H (dds.map valOf) dds
section
variable {X : Cx} {K : PySem.W.Frag} {k n m : Nat} {x y : Str} {dds : List PyData} {p pos kpos : Pos} {e v : Expr} {es : List Expr} {t : TA} {da : DTA} {tv : TE} {dv : DTE}
theorem dcallK {G : List PyData → (PyData → Prop) → Prop} (O : OwnK X.prog X.w X.K X.mg X.base k x m [y] dds (spD n G)) (hr : Room k X.A) (hg : Gl X x) (ha : PAd X K (e :: es) t da) (hv : PD X K v tv dv) (hdb : (x == ("__debug__" : Str)) = false := by decide) (hall : (backToKw pos (keywordEach [⟨some y, v, kpos⟩] X.env)).all (·.1.isSome) = true := by rfl) (hks : (backToKw pos (keywordEach [⟨some y, v, kpos⟩] X.env)).filterMap (·.1) = [y] := by rfl)
    (he : starEach (e :: es) X.env = (false, eval e X.env) :: starEach es X.env := by rfl)
    (hpl : ((backTo pos (starEach (e :: es) X.env)).any (·.1) || (backToKw pos (keywordEach [⟨some y, v, kpos⟩] X.env)).any (·.1.isNone)) = false := by rfl) :
    PD X K (.Call (.Name x p) (e :: es) [⟨some y, v, kpos⟩] pos) (tCallN m 1 (spD n G) (fun vs zs => vs ++ zs ++ dds.map valOf) E0 t (tCons tv tNil)) (fun τ F => da τ fun as => dv τ fun z => as.length = m ∧ (as ++ [z] ++ dds).length = n ∧ G (as ++ [z] ++ dds) F) := by
  have hK := hv.hK
  subst hK
  obtain ⟨f, fd, ps, g, F, hm, hk, hb, hdd⟩ := O
  refine ⟨rfl, pe_callN (ks := [y]) F hr hg hm hk hb pass0 ha.pe (pk_cons hv.pe pk_nil) hall hks hdb he hpl, ⟨fun {_ _ _ _} R {Fp} h {Q} k => ha.se.run R h fun vs H1 as e1 r1 h1 => hv.se.run (R.to e1) h1 fun u H2 z e2 r2 h2 => ?_⟩⟩
  have r3 := RpAll.app (RpAll.app (r1.sm e2) (.cons r2 .nil)) (hdd H2)
  refine ⟨?_, rfl, ?_, _, _, r3, h2.2.2, fun v H' d e3 r hf => k v H' d ((e1.trans e2).trans e3) r hf⟩
  · rw [r1.len]
    exact h2.1
  · rw [r3.len]
    exact h2.2.1
end
section
variable {P : Program} {w : World} {K : PySem.W.Frag} {mg : Str → Option Value} {base : Heap}
theorem sc_failing_by : FnScope ["one", "other", "beats", "guard"] ["one", "other", "beats", "guard"] (defScope s_failing_by) := ⟨rfl, rfl, rfl, by decide +kernel, rfl, by decide +kernel, by decide +kernel⟩
def G_failBy (ds : List PyData) (F : PyData → Prop) : Prop := ∃ (m n : Mc) (wd b : Nat), ds = [eM m, eM n, eI b, .none] ∧ Ok m wd ∧ Ok n wd ∧ ∀ d : PyData, (d = .none ↔ May wd m n (behind m (min b m.length))) → F d
theorem behind_nodup (m : Mc) (k : Nat) : (behind m k).Nodup := (behind_sorted m k).imp fun h => Nat.ne_of_lt h
theorem o_failBy (fr : Fre mg) (D : Df K mg "failing_by" s_failing_by [] []) (O_failing_from : Own P w K mg base 4 "failing_from" [] (spD 4 G_fail)) (O_states_begun : Own P w K mg base 4 "states_begun" [] (spL 3 G_begun)) : Own P w K mg base 5 "failing_by" [] (spD 4 G_failBy) := by
  refine Df.own (ps := ["one", "other", "beats", "guard"]) D (fun f fd F => okD F sc_failing_by rfl fun cdv A outer s H E hr => ?_) fun _ _ _ _ _ _ us hl => match us, hl with | [_, _, _, _], _ => rfl
  have nd := sc_failing_by.nd
  have hu := hr.units
  have hu1 := hu_of hr
  have hu5 := Room.units65 hr
  refine ⟨_, _, (dlast (dret (dcall O_failing_from (hr.mono (by decide)) (by rfl) (acons (dv 0) (acons (dv 1) (acons (dv 3) (acons (dofl (lcall O_states_begun (hr.mono (by decide)) (by rfl) (acons (dv 0) (acons (dv 1) (acons (dv 2) anil))))) anil))))))), fun as Fp hl hG => ?_⟩
  obtain ⟨m, n, wd, b, rfl, o1, o2, hf⟩ := hG
  exact ⟨_, _, rfl, rfl, _, _, rfl, rfl, _, _, rfl, rfl, _, _, rfl, rfl, _, _, rfl, rfl, _, _, rfl, rfl, rfl, m, n, wd, b, rfl, o1, o2, rfl, m, n, wd, behind m (min b m.length), rfl, o1, o2, behind_nodup m _, behind_le o1 _, behind_lt m _, hf⟩
theorem sc_may_by : FnScope ["one", "other", "beats", "guard"] ["one", "other", "beats", "guard"] (defScope s_may_by) := ⟨rfl, rfl, rfl, by decide +kernel, rfl, by decide +kernel, by decide +kernel⟩
def G_may (ds : List PyData) (F : PyData → Prop) : Prop := ∃ (m n : Mc) (wd b : Nat), ds = [eM m, eM n, eI b, .none] ∧ Ok m wd ∧ Ok n wd ∧ ∀ c : Bool, (c = true ↔ May wd m n (behind m (min b m.length))) → F (.bool c)
theorem isNo_iff (d : PyData) : isNo d = true ↔ d = .none := by cases d <;> simp [isNo]
theorem o_may (fr : Fre mg) (D : Df K mg "may_by" s_may_by [] []) (O_failing_by : Own P w K mg base 5 "failing_by" [] (spD 4 G_failBy)) : Own P w K mg base 6 "may_by" [] (spD 4 G_may) := by
  refine Df.own (ps := ["one", "other", "beats", "guard"]) D (fun f fd F => okD F sc_may_by rfl fun cdv A outer s H E hr => ?_) fun _ _ _ _ _ _ us hl => match us, hl with | [_, _, _, _], _ => rfl
  have nd := sc_may_by.nd
  have hu := hr.units
  have hu1 := hu_of hr
  have hu5 := Room.units65 hr
  refine ⟨_, _, (dlast (dret (disN (dcall O_failing_by (hr.mono (by decide)) (by rfl) (acons (dv 0) (acons (dv 1) (acons (dv 2) (acons (dv 3) anil))))) dnon))), fun as Fp hl hG => ?_⟩
  obtain ⟨m, n, wd, b, rfl, o1, o2, hf⟩ := hG
  exact ⟨_, _, rfl, rfl, _, _, rfl, rfl, _, _, rfl, rfl, _, _, rfl, rfl, rfl, m, n, wd, b, rfl, o1, o2, fun d hd => ⟨rfl, hf _ (by rw [isNo_iff, hd])⟩⟩
theorem sc_least_by : FnScope ["one", "other", "guard", "beats"] ["one", "other", "guard"] (defScope s_least_by) := ⟨rfl, rfl, rfl, by decide +kernel, rfl, by decide +kernel, by decide +kernel⟩
def LeastIs (wd : Nat) (m n : Mc) (o : Option Nat) : Prop := match o with
  | some k => k ≤ m.length ∧ May wd m n (behind m k) ∧ ∀ j, j < k → ¬ May wd m n (behind m j)
  | none => ∀ j, j ≤ m.length → ¬ May wd m n (behind m j)
def G_leastBy (ds : List PyData) (F : PyData → Prop) : Prop := ∃ (m n : Mc) (wd : Nat), ds = [eM m, eM n, .none] ∧ Ok m wd ∧ Ok n wd ∧ ∀ o, LeastIs wd m n o → F (eO o)
theorem o_leastBy (fr : Fre mg) (D : Df K mg "least_by" s_least_by [] []) (O_may_by : Own P w K mg base 6 "may_by" [] (spD 4 G_may)) : Own P w K mg base 7 "least_by" [] (spD 3 G_leastBy) := by
  refine Df.own (ps := ["one", "other", "guard"]) D (fun f fd F => okD F sc_least_by rfl fun cdv A outer s H E hr => ?_) fun _ _ _ _ _ _ us hl => match us, hl with | [_, _, _], _ => rfl
  have nd := sc_least_by.nd
  have hu := hr.units
  have hu1 := hu_of hr
  have hu5 := Room.units65 hr
  refine ⟨_, _, (dseq (dforR PassesOwn.never rfl (by rfl) fr.range (acons (dadd (dlen (by rfl) fr.len (dv 0)) dint) anil) (gname 3 nd) (dlast (difS (tval (dcall O_may_by (hr.mono (by decide)) (by rfl) (acons (dv 0) (acons (dv 1) (acons (dv 3) (acons (dv 2) anil)))))) (dlast (dret (dv 3))) dnil))) (dlast (dret dnon))), fun as Fp hl hG => ?_⟩
  obtain ⟨m, n, wd, rfl, o1, o2, hf⟩ := hG
  have hm5 := o1.small
  refine ⟨_, _, rfl, rfl, _, m.map eR, rfl, rfl, _, _, rfl, rfl, m.length + 1, by rw [List.length_map]; rfl, by omega, fun i τ => ∃ x3, τ = [some (.d (eM m)), some (.d (eM n)), some (.d .none), x3] ∧ ∀ j, j < i → ¬ May wd m n (behind m j), ⟨none, rfl, fun j hj => absurd hj (Nat.not_lt_zero j)⟩, fun _ _ _ _ => trivial, fun i x τ' hx hw => ?_, fun τ' hw => ?_⟩
  · obtain ⟨x3, rfl, hno⟩ := hw
    have hil : i < m.length + 1 := by
      have := (List.getElem?_eq_some_iff.mp hx).1
      rw [rgD_len] at this
      exact this
    rw [rgD_at hil] at hx
    cases hx
    refine ⟨rfl, _, _, rfl, rfl, _, _, rfl, rfl, _, _, rfl, rfl, _, _, rfl, rfl, rfl, m, n, wd, i, rfl, o1, o2, fun c hc => ⟨c, rfl, ?_⟩⟩
    rw [Nat.min_eq_left (by omega)] at hc
    cases c with
    | true => exact ⟨_, _, rfl, rfl, hf (some i) ⟨by omega, hc.mp rfl, hno⟩⟩
    | false =>
      refine ⟨_, rfl, fun j hj => ?_⟩
      by_cases cj : j = i
      · rw [cj]
        intro hm
        exact absurd (hc.mpr hm) (by decide)
      · exact hno j (by omega)
  · obtain ⟨x3, rfl, hno⟩ := hw
    rw [rgD_len] at hno
    exact hf none fun j hj => hno j (by omega)
theorem sc_may_replace : FnScope ["one", "other", "beats", "guard"] ["one", "other", "beats", "guard"] (defScope s_may_replace) := ⟨rfl, rfl, rfl, by decide +kernel, rfl, by decide +kernel, by decide +kernel⟩
theorem o_mayRep (fr : Fre mg) (D : Df K mg "may_replace" s_may_replace [] [("beats", .int 0), ("guard", .non)]) (O_want_case : Own P w K mg base 8 "want_case" [] (spD 4 G_wantc)) (O_may_by : Own P w K mg base 6 "may_by" [] (spD 4 G_may)) : OwnK P w K mg base 9 "may_replace" 2 ["beats"] [.none] (spD 4 G_may) := by
  obtain ⟨f, fd, F, hm⟩ := D
  obtain ⟨mv, hb⟩ := F.kbinds0 (ps := ["one", "other", "beats", "guard"]) 2 ["beats"] [("guard", .non)] (fun vs mz zs => vs ++ zs ++ mz) (by simp) (fun q hq => by simp at hq; subst hq; simp) (fun r1 r2 r3 => (r1.append r3).append r2)
    (fun D doc pm an cdv ct us mv ws h1 h2 h3 => match us, mv, ws, h1, h2, h3 with | [_, _], [_], [_], _, _, _ => ⟨_, _, _, _, _, _, rfl, rfl, rfl⟩)
  refine ⟨f, fd, _, _, ?_, hm, F.kp, hb, fun H => .cons (.inl .non) .nil⟩
  refine okD F sc_may_replace rfl fun cdv A outer s H E hr => ?_
  have nd := sc_may_replace.nd
  have hu := hr.units
  have hu1 := hu_of hr
  have hu5 := Room.units65 hr
  refine ⟨_, _, (dseq (dexpr (dcall O_want_case (hr.mono (by decide)) (by rfl) (acons (dv 0) (acons (dv 1) (acons (dv 2) (acons (dv 3) anil)))))) (dlast (dret (dcall O_may_by (hr.mono (by decide)) (by rfl) (acons (dv 0) (acons (dv 1) (acons (dv 2) (acons (dv 3) anil)))))))), fun as Fp hl hG => ?_⟩
  obtain ⟨m, n, wd, b, rfl, o1, o2, hf⟩ := hG
  exact ⟨_, _, rfl, rfl, _, _, rfl, rfl, _, _, rfl, rfl, _, _, rfl, rfl, rfl, m, n, wd, b, rfl, o1, o2, _, _, rfl, rfl, _, _, rfl, rfl, _, _, rfl, rfl, _, _, rfl, rfl, rfl, m, n, wd, b, rfl, o1, o2, hf⟩
theorem sc_least_beats : FnScope ["one", "other", "guard"] ["one", "other", "guard"] (defScope s_least_beats) := ⟨rfl, rfl, rfl, by decide +kernel, rfl, by decide +kernel, by decide +kernel⟩
theorem o_leastBeats (fr : Fre mg) (D : Df K mg "least_beats" s_least_beats [] [("guard", .non)]) (O_want_case : Own P w K mg base 8 "want_case" [] (spD 4 G_wantc)) (O_least_by : Own P w K mg base 7 "least_by" [] (spD 3 G_leastBy)) : Own P w K mg base 9 "least_beats" [.none] (spD 3 G_leastBy) := by
  refine D.ownB (ps := ["one", "other", "guard"]) (fun f fd F => ?_) (fun f fd F => F.binds0 2 (by simp) rfl fun D doc pm an cdv ct us ks h1 h2 => match us, ks, h1, h2 with | [_, _], [_], _, _ => ⟨_, _, _, _, _, _, rfl, rfl, rfl⟩) fun H => .cons (.inl .non) .nil
  refine okD F sc_least_beats rfl fun cdv A outer s H E hr => ?_
  have nd := sc_least_beats.nd
  have hu := hr.units
  have hu1 := hu_of hr
  have hu5 := Room.units65 hr
  refine ⟨_, _, (dseq (dexpr (dcall O_want_case (hr.mono (by decide)) (by rfl) (acons (dv 0) (acons (dv 1) (acons dint (acons (dv 2) anil)))))) (dlast (dret (dcall O_least_by (hr.mono (by decide)) (by rfl) (acons (dv 0) (acons (dv 1) (acons (dv 2) anil))))))), fun as Fp hl hG => ?_⟩
  obtain ⟨m, n, wd, rfl, o1, o2, hf⟩ := hG
  exact ⟨_, _, rfl, rfl, _, _, rfl, rfl, _, _, rfl, rfl, rfl, m, n, wd, 0, rfl, o1, o2, _, _, rfl, rfl, _, _, rfl, rfl, _, _, rfl, rfl, rfl, m, n, wd, rfl, o1, o2, hf⟩
theorem sc_are_alike : FnScope ["one", "other"] ["one", "other"] (defScope s_are_alike) := ⟨rfl, rfl, rfl, by decide +kernel, rfl, by decide +kernel, by decide +kernel⟩
def G_alike (ds : List PyData) (F : PyData → Prop) : Prop := ∃ (m n : Mc) (wd : Nat), ds = [eM m, eM n] ∧ Ok m wd ∧ Ok n wd ∧ ∀ c : Bool, (c = true ↔ May wd m n (behind m 0) ∧ May wd n m (behind n 0)) → F (.bool c)
theorem o_alike (fr : Fre mg) (D : Df K mg "are_alike" s_are_alike [] []) (O_want_both : Own P w K mg base 7 "want_both" [] (spD 2 G_wantb)) (O_may_by : Own P w K mg base 6 "may_by" [] (spD 4 G_may)) : Own P w K mg base 8 "are_alike" [] (spD 2 G_alike) := by
  refine Df.own (ps := ["one", "other"]) D (fun f fd F => okD F sc_are_alike rfl fun cdv A outer s H E hr => ?_) fun _ _ _ _ _ _ us hl => match us, hl with | [_, _], _ => rfl
  have nd := sc_are_alike.nd
  have hu := hr.units
  have hu1 := hu_of hr
  have hu5 := Room.units65 hr
  refine ⟨_, _, (dseq (dexpr (dcall O_want_both (hr.mono (by decide)) (by rfl) (acons (dv 0) (acons (dv 1) anil)))) (dlast (dret (dand (dcall O_may_by (hr.mono (by decide)) (by rfl) (acons (dv 0) (acons (dv 1) (acons dint (acons dnon anil))))) (done_ (dcall O_may_by (hr.mono (by decide)) (by rfl) (acons (dv 1) (acons (dv 0) (acons dint (acons dnon anil)))))))))), fun as Fp hl hG => ?_⟩
  obtain ⟨m, n, wd, rfl, o1, o2, hf⟩ := hG
  refine ⟨_, _, rfl, rfl, _, _, rfl, rfl, rfl, m, n, wd, rfl, o1, o2, _, _, rfl, rfl, _, _, rfl, rfl, rfl, m, n, wd, 0, rfl, o1, o2, fun c hc => ⟨c, rfl, ?_⟩⟩
  rw [Nat.zero_min] at hc
  cases c with
  | true =>
    refine ⟨_, _, rfl, rfl, _, _, rfl, rfl, rfl, n, m, wd, 0, rfl, o2, o1, fun c2 hc2 => hf c2 ?_⟩
    rw [Nat.zero_min] at hc2
    rw [hc2]
    exact ⟨fun h => ⟨hc.mp rfl, h⟩, fun h => h.2⟩
  | false => exact hf false ⟨fun h => (by cases h), fun h => absurd (hc.mpr h.1) (by decide)⟩
end
end Wk
end

section
set_option Elab.async false
set_option linter.all false
set_option maxRecDepth 100000
set_option maxHeartbeats 8000000
set_option pp.maxSteps 400
namespace Wk
open PySem PySem.Spec PyProof.Rows L2
def eKL (k : Nat × List (Nat × Nat)) : PyData := .tuple [eI k.1, eR k.2]
theorem eKL_inj (a b : Nat × List (Nat × Nat)) (h : eKL a = eKL b) : a = b := by
  unfold eKL at h
  have := PyData.tuple.inj h
  simp only [List.cons.injEq, and_true] at this
  exact Prod.ext (eI_inj this.1) (eR_inj this.2)
theorem pure_eKL (k : Nat × List (Nat × Nat)) : pureD (eKL k) = true := by
  show pureDs [eI k.1, eR k.2] = true
  simp only [pureDs, pure_eR, Bool.and_true]
  rfl
theorem noL_eKL (k : Nat × List (Nat × Nat)) : noL (eKL k) = true := by
  show noLs [eI k.1, eR k.2] = true
  simp only [noLs, noL_eR, Bool.and_true]
  rfl
theorem dep_eKL (k : Nat × List (Nat × Nat)) : (eKL k).depth ≤ 3 := dep_tup fun d hd => by
  rcases List.mem_cons.mp hd with rfl | hd
  · have := dep_eI k.1
    omega
  · rw [List.mem_singleton.mp hd]
    exact dep_eR _
theorem shaped_eKL (k : Nat × List (Nat × Nat)) : SeqAt.shaped (eKL k) = true := shaped_of (pure_eKL k) (by have := dep_eKL k; omega)
theorem shaped_eKLs (l : List (Nat × List (Nat × Nat))) : SeqAt.shaped (.list (l.map eKL)) = true := shaped_list (pureDs_map _ _ fun k _ => pure_eKL k) fun d hd => by
  obtain ⟨x, _, rfl⟩ := List.mem_map.mp hd
  have := dep_eKL x
  omega
theorem any_inj {α : Type} [DecidableEq α] {f : α → PyData} (hp : ∀ a, pureD (f a) = true) (hi : ∀ a b, f a = f b → a = b) (l : List α) (c : α) : ((l.map f).any fun z => PyData.eqv z (f c)) = decide (c ∈ l) := by
  rw [Bool.eq_iff_iff, List.any_eq_true, decide_eq_true_eq]
  constructor
  · rintro ⟨z, hz, e⟩
    obtain ⟨u, hu, rfl⟩ := List.mem_map.mp hz
    rw [← hi _ _ ((eqv_pure _ _ (hp u) (hp c)).mp e)]
    exact hu
  · intro h
    exact ⟨f c, List.mem_map.mpr ⟨c, h, rfl⟩, (eqv_pure _ _ (hp c) (hp c)).mpr rfl⟩
/-- xs.index(c), found -/
theorem index_inj {α : Type} [DecidableEq α] {f : α → PyData} (hp : ∀ a, pureD (f a) = true) (hi : ∀ a b, f a = f b → a = b) (l : List α) (c : α) (hc : c ∈ l) : (l.map f)[l.idxOf c]? = some (f c) ∧ PyData.eqv (f c) (f c) = true ∧ ∀ (m : Nat) (z' : PyData), m < l.idxOf c → (l.map f)[m]? = some z' → PyData.eqv z' (f c) = false := by
  have hlt := List.idxOf_lt_length_iff.mpr hc
  refine ⟨at_map (by rw [List.getElem?_eq_getElem hlt, List.getElem_idxOf hlt]), (eqv_pure _ _ (hp c) (hp c)).mpr rfl, fun m z' hm hz => ?_⟩
  rw [List.getElem?_map] at hz
  cases e : l[m]? with
  | none => rw [e] at hz; cases hz
  | some u =>
    rw [e] at hz
    cases hz
    cases q : PyData.eqv (f u) (f c) with
    | false => rfl
    | true =>
      have := hi _ _ ((eqv_pure _ _ (hp u) (hp c)).mp q)
      subst this
      have hm2 := (List.getElem?_eq_some_iff.mp e)
      obtain ⟨h1, h2⟩ := hm2
      have h3 := List.not_of_lt_findIdx (p := fun x => x == u) (xs := l) hm
      rw [h2] at h3
      simp at h3
theorem any_in {α : Type} [DecidableEq α] {f : α → PyData} (hp : ∀ a, pureD (f a) = true) (hi : ∀ a b, f a = f b → a = b) {l : List α} {c : α} (h : c ∈ l) : ((l.map f).any fun z => PyData.eqv z (f c)) = true := by
  rw [any_inj hp hi]
  exact decide_eq_true h
theorem any_out {α : Type} [DecidableEq α] {f : α → PyData} (hp : ∀ a, pureD (f a) = true) (hi : ∀ a b, f a = f b → a = b) {l : List α} {c : α} (h : ¬ c ∈ l) : ((l.map f).any fun z => PyData.eqv z (f c)) = false := by
  rw [any_inj hp hi]
  exact decide_eq_false h
def numbIx {α : Type} [DecidableEq α] (ks : List α) (k : α) : Nat := (firsts ks).idxOf k
theorem numb_ix {α : Type} [DecidableEq α] (ks : List α) : numb ks = ks.map (numbIx ks) := rfl
section
variable {P : Program} {w : World} {K : PySem.W.Frag} {mg : Str → Option Value} {base : Heap}
theorem sc__law_labels : FnScope ["_law_base", "_law_pairs", "_law_labels_here", "_law_lap", "_law_keys", "_law_s", "_law_late", "_law_told", "_law_firsts", "_law_key"] ["_law_base"] (defScope s__law_labels) := ⟨rfl, rfl, rfl, by decide +kernel, rfl, by decide +kernel, by decide +kernel⟩
def G_labels (ds : List PyData) (F : List PyData → Prop) : Prop := ∃ (m : Mc) (wd : Nat), ds = [eM m] ∧ Ok m wd ∧ F ((cls m).map eI)
theorem o_labels (fr : Fre mg) (D : Df K mg "_law_labels" s__law_labels [] []) : Own P w K mg base 1 "_law_labels" [] (spL 1 G_labels) := by
  refine Df.own (ps := ["_law_base"]) D (fun f fd F => okL F sc__law_labels rfl fun cdv A outer s H E hr => ?_) fun _ _ _ _ _ _ us hl => match us, hl with | [_], _ => rfl
  have nd := sc__law_labels.nd
  have hu := hr.units
  have hu1 := hu_of hr
  have hu5 := Room.units65 hr
  refine ⟨_, _, (dseq (dset 2 nd (PLd.v (lcT (dv 0) (plc (own := [("_law_pairs", 1)]) rfl nd (blkOk_by (by kernel_rfl)) (fun _ _ _ _ _ => (gname 1 nd)) (by decide) (fun _ _ _ _ _ => yes) (fun _ _ _ _ _ => dint))))) (dseq (dforR PassesOwn.never rfl (by rfl) fr.range (acons (dadd (dlen (by rfl) fr.len (dv 0)) dint) anil) (gname 3 nd) (dseq (dset 4 nd (PLd.v (ldisp anil))) (dseq (dforR PassesOwn.never rfl (by rfl) fr.range (acons (dlen (by rfl) fr.len (dv 0)) anil) (gname 5 nd) (dlast (dappend 4 (dtup (acons (dix (dv 2) (dv 5)) (acons (dtupOfL (by rfl) fr.tuple (lcT (dix (dv 0) (dv 5)) (plc (own := [("_law_late", 6), ("_law_told", 7)]) rfl nd (blkOk_by (by kernel_rfl)) (fun _ _ _ _ _ => (gtup (n := 2) rfl (gcons (gname 6 nd) (gcons (gname 7 nd) gnil)))) (by decide) (fun _ _ _ _ _ => yes) (fun _ _ _ _ _ => (dtup (acons (dix (dv 2) (dv 6)) (acons (dv 7) anil))))))) anil)))))) (dseq (dset 8 nd (PLd.v (ldisp anil))) (dseq (dforV 4 PassesOwn.never rfl (gname 9 nd) (dlast (difS (tnin hu5 (dv 9) (dv 8)) (dlast (dappend 8 (dv 9))) dnil))) (dlast (dset 2 nd (PLd.v (lcL (dv 4) (plc (own := [("_law_key", 9)]) rfl nd (blkOk_by (by kernel_rfl)) (fun _ _ _ _ _ => (gname 9 nd)) (by decide) (fun _ _ _ _ _ => yes) (fun _ _ _ _ _ => (dindexL hu5 (dv 8) (dv 9))))))))))))) (dlast (dretV 2)))), fun as Fp hl hG => ?_⟩
  obtain ⟨m, wd, rfl, o, hf⟩ := hG
  have hm5 := o.small
  have hw4 := o.wsmall
  refine ⟨_, _, rfl, rfl, _, rfl, by rw [List.length_map]; omega, dColl_one (zs := m) (enc := eR) (fun _ => eI 0) (fun r hr R hR => ⟨noL_eR r, rfl, hR⟩) ⟨noLs_map _ _ fun _ _ => rfl, fun p0 => ?_⟩⟩
  have e0 : (m.map fun _ => eI 0) = (List.replicate m.length 0).map eI := by
    rw [List.map_const', List.map_replicate]
  refine ⟨_, _, rfl, rfl, _, m.map eR, rfl, rfl, _, _, rfl, rfl, m.length + 1, by rw [List.length_map]; rfl, by omega, fun i τ => ∃ p x3 x4 x5 x8 x9, τ = [some (.d (eM m)), none, some (.l p ((iter (stepL m) i (List.replicate m.length 0)).map eI)), x3, x4, x5, none, none, x8, x9], ⟨p0, none, none, none, none, none, by rw [e0]; rfl⟩, fun _ _ _ _ => trivial, fun i x τ' hx hw => ?_, fun τ' hw => ?_⟩
  · obtain ⟨p, x3, x4, x5, x8, x9, rfl⟩ := hw
    have hil : i < m.length + 1 := by
      have := (List.getElem?_eq_some_iff.mp hx).1
      rw [rgD_len] at this
      exact this
    rw [rgD_at hil] at hx
    cases hx
    have hLl := iter_len m i
    generalize hL : iter (stepL m) i (List.replicate m.length 0) = L at hLl
    have hkl : (keysL m L).length = m.length := by unfold keysL; rw [List.length_map, List.length_range]
    refine ⟨rfl, Nat.zero_le _, rfl, rfl, fun pk => ⟨_, _, rfl, rfl, _, m.map eR, rfl, rfl, m.length, by rw [List.length_map], by omega, fun j τ => ∃ x5, τ = [some (.d (eM m)), none, some (.l p (L.map eI)), some (.d (eI i)), some (.l pk (((keysL m L).take j).map eKL)), x5, none, none, x8, x9], ⟨x5, rfl⟩, fun _ _ _ _ => trivial, fun j x τ' hx hw => ?_, fun τ' hw => ?_⟩⟩
    · obtain ⟨x5, rfl⟩ := hw
      have hjl : j < m.length := by
        have := (List.getElem?_eq_some_iff.mp hx).1
        rw [rgD_len] at this
        exact this
      rw [rgD_at hjl] at hx
      cases hx
      have htk : (keysL m L).take (j + 1) = (keysL m L).take j ++ [(L.getD j 0, (row m j).map fun p => (L.getD p.1 0, p.2))] := by
        rw [List.take_add_one]
        congr 1
        unfold keysL
        rw [List.getElem?_map, List.getElem?_range hjl]
        rfl
      have eX : eKL (L.getD j 0, (row m j).map fun p => (L.getD p.1 0, p.2)) = .tuple [eI (L.getD j 0), .tuple ((row m j).map fun p => eP (L.getD p.1 0, p.2))] := by
        unfold eKL eR
        rw [List.map_map]
        rfl
      refine ⟨rfl, pk, _, rfl, by rw [List.length_map, List.length_take]; omega, _, _, rfl, rfl, _, _, rfl, rfl, dIx_nat rfl (at_eS (by omega)) ⟨_, _, rfl, rfl, _, _, rfl, rfl, dIx_nat rfl (at_eM hjl) ⟨_, rfl, ?_, dColl_one (zs := row m j) (enc := eP) (fun p => eP (L.getD p.1 0, p.2)) (fun q hq R hR => dg2 rfl rfl ⟨_, _, rfl, rfl, _, _, rfl, rfl, dIx_nat rfl (at_eS ?_) ⟨_, _, rfl, rfl, by show 2 ≤ 100000; decide, rfl, rfl, hR⟩⟩) ⟨by show 2 ≤ 100000; decide, rfl, ?_, ?_⟩⟩⟩⟩
      · rw [List.length_map, o.row_len hjl]
        omega
      · rw [hLl]
        exact o.nxt _ (row_mem hjl) q hq
      · rw [← eX]
        exact noL_eKL _
      · refine ⟨some (.d (eI j)), ?_⟩
        rw [htk, List.map_append, List.map_cons, List.map_nil, eX]
        rfl
    · obtain ⟨x5, rfl⟩ := hw
      rw [rgD_len, List.take_of_length_le (by omega)]
      refine ⟨Nat.zero_le _, rfl, rfl, fun pf => ⟨pk, _, rfl, fun j τ => ∃ x9, τ = [some (.d (eM m)), none, some (.l p (L.map eI)), some (.d (eI i)), some (.l pk ((keysL m L).map eKL)), x5, none, none, some (.l pf ((firsts ((keysL m L).take j)).map eKL)), x9], ⟨x9, rfl⟩, fun j τ' _ hw => ?_, fun j y τ' hy hw => ?_, fun τ' hw => ?_⟩⟩
      · obtain ⟨x9, rfl⟩ := hw
        rfl
      · obtain ⟨x9, rfl⟩ := hw
        rw [List.getElem?_map] at hy
        cases e : (keysL m L)[j]? with
        | none => rw [e] at hy; cases hy
        | some k =>
          rw [e] at hy
          cases hy
          have htk : (keysL m L).take (j + 1) = (keysL m L).take j ++ [k] := by rw [List.take_add_one, e]; rfl
          have hfl : (firsts ((keysL m L).take j)).length ≤ 5 := by
            have := firsts_len ((keysL m L).take j)
            rw [List.length_take] at this
            omega
          refine ⟨noL_eKL k, _, _, rfl, rfl, _, _, rfl, rfl, _, rfl, noF_noL (noL_eKL k), shaped_eKL k, shaped_eKLs _, _, rfl, ?_⟩
          rw [if_pos rfl]
          by_cases hin : k ∈ firsts ((keysL m L).take j)
          · rw [any_in pure_eKL eKL_inj hin]
            exact ⟨some (.d (eKL k)), by rw [htk, firsts_snoc, if_pos hin]; rfl⟩
          · rw [any_out pure_eKL eKL_inj hin]
            exact ⟨pf, _, rfl, by rw [List.length_map]; omega, _, _, rfl, rfl, noL_eKL k, some (.d (eKL k)), by rw [htk, firsts_snoc, if_neg hin, List.map_append]; rfl⟩
      · obtain ⟨x9, rfl⟩ := hw
        rw [List.length_map, List.take_length]
        refine ⟨_, _, rfl, rfl, _, rfl, by rw [List.length_map]; omega, dColl_one (zs := keysL m L) (enc := eKL) (fun k => eI (numbIx (keysL m L) k)) (fun k hk R hR => ?_) ⟨noLs_map _ _ fun _ _ => rfl, fun p2 => ?_⟩⟩
        · obtain ⟨h1, h2, h3⟩ := index_inj pure_eKL eKL_inj (firsts (keysL m L)) k ((firsts_mem _ _).mpr hk)
          exact ⟨noL_eKL k, _, _, rfl, rfl, _, rfl, _, _, rfl, rfl, _, _, noF_noL (noL_eKL k), shaped_eKLs _, shaped_eKL k, h1, h2, h3, rfl, hR⟩
        · refine ⟨p2, some (.d (eI i)), some (.l pk ((keysL m L).map eKL)), x5, some (.l pf ((firsts (keysL m L)).map eKL)), x9, ?_⟩
          have e9 : (keysL m L).map (fun k => eI (numbIx (keysL m L) k)) = (iter (stepL m) (i + 1) (List.replicate m.length 0)).map eI := by
            show _ = (stepL m (iter (stepL m) i (List.replicate m.length 0))).map eI
            rw [hL]
            unfold stepL
            rw [numb_ix, List.map_map]
            rfl
          rw [← e9]
          rfl
  · obtain ⟨p, x3, x4, x5, x8, x9, rfl⟩ := hw
    rw [rgD_len]
    exact ⟨p, _, rfl, hf⟩
theorem sc__law_merged : FnScope ["_law_base", "_law_labels_here", "_law_k", "_law_heads", "_law_s", "_law_late", "_law_told"] ["_law_base", "_law_labels_here"] (defScope s__law_merged) := ⟨rfl, rfl, rfl, by decide +kernel, rfl, by decide +kernel, by decide +kernel⟩
def G_lmerged (ds : List PyData) (F : PyData → Prop) : Prop := ∃ (m : Mc) (wd : Nat), ds = [eM m, .list ((cls m).map eI)] ∧ Ok m wd ∧ F (eM (Wk.mg m))
theorem o_lmerged (fr : Fre mg) (D : Df K mg "_law_merged" s__law_merged [] []) : Own P w K mg base 1 "_law_merged" [] (spD 2 G_lmerged) := by
  refine Df.own (ps := ["_law_base", "_law_labels_here"]) D (fun f fd F => okD F sc__law_merged rfl fun cdv A outer s H E hr => ?_) fun _ _ _ _ _ _ us hl => match us, hl with | [_, _], _ => rfl
  have nd := sc__law_merged.nd
  have hu := hr.units
  have hu1 := hu_of hr
  have hu5 := Room.units65 hr
  refine ⟨_, _, (dseq (dsetR 3 (by rfl) fr.range (acons (dadd (dmax rfl (by rfl) fr.max (dv 1)) dint) anil) (plc (own := [("_law_k", 2)]) rfl nd (blkOk_by (by kernel_rfl)) (fun _ _ _ _ _ => (gname 2 nd)) (by decide) (fun _ _ _ _ _ => yes) (fun _ _ _ _ _ => (dindexL hu5 (dv 1) (dv 2))))) (dlast (dret (dtupOfL (by rfl) fr.tuple (lcL (dv 3) (plc (own := [("_law_s", 4)]) rfl nd (blkOk_by (by kernel_rfl)) (fun _ _ _ _ _ => (gname 4 nd)) (by decide) (fun _ _ _ _ _ => yes) (fun _ _ _ _ _ => (dtupOfL (by rfl) fr.tuple (lcT (dix (dv 0) (dv 4)) (plc (own := [("_law_late", 5), ("_law_told", 6)]) rfl nd (blkOk_by (by kernel_rfl)) (fun _ _ _ _ _ => (gtup (n := 2) rfl (gcons (gname 5 nd) (gcons (gname 6 nd) gnil)))) (by decide) (fun _ _ _ _ _ => yes) (fun _ _ _ _ _ => (dtup (acons (dix (dv 1) (dv 5)) (acons (dv 6) anil)))))))))))))), fun as Fp hl hG => ?_⟩
  obtain ⟨m, wd, rfl, o, hf⟩ := hG
  have hm5 := o.small
  have hc := cls_can o
  have hcl := cls_len m
  have hn : nC (cls m) ≤ 5 := by
    have := mg_le o
    rw [mg_len] at this
    omega
  have hn0 : 0 < nC (cls m) := by
    have := mg_pos o
    rw [mg_len] at this
    exact this
  refine ⟨_, _, rfl, rfl, (cls m).map fun n => ((n : Nat) : Int), by rw [eI_ints], by rw [List.length_map]; have := o.ne; omega, fun k hk hmax => ⟨_, _, rfl, rfl, nC (cls m), ?_, by omega, ?_⟩⟩
  · obtain ⟨v, hv, rfl⟩ := List.mem_map.mp hk
    have h1 := hmax ((nC (cls m) - 1 : Nat) : Int) (List.mem_map.mpr ⟨nC (cls m) - 1, hc.lt.mpr (by show _ < nC (cls m); omega), rfl⟩)
    have h2 : v < nC (cls m) := hc.lt.mp hv
    show [PyData.int (((v : Nat) : Int) + 1)] = [PyData.int ((nC (cls m) : Nat) : Int)]
    rw [show ((v : Nat) : Int) + 1 = ((nC (cls m) : Nat) : Int) by omega]
  · refine dColl_one (zs := List.range (nC (cls m))) (enc := eI) (fun k => eI ((cls m).idxOf k)) (fun k hk R hR => ?_) ⟨noLs_map _ _ fun _ _ => rfl, fun p => ?_⟩
    · obtain ⟨h1, h2, h3⟩ := index_inj (f := eI) (fun _ => rfl) (fun _ _ => eI_inj) (cls m) k (hc.lt.mpr (List.mem_range.mp hk))
      exact ⟨rfl, _, _, rfl, rfl, _, rfl, _, _, rfl, rfl, _, _, rfl, shaped_eIs _, shaped_eI k, h1, h2, h3, rfl, hR⟩
    · refine ⟨_, _, rfl, rfl, _, rfl, by rw [List.length_map, List.length_range]; omega, dColl_one (zs := List.range (nC (cls m))) (enc := fun k => eI ((cls m).idxOf k)) (fun k => eR ((row m ((cls m).idxOf k)).map fun p => (cl m p.1, p.2))) (fun k hk R hR => ?_) ?_⟩
      · have hi : (cls m).idxOf k < m.length := by
          rw [← hcl]
          exact List.idxOf_lt_length_iff.mpr (hc.lt.mpr (List.mem_range.mp hk))
        refine ⟨rfl, _, _, rfl, rfl, _, _, rfl, rfl, dIx_nat rfl (at_eM hi) ⟨_, rfl, ?_, dColl_one (zs := row m ((cls m).idxOf k)) (enc := eP) (fun p => eP (cl m p.1, p.2)) (fun p hp R2 hR2 => dg2 rfl rfl ⟨_, _, rfl, rfl, _, _, rfl, rfl, dIx_nat rfl (at_eS ?_) ⟨_, _, rfl, rfl, by show 2 ≤ 100000; decide, rfl, rfl, hR2⟩⟩) ⟨noLs_map _ _ fun _ _ => rfl, ?_⟩⟩⟩
        · rw [List.length_map, o.row_len hi]
          have := o.wsmall
          omega
        · rw [hcl]
          exact o.nxt _ (row_mem hi) p hp
        · have e : eR ((row m ((cls m).idxOf k)).map fun p => (cl m p.1, p.2)) = .tuple ((row m ((cls m).idxOf k)).map fun p => eP (cl m p.1, p.2)) := by
            unfold eR
            rw [List.map_map]
            rfl
          rw [← e]
          exact hR
      · have e : eM (Wk.mg m) = .tuple ((List.range (nC (cls m))).map fun k => eR ((row m ((cls m).idxOf k)).map fun p => (cl m p.1, p.2))) := by
          unfold eM Wk.mg
          rw [List.map_map]
          rfl
        rw [← e]
        exact hf
end
end Wk
end

section
set_option Elab.async false
set_option linter.all false
set_option maxRecDepth 100000
set_option maxHeartbeats 8000000
set_option pp.maxSteps 1500
namespace Wk
open PySem PySem.Spec PyProof.Rows L2
theorem ints_back : ∀ {rs : List Int} {xs : List Nat}, (∀ r ∈ rs, r ∈ xs.map fun n => ((n : Nat) : Int)) → ∃ zs : List Nat, rs = zs.map (fun n => ((n : Nat) : Int)) ∧ ∀ z ∈ zs, z ∈ xs
  | [], _, _ => ⟨[], rfl, fun z hz => by simp at hz⟩
  | r :: rs, xs, h => by
    obtain ⟨zs, rfl, hz⟩ := ints_back (rs := rs) (xs := xs) fun q hq => h q (List.mem_cons_of_mem _ hq)
    obtain ⟨n, hn, rfl⟩ := List.mem_map.mp (h r (List.mem_cons_self ..))
    exact ⟨n :: zs, rfl, fun z hz2 => by
      rcases List.mem_cons.mp hz2 with rfl | h2
      · exact hn
      · exact hz z h2⟩
section
variable {P : Program} {w : World} {K : PySem.W.Frag} {mg : Str → Option Value} {base : Heap}
theorem sc__law_from : FnScope ["_law_base", "_law_start", "_law_found", "_law_k", "_law_late", "_law_told"] ["_law_base", "_law_start"] (defScope s__law_from) := ⟨rfl, rfl, rfl, by decide +kernel, rfl, by decide +kernel, by decide +kernel⟩
def G_from (ds : List PyData) (F : PyData → Prop) : Prop := ∃ (m : Mc) (wd s : Nat), ds = [eM m, eI s] ∧ Ok m wd ∧ s < m.length ∧ F (eS (reach m s))
theorem o_from (fr : Fre mg) (D : Df K mg "_law_from" s__law_from [] []) : Own P w K mg base 1 "_law_from" [] (spD 2 G_from) := by
  refine Df.own (ps := ["_law_base", "_law_start"]) D (fun f fd F => okD F sc__law_from rfl fun cdv A outer s H E hr => ?_) fun _ _ _ _ _ _ us hl => match us, hl with | [_, _], _ => rfl
  have nd := sc__law_from.nd
  have hu := hr.units
  have hu1 := hu_of hr
  have hu5 := Room.units65 hr
  refine ⟨_, _, (dseq (dset 2 nd (PLd.v (ldisp (acons (dv 1) anil)))) (dseq (dforR PassesOwn.never rfl (by rfl) fr.range (acons (dlen (by rfl) fr.len (dv 0)) anil) (gname 3 nd) (dlast (difS (tlt (dv 3) (dlen (by rfl) fr.len (dv 2))) (dlast (dforT PassesOwn.never rfl (dix (dv 0) (dix (dv 2) (dv 3))) (gtup (n := 2) rfl (gcons (gname 4 nd) (gcons (gname 5 nd) gnil))) (dlast (difS (tnin hu5 (dv 4) (dv 2)) (dlast (dappend 2 (dv 4))) dnil)))) dnil))) (dlast (dret (dtupOfL (by rfl) fr.tuple (lsort0 rfl hu (by rfl) fr.sorted (dv 2))))))), fun as Fp hl hG => ?_⟩
  obtain ⟨m, wd, s, rfl, o, hs, hf⟩ := hG
  have hm5 := o.small
  refine ⟨_, _, rfl, rfl, by show 1 ≤ 100000; decide, rfl, rfl, fun p => ⟨_, _, rfl, rfl, _, m.map eR, rfl, rfl, m.length, by rw [List.length_map], by omega, fun k τ => ∃ x3 x4 x5, τ = [some (.d (eM m)), some (.d (eI s)), some (.l p ((ordK m s k).map eI)), x3, x4, x5], ⟨none, none, none, rfl⟩, fun _ _ _ _ => trivial, fun k x τ' hx hw => ?_, fun τ' hw => ?_⟩⟩
  · obtain ⟨x3, x4, x5, rfl⟩ := hw
    have hkl : k < m.length := by
      have := (List.getElem?_eq_some_iff.mp hx).1
      rw [rgD_len] at this
      exact this
    rw [rgD_at hkl] at hx
    cases hx
    have hol := ordK_len o hs k
    refine ⟨rfl, _, _, rfl, rfl, _, _, rfl, rfl, _, _, rfl, rfl, _, _, rfl, rfl, _, rfl, ?_⟩
    rw [List.length_map]
    by_cases c : k < (ordK m s k).length
    · rw [decide_eq_true (show ((k : Nat) : Int) < ((ordK m s k).length : Nat) by omega)]
      have hat : ((ordK m s k).map eI)[k]? = some (eI ((ordK m s k).getD k 0)) := at_eS c
      have hkm : (ordK m s k).getD k 0 < m.length := by
        rw [getD_at c]
        exact ordK_lt o hs k _ (List.getElem_mem c)
      refine ⟨_, _, rfl, rfl, _, _, rfl, rfl, _, _, rfl, rfl, dIx_nat rfl hat (dIx_nat rfl (at_eM hkm) ⟨_, rfl, noLs_map _ _ fun _ _ => rfl, ?_⟩)⟩
      refine ⟨fun i τ => ∃ x4 x5, τ = [some (.d (eM m)), some (.d (eI s)), some (.l p ((pushAll (ordK m s k) ((row m ((ordK m s k).getD k 0)).take i)).map eI)), some (.d (eI k)), x4, x5], ⟨x4, x5, rfl⟩, fun _ _ _ _ => trivial, fun i x τ' hx hw => ?_, fun τ' hw => ?_⟩
      · obtain ⟨y4, y5, rfl⟩ := hw
        rw [List.getElem?_map] at hx
        cases e : (row m ((ordK m s k).getD k 0))[i]? with
        | none => rw [e] at hx; cases hx
        | some q =>
          rw [e] at hx
          cases hx
          have htake : (row m ((ordK m s k).getD k 0)).take (i + 1) = (row m ((ordK m s k).getD k 0)).take i ++ [q] := by rw [List.take_add_one, e]; rfl
          have hpl : ∀ t ∈ pushAll (ordK m s k) ((row m ((ordK m s k).getD k 0)).take i), t < m.length := fun t ht => by
            rcases (pushAll_mem _ _ t).mp ht with h | ⟨q2, h2, rfl⟩
            · exact ordK_lt o hs k t h
            · exact o.nxt _ (row_mem hkm) _ (List.mem_of_mem_take h2)
          have hpn : (pushAll (ordK m s k) ((row m ((ordK m s k).getD k 0)).take i)).length ≤ m.length := by
            have := nodup_len_le _ (List.range m.length) (pushAll_nodup ((row m ((ordK m s k).getD k 0)).take i) _ (ordK_nodup m s k)) fun t ht => List.mem_range.mpr (hpl t ht)
            rw [List.length_range] at this
            exact this
          refine dg2 rfl rfl ⟨_, _, rfl, rfl, _, _, rfl, rfl, _, rfl, rfl, shaped_eI _, shaped_eIs _, _, rfl, ?_⟩
          rw [if_pos rfl, any_eI]
          by_cases hin : q.1 ∈ pushAll (ordK m s k) ((row m ((ordK m s k).getD k 0)).take i)
          · rw [decide_eq_true hin]
            exact ⟨some (.d (eI q.1)), some (.d (eI q.2)), by rw [htake, pushAll_snoc, if_pos hin]; rfl⟩
          · rw [decide_eq_false hin]
            exact ⟨p, _, rfl, by rw [List.length_map]; omega, _, _, rfl, rfl, rfl, some (.d (eI q.1)), some (.d (eI q.2)), by rw [htake, pushAll_snoc, if_neg hin, List.map_append]; rfl⟩
      · obtain ⟨y4, y5, rfl⟩ := hw
        rw [List.length_map, List.take_length]
        exact ⟨some (.d (eI k)), y4, y5, by rw [show ordK m s (k + 1) = pushAll (ordK m s k) (row m ((ordK m s k).getD k 0)) by rw [ordK, if_pos c]]⟩
    · rw [decide_eq_false (show ¬ ((k : Nat) : Int) < ((ordK m s k).length : Nat) by omega)]
      exact ⟨some (.d (eI k)), x4, x5, by rw [show ordK m s (k + 1) = ordK m s k by rw [ordK, if_neg c]]; rfl⟩
  · obtain ⟨x3, x4, x5, rfl⟩ := hw
    rw [rgD_len, show ordK m s m.length = ord m s from rfl]
    have hol : (ord m s).length ≤ m.length := ordK_len o hs m.length
    have hlt : ∀ t ∈ ord m s, t < m.length := ordK_lt o hs m.length
    have hnd : (ord m s).Nodup := ordK_nodup m s m.length
    refine ⟨_, _, rfl, rfl, (ord m s).map fun n => ((n : Nat) : Int), by rw [eI_ints], fun rs hp hs2 => ?_⟩
    obtain ⟨xs, rfl, h3⟩ := ints_back (xs := ord m s) fun r hr => hp.subset hr
    have h4 : xs = reach m s := by
      refine eq_setN ?_ (fun x => ?_) hlt
      · have hxn : xs.Nodup := by
          have h5 : (xs.map fun n => ((n : Nat) : Int)).Nodup := hp.nodup_iff.mpr (hnd.map (fun n => ((n : Nat) : Int)) fun a b hab => fun e => hab (by omega))
          exact (List.pairwise_map.mp h5).imp fun h e => h (by rw [e])
        have h6 := List.pairwise_map.mp hs2
        exact (h6.and hxn).imp fun h => by omega
      · constructor
        · exact h3 x
        · intro hx
          have := hp.mem_iff.mpr (List.mem_map.mpr ⟨x, hx, rfl⟩)
          obtain ⟨y, hy, e⟩ := List.mem_map.mp this
          have : y = x := by omega
          rw [← this]
          exact hy
    rw [h4, ← eI_ints]
    exact hf
theorem sc__law_numbered : FnScope ["_law_base", "_law_start", "_law_order", "_law_k", "_law_late", "_law_told", "_law_s"] ["_law_base", "_law_start"] (defScope s__law_numbered) := ⟨rfl, rfl, rfl, by decide +kernel, rfl, by decide +kernel, by decide +kernel⟩
def G_lnumb (ds : List PyData) (F : PyData → Prop) : Prop := ∃ (m : Mc) (wd s : Nat), ds = [eM m, eI s] ∧ Ok m wd ∧ s < m.length ∧ F (eM (numbered m s))
theorem o_lnumb (fr : Fre mg) (D : Df K mg "_law_numbered" s__law_numbered [] []) : Own P w K mg base 1 "_law_numbered" [] (spD 2 G_lnumb) := by
  refine Df.own (ps := ["_law_base", "_law_start"]) D (fun f fd F => okD F sc__law_numbered rfl fun cdv A outer s H E hr => ?_) fun _ _ _ _ _ _ us hl => match us, hl with | [_, _], _ => rfl
  have nd := sc__law_numbered.nd
  have hu := hr.units
  have hu1 := hu_of hr
  have hu5 := Room.units65 hr
  refine ⟨_, _, (dseq (dset 2 nd (PLd.v (ldisp (acons (dv 1) anil)))) (dseq (dforR PassesOwn.never rfl (by rfl) fr.range (acons (dlen (by rfl) fr.len (dv 0)) anil) (gname 3 nd) (dlast (difS (tlt (dv 3) (dlen (by rfl) fr.len (dv 2))) (dlast (dforT PassesOwn.never rfl (dix (dv 0) (dix (dv 2) (dv 3))) (gtup (n := 2) rfl (gcons (gname 4 nd) (gcons (gname 5 nd) gnil))) (dlast (difS (tnin hu5 (dv 4) (dv 2)) (dlast (dappend 2 (dv 4))) dnil)))) dnil))) (dlast (dret (dtupOfL (by rfl) fr.tuple (lcL (dv 2) (plc (own := [("_law_s", 6)]) rfl nd (blkOk_by (by kernel_rfl)) (fun _ _ _ _ _ => (gname 6 nd)) (by decide) (fun _ _ _ _ _ => yes) (fun _ _ _ _ _ => (dtupOfL (by rfl) fr.tuple (lcT (dix (dv 0) (dv 6)) (plc (own := [("_law_late", 4), ("_law_told", 5)]) rfl nd (blkOk_by (by kernel_rfl)) (fun _ _ _ _ _ => (gtup (n := 2) rfl (gcons (gname 4 nd) (gcons (gname 5 nd) gnil)))) (by decide) (fun _ _ _ _ _ => yes) (fun _ _ _ _ _ => (dtup (acons (dindexL hu5 (dv 2) (dv 4)) (acons (dv 5) anil))))))))))))))), fun as Fp hl hG => ?_⟩
  obtain ⟨m, wd, s, rfl, o, hs, hf⟩ := hG
  have hm5 := o.small
  refine ⟨_, _, rfl, rfl, by show 1 ≤ 100000; decide, rfl, rfl, fun p => ⟨_, _, rfl, rfl, _, m.map eR, rfl, rfl, m.length, by rw [List.length_map], by omega, fun k τ => ∃ x3 x4 x5, τ = [some (.d (eM m)), some (.d (eI s)), some (.l p ((ordK m s k).map eI)), x3, x4, x5, none], ⟨none, none, none, rfl⟩, fun _ _ _ _ => trivial, fun k x τ' hx hw => ?_, fun τ' hw => ?_⟩⟩
  · obtain ⟨x3, x4, x5, rfl⟩ := hw
    have hkl : k < m.length := by
      have := (List.getElem?_eq_some_iff.mp hx).1
      rw [rgD_len] at this
      exact this
    rw [rgD_at hkl] at hx
    cases hx
    have hol := ordK_len o hs k
    refine ⟨rfl, _, _, rfl, rfl, _, _, rfl, rfl, _, _, rfl, rfl, _, _, rfl, rfl, _, rfl, ?_⟩
    rw [List.length_map]
    by_cases c : k < (ordK m s k).length
    · rw [decide_eq_true (show ((k : Nat) : Int) < ((ordK m s k).length : Nat) by omega)]
      have hat : ((ordK m s k).map eI)[k]? = some (eI ((ordK m s k).getD k 0)) := at_eS c
      have hkm : (ordK m s k).getD k 0 < m.length := by
        rw [getD_at c]
        exact ordK_lt o hs k _ (List.getElem_mem c)
      refine ⟨_, _, rfl, rfl, _, _, rfl, rfl, _, _, rfl, rfl, dIx_nat rfl hat (dIx_nat rfl (at_eM hkm) ⟨_, rfl, noLs_map _ _ fun _ _ => rfl, ?_⟩)⟩
      refine ⟨fun i τ => ∃ x4 x5, τ = [some (.d (eM m)), some (.d (eI s)), some (.l p ((pushAll (ordK m s k) ((row m ((ordK m s k).getD k 0)).take i)).map eI)), some (.d (eI k)), x4, x5, none], ⟨x4, x5, rfl⟩, fun _ _ _ _ => trivial, fun i x τ' hx hw => ?_, fun τ' hw => ?_⟩
      · obtain ⟨y4, y5, rfl⟩ := hw
        rw [List.getElem?_map] at hx
        cases e : (row m ((ordK m s k).getD k 0))[i]? with
        | none => rw [e] at hx; cases hx
        | some q =>
          rw [e] at hx
          cases hx
          have htake : (row m ((ordK m s k).getD k 0)).take (i + 1) = (row m ((ordK m s k).getD k 0)).take i ++ [q] := by rw [List.take_add_one, e]; rfl
          have hpl : ∀ t ∈ pushAll (ordK m s k) ((row m ((ordK m s k).getD k 0)).take i), t < m.length := fun t ht => by
            rcases (pushAll_mem _ _ t).mp ht with h | ⟨q2, h2, rfl⟩
            · exact ordK_lt o hs k t h
            · exact o.nxt _ (row_mem hkm) _ (List.mem_of_mem_take h2)
          have hpn : (pushAll (ordK m s k) ((row m ((ordK m s k).getD k 0)).take i)).length ≤ m.length := by
            have := nodup_len_le _ (List.range m.length) (pushAll_nodup ((row m ((ordK m s k).getD k 0)).take i) _ (ordK_nodup m s k)) fun t ht => List.mem_range.mpr (hpl t ht)
            rw [List.length_range] at this
            exact this
          refine dg2 rfl rfl ⟨_, _, rfl, rfl, _, _, rfl, rfl, _, rfl, rfl, shaped_eI _, shaped_eIs _, _, rfl, ?_⟩
          rw [if_pos rfl, any_eI]
          by_cases hin : q.1 ∈ pushAll (ordK m s k) ((row m ((ordK m s k).getD k 0)).take i)
          · rw [decide_eq_true hin]
            exact ⟨some (.d (eI q.1)), some (.d (eI q.2)), by rw [htake, pushAll_snoc, if_pos hin]; rfl⟩
          · rw [decide_eq_false hin]
            exact ⟨p, _, rfl, by rw [List.length_map]; omega, _, _, rfl, rfl, rfl, some (.d (eI q.1)), some (.d (eI q.2)), by rw [htake, pushAll_snoc, if_neg hin, List.map_append]; rfl⟩
      · obtain ⟨y4, y5, rfl⟩ := hw
        rw [List.length_map, List.take_length]
        exact ⟨some (.d (eI k)), y4, y5, by rw [show ordK m s (k + 1) = pushAll (ordK m s k) (row m ((ordK m s k).getD k 0)) by rw [ordK, if_pos c]]⟩
    · rw [decide_eq_false (show ¬ ((k : Nat) : Int) < ((ordK m s k).length : Nat) by omega)]
      exact ⟨some (.d (eI k)), x4, x5, by rw [show ordK m s (k + 1) = ordK m s k by rw [ordK, if_neg c]]; rfl⟩
  · obtain ⟨x3, x4, x5, rfl⟩ := hw
    rw [rgD_len, show ordK m s m.length = ord m s from rfl]
    have hol : (ord m s).length ≤ m.length := ordK_len o hs m.length
    have hlt : ∀ t ∈ ord m s, t < m.length := ordK_lt o hs m.length
    have hnd : (ord m s).Nodup := ordK_nodup m s m.length
    refine ⟨_, _, rfl, rfl, _, rfl, by rw [List.length_map]; omega, dColl_one (zs := ord m s) (enc := eI) (fun t => eR ((row m t).map fun q => ((ord m s).idxOf q.1, q.2))) (fun t ht R hR => ⟨rfl, _, _, rfl, rfl, _, _, rfl, rfl, dIx_nat rfl (at_eM (hlt t ht)) ⟨_, rfl, ?_, dColl_one (zs := row m t) (enc := eP) (fun q => eP ((ord m s).idxOf q.1, q.2)) (fun q hq R2 hR2 => dg2 rfl rfl ?_) ⟨noLs_map _ _ fun _ _ => rfl, ?_⟩⟩⟩) ?_⟩
    · rw [List.length_map, o.row_len (hlt t ht)]
      have := o.wsmall
      omega
    · have hin : q.1 ∈ ord m s := by
        obtain ⟨x, hx, rfl⟩ := (o.mem_row (hlt t ht)).mp hq
        exact ord_closed o hs ht hx
      obtain ⟨h1, h2, h3⟩ := index_inj (f := eI) (fun _ => rfl) (fun _ _ => eI_inj) (ord m s) q.1 hin
      exact ⟨_, _, rfl, rfl, _, rfl, _, _, rfl, rfl, _, _, rfl, shaped_eIs _, shaped_eI _, h1, h2, h3, _, _, rfl, rfl, by show 2 ≤ 100000; decide, rfl, rfl, hR2⟩
    · have e : eR ((row m t).map fun q => ((ord m s).idxOf q.1, q.2)) = .tuple ((row m t).map fun q => eP ((ord m s).idxOf q.1, q.2)) := by
        unfold eR
        rw [List.map_map]
        rfl
      rw [← e]
      exact hR
    · have e : eM (numbered m s) = .tuple ((ord m s).map fun t => eR ((row m t).map fun q => ((ord m s).idxOf q.1, q.2))) := by
        unfold eM numbered
        rw [List.map_map]
        rfl
      rw [← e]
      exact hf
def eOM (o : Option Mc) : PyData := match o with
  | none => .none
  | some c => eM c
theorem noL_eOM (o : Option Mc) : noL (eOM o) = true := by
  cases o with
  | none => rfl
  | some c => exact noL_eM c
theorem eqv_nil (l : List PyData) : PyData.eqv (.list l) (.list []) = l.isEmpty := by
  cases l <;> rfl
theorem min_lst {l : List Mc} {d : PyData} (h : d ∈ l.map eM) (hm : ∀ e ∈ l.map eM, PySem.W.dataLt e d = false) : d = eM (lst leM l) := by
  obtain ⟨c, hc, rfl⟩ := List.mem_map.mp h
  rw [lst_unique leM_ok hc fun y hy => ?_]
  have := hm _ (List.mem_map.mpr ⟨y, hy, rfl⟩)
  show (!PySem.W.dataLt (eM y) (eM c)) = true
  rw [this]
  rfl
theorem good_flt (p : Mc) (k : Nat) : (((reach p k).filter fun t => !decide (reach p t = reach p k)).map eI).isEmpty = good p k := by
  rw [List.isEmpty_map, Bool.eq_iff_iff, List.isEmpty_iff, List.filter_eq_nil_iff]
  unfold good
  rw [List.all_eq_true]
  constructor
  · intro h t ht
    have := h t ht
    cases e : decide (reach p t = reach p k) with
    | true => rfl
    | false => rw [e] at this; exact absurd rfl this
  · intro h t ht
    rw [h t ht]
    simp
theorem sc__law_core_at : FnScope ["_law_base", "_law_labels_here", "_law_small", "_law_found", "_law_k", "_law_ways", "_law_late", "_law_label"] ["_law_base"] (defScope s__law_core_at) := ⟨rfl, rfl, rfl, by decide +kernel, rfl, by decide +kernel, by decide +kernel⟩
def G_coreAt (ds : List PyData) (F : List PyData → Prop) : Prop := ∃ (m : Mc) (wd : Nat), ds = [eM m] ∧ Ok m wd ∧ F ((coreAt leM m).map eOM)
theorem o_coreAt (fr : Fre mg) (D : Df K mg "_law_core_at" s__law_core_at [] []) (O__law_labels : Own P w K mg base 1 "_law_labels" [] (spL 1 G_labels)) (O__law_merged : Own P w K mg base 1 "_law_merged" [] (spD 2 G_lmerged)) (O__law_from : Own P w K mg base 1 "_law_from" [] (spD 2 G_from)) (O__law_numbered : Own P w K mg base 1 "_law_numbered" [] (spD 2 G_lnumb)) : Own P w K mg base 2 "_law_core_at" [] (spL 1 G_coreAt) := by
  refine Df.own (ps := ["_law_base"]) D (fun f fd F => okL F sc__law_core_at rfl fun cdv A outer s H E hr => ?_) fun _ _ _ _ _ _ us hl => match us, hl with | [_], _ => rfl
  have nd := sc__law_core_at.nd
  have hu := hr.units
  have hu1 := hu_of hr
  have hu5 := Room.units65 hr
  refine ⟨_, _, (dseq (dset 1 nd (PLd.v (lcall O__law_labels (hr.mono (by decide)) (by rfl) (acons (dv 0) anil)))) (dseq (dparC 2 3 rfl nd (PD.v (dcall O__law_merged (hr.mono (by decide)) (by rfl) (acons (dv 0) (acons (dv 1) anil)))) (PLd.v (ldisp anil))) (dseq (dset 5 nd (PLd.v (lcR (by rfl) fr.range (acons (dlen (by rfl) fr.len (dv 2)) anil) (plc (own := [("_law_k", 4)]) rfl nd (blkOk_by (by kernel_rfl)) (fun _ _ _ _ _ => (gname 4 nd)) (by decide) (fun _ _ _ _ _ => yes) (fun _ _ _ _ _ => (dcall O__law_from (hr.mono (by decide)) (by rfl) (acons (dv 2) (acons (dv 4) anil)))))))) (dseq (dforR PassesOwn.never rfl (by rfl) fr.range (acons (dlen (by rfl) fr.len (dv 2)) anil) (gname 4 nd) (dlast (difS (teq hu (dofl (lcT (dix (dv 5) (dv 4)) (plc (own := [("_law_late", 6)]) rfl nd (blkOk_by (by kernel_rfl)) (fun _ _ _ _ _ => (gname 6 nd)) (by decide) (fun _ _ _ _ _ => only (tne hu (dix (dv 5) (dv 6)) (dix (dv 5) (dv 4)))) (fun _ _ _ _ _ => (dv 6))))) (dofl (ldisp anil))) (dlast (dappend 3 (dminD rfl hu (by rfl) fr.min (dofl (lcT (dix (dv 5) (dv 4)) (plc (own := [("_law_late", 6)]) rfl nd (blkOk_by (by kernel_rfl)) (fun _ _ _ _ _ => (gname 6 nd)) (by decide) (fun _ _ _ _ _ => yes) (fun _ _ _ _ _ => (dcall O__law_numbered (hr.mono (by decide)) (by rfl) (acons (dv 2) (acons (dv 6) anil)))))))))) (dlast (dappend 3 dnon))))) (dlast (dretL (lcL (dv 1) (plc (own := [("_law_label", 7)]) rfl nd (blkOk_by (by kernel_rfl)) (fun _ _ _ _ _ => (gname 7 nd)) (by decide) (fun _ _ _ _ _ => yes) (fun _ _ _ _ _ => (dix (dv 3) (dv 7))))))))))), fun as Fp hl hG => ?_⟩
  obtain ⟨m, wd, rfl, o, hf⟩ := hG
  have hm5 := o.small
  have om := mg_ok o
  have hN5 := om.small
  have hcl := cls_len m
  refine ⟨_, _, rfl, rfl, rfl, m, wd, rfl, o, noLs_map _ _ fun _ _ => rfl, fun p1 => ⟨_, _, rfl, rfl, _, _, rfl, rfl, rfl, m, wd, rfl, o, by show 0 ≤ 100000; decide, rfl, noL_eM _, rfl, fun _ p3 => ⟨_, _, rfl, rfl, _, (Wk.mg m).map eR, rfl, rfl, (Wk.mg m).length, by rw [List.length_map], by omega, ?_⟩⟩⟩
  rw [rgD_eI]
  refine dColl_one (zs := List.range (Wk.mg m).length) (enc := eI) (fun k => eS (reach (Wk.mg m) k)) (fun k hk R hR => ⟨rfl, _, _, rfl, rfl, _, _, rfl, rfl, rfl, Wk.mg m, wd, k, rfl, om, List.mem_range.mp hk, noL_eS _, hR⟩) ⟨noLs_map _ _ fun k _ => noL_eS _, fun p5 => ?_⟩
  have hway : ∀ k, k < (Wk.mg m).length → ((List.range (Wk.mg m).length).map fun k => eS (reach (Wk.mg m) k))[k]? = some (eS (reach (Wk.mg m) k)) := fun k hk => at_map (List.getElem?_range hk)
  refine ⟨_, _, rfl, rfl, _, (Wk.mg m).map eR, rfl, rfl, (Wk.mg m).length, by rw [List.length_map], by omega, fun k τ => ∃ x4 x6, τ = [some (.d (eM m)), some (.l p1 ((cls m).map eI)), some (.d (eM (Wk.mg m))), some (.l p3 ((List.range k).map fun k => eOM (core leM (Wk.mg m) k))), x4, some (.l p5 ((List.range (Wk.mg m).length).map fun k => eS (reach (Wk.mg m) k))), x6, none], ⟨_, _, rfl⟩, fun _ _ _ _ => trivial, fun k x τ' hx hw => ?_, fun τ' hw => ?_⟩
  · obtain ⟨x4, x6, rfl⟩ := hw
    have hkl : k < (Wk.mg m).length := by
      have := (List.getElem?_eq_some_iff.mp hx).1
      rw [rgD_len] at this
      exact this
    rw [rgD_at hkl] at hx
    cases hx
    have hr5 : (reach (Wk.mg m) k).length ≤ 5 := Nat.le_trans (setN_len _ _) hN5
    refine ⟨rfl, _, _, rfl, rfl, _, _, rfl, rfl, dIx_nat rfl (hway k hkl) ⟨_, rfl, by rw [List.length_map]; omega, dColl_filter (zs := reach (Wk.mg m) k) (enc := eI) (fun t => !decide (reach (Wk.mg m) t = reach (Wk.mg m) k)) eI (fun t ht R h1 h2 => ⟨rfl, _, _, rfl, rfl, _, _, rfl, rfl, dIx_nat rfl (hway t (reach_lt ht)) ⟨_, _, rfl, rfl, _, _, rfl, rfl, dIx_nat rfl (hway k hkl) ⟨noF_noL (noL_eS _), noF_noL (noL_eS _), shaped_eS _, shaped_eS _, _, rfl, ?_⟩⟩⟩) ?_⟩⟩
    · rw [eqv_eS]
      cases e : decide (reach (Wk.mg m) t = reach (Wk.mg m) k) with
      | true =>
        rw [e] at h2
        exact h2 rfl
      | false =>
        rw [e] at h1
        exact ⟨_, _, rfl, rfl, rfl, h1 rfl⟩
    · refine ⟨by show 0 ≤ 100000; decide, rfl, rfl, rfl, shaped_eIs _, rfl, _, rfl, ?_⟩
      rw [eqv_nil, good_flt]
      have hlk : ((List.range k).map fun k => eOM (core leM (Wk.mg m) k)).length < 90000 := by
        rw [List.length_map, List.length_range]
        omega
      have hsn : (List.range (k + 1)).map (fun k => eOM (core leM (Wk.mg m) k)) = ((List.range k).map fun k => eOM (core leM (Wk.mg m) k)) ++ [eOM (core leM (Wk.mg m) k)] := by
        rw [List.range_succ, List.map_append]
        rfl
      cases g : good (Wk.mg m) k with
      | true =>
        have hne : (reach (Wk.mg m) k) ≠ [] := fun e => by
          have := reach_self om hkl
          rw [e] at this
          simp at this
        have hcore : core leM (Wk.mg m) k = some (lst leM ((reach (Wk.mg m) k).map (numbered (Wk.mg m)))) := core_some.mpr ⟨g, rfl⟩
        refine ⟨p3, _, rfl, hlk, _, _, rfl, rfl, _, _, rfl, rfl, dIx_nat rfl (hway k hkl) ⟨_, rfl, by rw [List.length_map]; omega, dColl_one (zs := reach (Wk.mg m) k) (enc := eI) (fun t => eM (numbered (Wk.mg m) t)) (fun t ht R hR => ⟨rfl, _, _, rfl, rfl, _, _, rfl, rfl, rfl, Wk.mg m, wd, t, rfl, om, reach_lt ht, noL_eM _, hR⟩) ⟨_, rfl, fun e => hne (List.map_eq_nil_iff.mp e), fun d hd => ?_, ?_, fun d hd hmin => ?_⟩⟩⟩
        · obtain ⟨t, _, rfl⟩ := List.mem_map.mp hd
          exact tupD_eM (numbered_ne _ t)
        · intro d hd d' hd'
          obtain ⟨a, _, rfl⟩ := List.mem_map.mp hd
          obtain ⟨b, _, rfl⟩ := List.mem_map.mp hd'
          exact alike_eM _ _
        · have hmm : (reach (Wk.mg m) k).map (fun t => eM (numbered (Wk.mg m) t)) = ((reach (Wk.mg m) k).map (numbered (Wk.mg m))).map eM := by
            rw [List.map_map]
            rfl
          rw [hmm] at hd hmin
          rw [min_lst hd hmin]
          refine ⟨noL_eM _, some (.d (eI k)), x6, ?_⟩
          rw [hsn, hcore]
          rfl
      | false =>
        refine ⟨p3, _, rfl, hlk, rfl, some (.d (eI k)), x6, ?_⟩
        rw [hsn, core_none.mpr g]
        rfl
  · obtain ⟨x4, x6, rfl⟩ := hw
    rw [rgD_len]
    refine ⟨_, _, rfl, rfl, _, rfl, by rw [List.length_map]; omega, dColl_one (zs := cls m) (enc := eI) (fun l => eOM (core leM (Wk.mg m) l)) (fun l hl2 R hR => ⟨rfl, _, _, rfl, rfl, _, _, rfl, rfl, dIx_nat rfl (at_map (List.getElem?_range ?_)) ⟨?_, hR⟩⟩) ?_⟩
    · rw [mg_len]
      exact (cls_can o).lt.mp hl2
    · exact noL_eOM _
    · have e : (coreAt leM m).map eOM = (cls m).map fun l => eOM (core leM (Wk.mg m) l) := by
        unfold coreAt
        rw [List.map_map]
        rfl
      rw [← e]
      exact hf
end
end Wk
end

section
set_option Elab.async false
set_option linter.all false
set_option maxRecDepth 100000
set_option maxHeartbeats 4000000
namespace Wk
open PySem PySem.Spec PyProof.Rows L2
section
variable {X : Cx} {K : PySem.W.Frag} {x y : Str} {pos pos' pos2 : Pos} {e : Expr} {te : TE} {g : TG} {ws : List Nat} {dg : DG} {tg : Expr}
theorem dpopTo (i : Nat) {apos cpos : Pos} (hg : PGd X K tg g ws dg) (hN : X.N[i]? = some x := by rfl) (hv : Vis X.env.scope x := by first | exact Or.inl rfl | exact Or.inr (Or.inl rfl) | exact Or.inr (Or.inr rfl)) (hd : (x == ("__debug__" : Str)) = false := by decide)
    (hcd : (x == ("__classdict__" : Str)) = false := by decide) (hbase : attributeBase (.Name x pos') "pop" X.env (eval (.Name x pos') X.env) = eval (.Name x pos') X.env := by rfl)
    (hline : (apos.endLine == cpos.line) = true := by rfl)
    (hs : swapsWithSole [tg] (.Call (.Attribute (.Name x pos') "pop" apos) [] [] cpos) pos.line X.env = pure false := by rfl) (hw : swappedStores [tg] (.Call (.Attribute (.Name x pos') "pop" apos) [] [] cpos) X.env = pure none := by rfl) (h1 : (assignEach [tg] X.env).map (·.2) = [assign tg X.env] := by rfl) :
    PSd X K (.Assign [tg] (.Call (.Attribute (.Name x pos') "pop" apos) [] [] cpos) pos) (tAsg (tBM0 K "list" rPop (tVar i)) g) (dPopTo i dg) := by
  have hK := hg.hK
  subst hK
  exact ⟨rfl, ps_asg (pe_bm0 PySem.F.plainAttrs_list PySem.F.slot_list_pop PySem.F.type_list_pop mt_pop (pe_var hN hv hd hcd) hbase hline) hg.pe hs hw h1, ss_popTo hg.se⟩
theorem dappPop (i j : Nat) {dk : DTE} {apos cpos apos2 cpos2 : Pos} (hk : PD X K e te dk) (hN : X.N[i]? = some x := by rfl) (hv : Vis X.env.scope x := by first | exact Or.inl rfl | exact Or.inr (Or.inl rfl) | exact Or.inr (Or.inr rfl)) (hd : (x == ("__debug__" : Str)) = false := by decide)
    (hcd : (x == ("__classdict__" : Str)) = false := by decide) (hN2 : X.N[j]? = some y := by rfl) (hv2 : Vis X.env.scope y := by first | exact Or.inl rfl | exact Or.inr (Or.inl rfl) | exact Or.inr (Or.inr rfl)) (hd2 : (y == ("__debug__" : Str)) = false := by decide)
    (hcd2 : (y == ("__classdict__" : Str)) = false := by decide)
    (hbase : attributeBase (.Name x pos') "append" X.env (eval (.Name x pos') X.env) = eval (.Name x pos') X.env := by rfl)
    (hbase2 : attributeBase (.Name y pos2) "pop" X.env (eval (.Name y pos2) X.env) = eval (.Name y pos2) X.env := by rfl)
    (hfew : ((backTo cpos (starEach ((.Call (.Attribute (.Name y pos2) "pop" apos2) [e] [] cpos2) :: []) X.env)).all (fun x => !x.1) && (backToKw cpos (keywordEach [] X.env)).all (fun x => x.1.isSome)
      && decide (((.Call (.Attribute (.Name y pos2) "pop" apos2) [e] [] cpos2) :: ([] : List Expr)).length + ([] : List Keyword).length + (if ([] : List Keyword).isEmpty then 0 else 1) < 30)) = true := by rfl)
    (hfew2 : ((backTo cpos2 (starEach (e :: []) X.env)).all (fun x => !x.1) && (backToKw cpos2 (keywordEach [] X.env)).all (fun x => x.1.isSome)
      && decide ((e :: ([] : List Expr)).length + ([] : List Keyword).length + (if ([] : List Keyword).isEmpty then 0 else 1) < 30)) = true := by rfl)
    (hline : (apos.endLine == cpos.line) = true := by rfl) (hline2 : (apos2.endLine == cpos2.line) = true := by rfl)
    (hs : starEach ((.Call (.Attribute (.Name y pos2) "pop" apos2) [e] [] cpos2) :: []) X.env = (false, eval (.Call (.Attribute (.Name y pos2) "pop" apos2) [e] [] cpos2) X.env) :: starEach [] X.env := by rfl)
    (hs3 : starEach (e :: []) X.env = (false, eval e X.env) :: starEach [] X.env := by rfl)
    (hs2 : swapsWith (.Call (.Attribute (.Name x pos') "append" apos) [.Call (.Attribute (.Name y pos2) "pop" apos2) [e] [] cpos2] [] cpos) none pos.line X.env = pure false := by rfl) :
    PSd X K (.Expr (.Call (.Attribute (.Name x pos') "append" apos) [.Call (.Attribute (.Name y pos2) "pop" apos2) [e] [] cpos2] [] cpos) pos) (tDrop (tBM K "list" rAppend (tVar i) (tCons (tBM K "list" rPopAt (tVar j) (tCons te tNil)) tNil))) (dAppPop i j dk) := by
  have hK := hk.hK
  subst hK
  exact ⟨rfl, ps_expr (pe_bm PySem.F.plainAttrs_list PySem.F.slot_list_append PySem.F.type_list_append mt_append (pe_var hN hv hd hcd) (pa_cons (pe_bm PySem.F.plainAttrs_list PySem.F.slot_list_pop PySem.F.type_list_pop mt_popAt (pe_var hN2 hv2 hd2 hcd2) (pa_cons hk.pe pa_nil hs3) hbase2 hfew2 hline2 hs3 rfl) pa_nil hs) hbase hfew hline hs rfl) hs2, ss_appPop hk.se⟩
end
end Wk
end

section
set_option Elab.async false
set_option linter.all false
set_option maxRecDepth 100000
set_option maxHeartbeats 8000000
set_option pp.maxSteps 1500
namespace Wk
open PySem PySem.Spec PyProof.Rows L2
theorem pure_eOM (o : Option Mc) : pureD (eOM o) = true := by
  cases o with
  | none => rfl
  | some c => exact pure_eM c
theorem dep_eOM (o : Option Mc) : (eOM o).depth ≤ 3 := by
  cases o with
  | none => show PyData.depth .none ≤ 3; simp [PyData.depth]
  | some c => exact dep_eM c
theorem eOM_inj (a b : Option Mc) (h : eOM a = eOM b) : a = b := by
  cases a <;> cases b
  · rfl
  · exact absurd h (by unfold eOM eM; intro h; cases h)
  · exact absurd h (by unfold eOM eM; intro h; cases h)
  · exact congrArg some (eM_inj h)
theorem shaped_eOM (o : Option Mc) : SeqAt.shaped (eOM o) = true := shaped_of (pure_eOM o) (by have := dep_eOM o; omega)
theorem shaped_eOMs (l : List (Option Mc)) : SeqAt.shaped (.list (l.map eOM)) = true := shaped_list (pureDs_map _ _ fun k _ => pure_eOM k) fun d hd => by
  obtain ⟨x, _, rfl⟩ := List.mem_map.mp hd
  have := dep_eOM x
  omega
theorem flt_all {α : Type} (f : α → PyData) (b : α → Bool) (l : List α) : ((l.filter fun o => !b o).map f).isEmpty = l.all b := by
  rw [List.isEmpty_map, Bool.eq_iff_iff, List.isEmpty_iff, List.filter_eq_nil_iff, List.all_eq_true]
  constructor
  · intro h t ht
    have := h t ht
    cases e : b t with
    | true => rfl
    | false => rw [e] at this; exact absurd rfl this
  · intro h t ht
    rw [h t ht]
    simp
theorem flat_le {α : Type} {l : List α} {f : α → List Nat} {c : Nat} (h : ∀ x ∈ l, (f x).length ≤ c) (hl : l.length ≤ 5) : (l.flatMap f).length ≤ c * 5 := by
  have key : ∀ l : List α, (∀ x ∈ l, (f x).length ≤ c) → (l.flatMap f).length ≤ c * l.length := by
    intro l
    induction l with
    | nil => intro _; exact Nat.zero_le _
    | cons x l ih =>
      intro h
      rw [List.flatMap_cons, List.length_append, List.length_cons, Nat.mul_succ]
      have h1 := ih fun y hy => h y (List.mem_cons_of_mem _ hy)
      have h2 := h x (List.mem_cons_self ..)
      omega
  exact Nat.le_trans (key l h) (Nat.mul_le_mul (Nat.le_refl c) hl)
theorem isNo_eOM (o : Option Mc) : isNo (eOM o) = o.isNone := by cases o <;> rfl
section
variable {P : Program} {w : World} {K : PySem.W.Frag} {mg : Str → Option Value} {base : Heap}
theorem sc__law_shares : FnScope ["_law_near_here", "_law_far", "_law_late", "_law_one"] ["_law_near_here", "_law_far"] (defScope s__law_shares) := ⟨rfl, rfl, rfl, by decide +kernel, rfl, by decide +kernel, by decide +kernel⟩
def G_lshares (ds : List PyData) (F : PyData → Prop) : Prop := ∃ (m n : Mc) (wd : Nat), ds = [eM m, eM n] ∧ Ok m wd ∧ Ok n wd ∧ F (.bool (shares leM m n))
theorem o_lshares (fr : Fre mg) (D : Df K mg "_law_shares" s__law_shares [] []) (O__law_core_at : Own P w K mg base 2 "_law_core_at" [] (spL 1 G_coreAt)) : Own P w K mg base 3 "_law_shares" [] (spD 2 G_lshares) := by
  refine Df.own (ps := ["_law_near_here", "_law_far"]) D (fun f fd F => okD F sc__law_shares rfl fun cdv A outer s H E hr => ?_) fun _ _ _ _ _ _ us hl => match us, hl with | [_, _], _ => rfl
  have nd := sc__law_shares.nd
  have hu := hr.units
  have hu1 := hu_of hr
  have hu5 := Room.units65 hr
  refine ⟨_, _, (dseq (dset 2 nd (PLd.v (lcall O__law_core_at (hr.mono (by decide)) (by rfl) (acons (dv 1) anil)))) (dlast (dret (deq hu (dofl (lcL (dofl (lcall O__law_core_at (hr.mono (by decide)) (by rfl) (acons (dv 0) anil))) (plc (own := [("_law_one", 3)]) rfl nd (blkOk_by (by kernel_rfl)) (fun _ _ _ _ _ => (gname 3 nd)) (by decide) (fun _ _ _ _ _ => only (tw (tand (tnotN (dv 3) dnon) (tand1 (tnin hu5 (dv 3) (dv 2)))))) (fun _ _ _ _ _ => (dv 3))))) (dofl (ldisp anil)))))), fun as Fp hl hG => ?_⟩
  obtain ⟨m, n, wd, rfl, o1, o2, hf⟩ := hG
  have hm5 := o1.small
  have hl1 := coreAt_len leM m
  refine ⟨_, _, rfl, rfl, rfl, n, wd, rfl, o2, noLs_map _ _ fun k _ => noL_eOM k, fun p2 => ⟨_, _, rfl, rfl, rfl, m, wd, rfl, o1, _, rfl, by rw [List.length_map]; omega, dColl_filter (zs := coreAt leM m) (enc := eOM) (fun o => !(o.isNone || decide (o ∈ coreAt leM n))) eOM (fun q hq R h1 h2 => ⟨noL_eOM q, _, _, rfl, rfl, rfl, _, rfl, ?_⟩) ?_⟩⟩
  · rw [isNo_eOM]
    cases q with
    | none => exact h2 rfl
    | some c =>
      refine ⟨_, _, rfl, rfl, _, _, rfl, rfl, _, rfl, noF_noL (noL_eOM _), shaped_eOM _, shaped_eOMs _, _, rfl, ?_⟩
      rw [if_pos rfl]
      by_cases hin : some c ∈ coreAt leM n
      · rw [any_in pure_eOM eOM_inj hin]
        exact h2 (by rw [decide_eq_true hin]; rfl)
      · rw [any_out pure_eOM eOM_inj hin]
        exact ⟨_, _, rfl, rfl, noL_eOM _, h1 (by rw [decide_eq_false hin]; rfl)⟩
  · refine ⟨by show 0 ≤ 100000; decide, rfl, rfl, rfl, shaped_eOMs _, rfl, ?_⟩
    rw [eqv_nil, flt_all]
    exact hf
theorem sc__law_behind : FnScope ["_law_base", "_law_lap", "_law_found", "_law_turn", "_law_left", "_law_s", "_law_pair"] ["_law_base", "_law_lap"] (defScope s__law_behind) := ⟨rfl, rfl, rfl, by decide +kernel, rfl, by decide +kernel, by decide +kernel⟩
def G_lbehind (ds : List PyData) (F : List PyData → Prop) : Prop := ∃ (m : Mc) (wd k : Nat), ds = [eM m, eI k] ∧ Ok m wd ∧ k ≤ 5 ∧ F ((behind m k).map eI)
theorem o_lbehind (fr : Fre mg) (D : Df K mg "_law_behind" s__law_behind [] []) : Own P w K mg base 1 "_law_behind" [] (spL 2 G_lbehind) := by
  refine Df.own (ps := ["_law_base", "_law_lap"]) D (fun f fd F => okL F sc__law_behind rfl fun cdv A outer s H E hr => ?_) fun _ _ _ _ _ _ us hl => match us, hl with | [_, _], _ => rfl
  have nd := sc__law_behind.nd
  have hu := hr.units
  have hu1 := hu_of hr
  have hu5 := Room.units65 hr
  refine ⟨_, _, (dseq (dset 2 nd (PLd.v (llistRg rfl (by rfl) fr.list (by rfl) fr.range (dlen (by rfl) fr.len (dv 0))))) (dseq (dforR PassesOwn.never rfl (by rfl) fr.range (acons (dv 1) anil) (gname 3 nd) (dseq (dset 4 nd (PLd.v (ldisp anil))) (dseq (dforV 2 PassesOwn.never rfl (gname 5 nd) (dlast (dextend 4 (lcT (dix (dv 0) (dv 5)) (plc (own := [("_law_pair", 6)]) rfl nd (blkOk_by (by kernel_rfl)) (fun _ _ _ _ _ => (gname 6 nd)) (by decide) (fun _ _ _ _ _ => yes) (fun _ _ _ _ _ => (dix (dv 6) dint))))))) (dlast (dset 2 nd (PLd.v (lsortI rfl (by rfl) fr.sorted (by rfl) fr.set (dv 4)))))))) (dlast (dretV 2)))), fun as Fp hl hG => ?_⟩
  obtain ⟨m, wd, k, rfl, o, hk5, hf⟩ := hG
  have hm5 := o.small
  have hbl : ∀ i, (behind m i).length ≤ m.length := fun i => by
    have := nodup_len_le _ (List.range m.length) (behind_nodup m i) fun t ht => List.mem_range.mpr (behind_lt m i t ht)
    rw [List.length_range] at this
    exact this
  refine ⟨_, _, rfl, rfl, _, m.map eR, rfl, rfl, (m.length : Nat), by rw [List.length_map], by omega, by omega, noLs_map _ _ fun _ _ => rfl, fun p2 => ⟨_, _, rfl, rfl, k, rfl, by omega, fun i τ => ∃ p x3 x4 x5, τ = [some (.d (eM m)), some (.d (eI k)), some (.l p ((behind m i).map eI)), x3, x4, x5, none], ⟨p2, _, _, _, rfl⟩, fun _ _ _ _ => trivial, fun i x τ' hx hw => ?_, fun τ' hw => ?_⟩⟩
  · obtain ⟨p, x3, x4, x5, rfl⟩ := hw
    have hik : i < k := by
      have := (List.getElem?_eq_some_iff.mp hx).1
      rw [rgD_len] at this
      exact this
    rw [rgD_at hik] at hx
    cases hx
    have hb5 := hbl i
    have hblt := behind_lt m i
    refine ⟨rfl, Nat.zero_le _, rfl, rfl, fun p4 => ⟨p, _, rfl, fun j τ => ∃ x5, τ = [some (.d (eM m)), some (.d (eI k)), some (.l p ((behind m i).map eI)), some (.d (eI i)), some (.l p4 ((((behind m i).take j).flatMap fun s => (row m s).map fun (q : Nat × Nat) => q.1).map eI)), x5, none], ⟨x5, rfl⟩, fun j τ' _ hw => ?_, fun j y τ' hy hw => ?_, fun τ' hw => ?_⟩⟩
    · obtain ⟨x5, rfl⟩ := hw
      rfl
    · obtain ⟨x5, rfl⟩ := hw
      rw [List.getElem?_map] at hy
      cases e : (behind m i)[j]? with
      | none => rw [e] at hy; cases hy
      | some s =>
        rw [e] at hy
        cases hy
        have hs : s < m.length := hblt s (List.mem_of_getElem? e)
        refine ⟨rfl, p4, _, rfl, _, _, rfl, rfl, _, _, rfl, rfl, dIx_nat rfl (at_eM hs) ⟨_, rfl, ?_, dColl_one (zs := row m s) (enc := eP) (fun q => eI q.1) (fun q hq R hR => ⟨rfl, _, _, rfl, rfl, dIx_nat (k := 0) rfl rfl ⟨rfl, hR⟩⟩) ⟨noLs_map _ _ fun _ _ => rfl, ?_, some (.d (eI s)), ?_⟩⟩⟩
        · rw [List.length_map, o.row_len hs]
          have := o.wsmall
          omega
        · rw [List.length_map, List.length_map, o.row_len hs]
          have h1 : (((behind m i).take j).flatMap fun s => (row m s).map fun q => q.1).length ≤ 20 := by
            refine flat_le (c := 4) ?_ ?_
            · intro t ht
              rw [List.length_map, o.row_len (hblt t (List.mem_of_mem_take ht))]
              exact o.wsmall
            · rw [List.length_take]
              omega
          have := o.wsmall
          omega
        · rw [List.take_add_one, e, List.flatMap_append, List.map_append]
          show _ = [_, _, _, _, some (DV.l p4 (_ ++ (((row m s).map fun (q : Nat × Nat) => q.1) ++ []).map eI)), _, _]
          rw [List.append_nil, List.map_map]
          rfl
    · obtain ⟨x5, rfl⟩ := hw
      rw [List.length_map, List.take_of_length_le (Nat.le_refl _)]
      refine ⟨_, _, rfl, rfl, ((behind m i).flatMap fun s => (row m s).map fun q => q.1).map fun n => ((n : Nat) : Int), by rw [eI_ints]; rfl, ?_, fun rs hp hm => ?_⟩
      · rw [List.length_map]
        have h1 : ((behind m i).flatMap fun s => (row m s).map fun q => q.1).length ≤ 20 := by
          refine flat_le (c := 4) ?_ ?_
          · intro t ht
            rw [List.length_map, o.row_len (hblt t ht)]
            exact o.wsmall
          · omega
        omega
      · obtain ⟨xs, rfl, h3⟩ := ints_back (xs := (behind m i).flatMap fun s => (row m s).map fun q => q.1) fun r hr => (hm r).mp hr
        have h4 : xs = behind m (i + 1) := by
          refine eq_setN ?_ (fun x => ⟨h3 x, fun hx => ?_⟩) fun x hx => ?_
          · exact (List.pairwise_map.mp hp).imp fun h => by omega
          · obtain ⟨y, hy, e⟩ := List.mem_map.mp ((hm x).mpr (List.mem_map.mpr ⟨x, hx, rfl⟩))
            have : y = x := by omega
            rw [← this]
            exact hy
          · obtain ⟨s, hs, hx2⟩ := List.mem_flatMap.mp hx
            obtain ⟨q, hq, rfl⟩ := List.mem_map.mp hx2
            exact o.nxt _ (row_mem (hblt s hs)) q hq
        rw [h4, ← eI_ints]
        exact ⟨noLs_map _ _ fun _ _ => rfl, fun p' => ⟨p', some (.d (eI i)), _, x5, rfl⟩⟩
  · obtain ⟨p, x3, x4, x5, rfl⟩ := hw
    rw [rgD_len]
    exact ⟨p, _, rfl, hf⟩
theorem sc__law_settled : FnScope ["_law_base", "_law_places", "_law_lap", "_law_s"] ["_law_base", "_law_places"] (defScope s__law_settled) := ⟨rfl, rfl, rfl, by decide +kernel, rfl, by decide +kernel, by decide +kernel⟩
def G_lsettled (ds : List PyData) (F : PyData → Prop) : Prop := ∃ (m : Mc) (wd : Nat), ds = [eM m, .list ((coreAt leM m).map eOM)] ∧ Ok m wd ∧ F (eO (settled m))
theorem o_lsettled (fr : Fre mg) (D : Df K mg "_law_settled" s__law_settled [] []) (O__law_behind : Own P w K mg base 1 "_law_behind" [] (spL 2 G_lbehind)) : Own P w K mg base 2 "_law_settled" [] (spD 2 G_lsettled) := by
  refine Df.own (ps := ["_law_base", "_law_places"]) D (fun f fd F => okD F sc__law_settled rfl fun cdv A outer s H E hr => ?_) fun _ _ _ _ _ _ us hl => match us, hl with | [_, _], _ => rfl
  have nd := sc__law_settled.nd
  have hu := hr.units
  have hu1 := hu_of hr
  have hu5 := Room.units65 hr
  refine ⟨_, _, (dseq (dforR PassesOwn.never rfl (by rfl) fr.range (acons (dadd (dlen (by rfl) fr.len (dv 0)) dint) anil) (gname 2 nd) (dlast (difS (teq hu (dofl (lcL (dofl (lcall O__law_behind (hr.mono (by decide)) (by rfl) (acons (dv 0) (acons (dv 2) anil)))) (plc (own := [("_law_s", 3)]) rfl nd (blkOk_by (by kernel_rfl)) (fun _ _ _ _ _ => (gname 3 nd)) (by decide) (fun _ _ _ _ _ => only (tisN (dix (dv 1) (dv 3)) dnon)) (fun _ _ _ _ _ => (dv 3))))) (dofl (ldisp anil))) (dlast (dret (dv 2))) dnil))) (dlast (dret dnon))), fun as Fp hl hG => ?_⟩
  obtain ⟨m, wd, rfl, o, hf⟩ := hG
  have hm5 := o.small
  have hlc := coreAt_len leM m
  refine ⟨_, _, rfl, rfl, _, m.map eR, rfl, rfl, _, _, rfl, rfl, m.length + 1, by rw [List.length_map]; rfl, by omega, fun i τ => ∃ x2 x3, τ = [some (.d (eM m)), some (.d (.list ((coreAt leM m).map eOM))), x2, x3] ∧ ∀ j, j < i → (behind m j).all (goodAt m) = false, ⟨none, none, rfl, fun j hj => absurd hj (Nat.not_lt_zero j)⟩, fun _ _ _ _ => trivial, fun i x τ' hx hw => ?_, fun τ' hw => ?_⟩
  · obtain ⟨x2, x3, rfl, hno⟩ := hw
    have hil : i < m.length + 1 := by
      have := (List.getElem?_eq_some_iff.mp hx).1
      rw [rgD_len] at this
      exact this
    rw [rgD_at hil] at hx
    cases hx
    have hblt := behind_lt m i
    have hb5 : (behind m i).length ≤ m.length := by
      have := nodup_len_le _ (List.range m.length) (behind_nodup m i) fun t ht => List.mem_range.mpr (hblt t ht)
      rw [List.length_range] at this
      exact this
    refine ⟨rfl, _, _, rfl, rfl, _, _, rfl, rfl, rfl, m, wd, i, rfl, o, by omega, _, rfl, by rw [List.length_map]; omega, dColl_filter (zs := behind m i) (enc := eI) (fun s => !goodAt m s) eI (fun s hs R h1 h2 => ⟨rfl, _, _, rfl, rfl, _, _, rfl, rfl, dIx_nat rfl (at_map (x := cAt leM m s) ?_) ⟨rfl, _, rfl, ?_⟩⟩) ?_⟩
    · rw [List.getElem?_eq_getElem (by rw [hlc]; exact hblt s hs), coreAt_at]
      exact hblt s hs
    · rw [isNo_eOM]
      cases g : goodAt m s with
      | true =>
        cases e : cAt leM m s with
        | none => rw [goodAt_core.mp e] at g; cases g
        | some c => exact h2 (by rw [g]; rfl)
      | false =>
        rw [goodAt_core.mpr g]
        exact ⟨_, _, rfl, rfl, rfl, h1 (by rw [g]; rfl)⟩
    · refine ⟨by show 0 ≤ 100000; decide, rfl, rfl, rfl, shaped_eIs _, rfl, _, rfl, ?_⟩
      rw [eqv_nil, flt_all]
      cases g : (behind m i).all (goodAt m) with
      | true =>
        have hst : settled m = some i := by
          unfold settled
          rw [List.find?_range_eq_some]
          exact ⟨g, List.mem_range.mpr hil, fun j hj => by rw [hno j hj]; rfl⟩
        rw [hst] at hf
        exact ⟨_, _, rfl, rfl, hf⟩
      | false =>
        refine ⟨_, _, rfl, fun j hj => ?_⟩
        by_cases cj : j = i
        · rw [cj]
          exact g
        · exact hno j (by omega)
  · obtain ⟨x2, x3, rfl, hno⟩ := hw
    rw [rgD_len] at hno
    have hst : settled m = none := by
      unfold settled
      rw [List.find?_eq_none]
      intro j hj
      rw [hno j (List.mem_range.mp hj)]
      decide
    rw [hst] at hf
    exact hf
end
end Wk
end

section
set_option Elab.async false
set_option linter.all false
set_option maxRecDepth 100000
set_option maxHeartbeats 8000000
set_option pp.maxSteps 2500
namespace Wk
open PySem PySem.Spec PyProof.Rows L2
def eU (q : State) : PyData := .tuple [eI q.1, eS q.2]
theorem eU_inj {a b : State} (h : eU a = eU b) : a = b := by
  unfold eU at h
  have := PyData.tuple.inj h
  simp only [List.cons.injEq, and_true] at this
  exact Prod.ext (eI_inj this.1) (eS_inj this.2)
theorem pure_eU (k : State) : pureD (eU k) = true := by
  show pureDs [eI k.1, eS k.2] = true
  simp only [pureDs, pure_eS, Bool.and_true]
  rfl
theorem noL_eU (k : State) : noL (eU k) = true := by
  show noLs [eI k.1, eS k.2] = true
  simp only [noLs, noL_eS, Bool.and_true]
  rfl
theorem dep_eU (k : State) : (eU k).depth ≤ 2 := dep_tup fun d hd => by
  rcases List.mem_cons.mp hd with rfl | hd
  · have := dep_eI k.1
    omega
  · rw [List.mem_singleton.mp hd]
    exact dep_eS _
theorem tupD_eU (q : State) : TupD (eU q) := tupD_of (pure_eU q) (by have := dep_eU q; unfold eU at this; omega)
theorem shaped_eUs (l : List State) : SeqAt.shaped (.list (l.map eU)) = true := shaped_list (pureDs_map _ _ fun k _ => pure_eU k) fun d hd => by
  obtain ⟨x, _, rfl⟩ := List.mem_map.mp hd
  have := dep_eU x
  omega
structure LInv (m n : Mc) (wd : Nat) (S : List Nat) (i : Nat) (V Z : List State) : Prop where
  nd : V.Nodup
  ok : ∀ q, q ∈ V ∨ q ∈ Z → StOk m n q ∧ q.2 ≠ []
  st : ∀ s ∈ S, (s, List.range n.length) ∈ V ∨ (s, List.range n.length) ∈ Z
  cl : ∀ q ∈ V, ∀ x, x < wd → stp m n q x ∈ V ∨ stp m n q x ∈ Z
  so : ∀ q, q ∈ V ∨ q ∈ Z → ∃ s ∈ S, ∃ r, Lets wd r ∧ stR m n (s, List.range n.length) r = q
  me : i + Z.length ≤ S.length + wd * V.length
section
variable {m n : Mc} {wd i : Nat} {S : List Nat} {V Z : List State} {q : State}
theorem LInv.start (o2 : Ok n wd) (hS : ∀ s ∈ S, s < m.length) : LInv m n wd S 0 [] (S.map fun s => (s, List.range n.length)) := by
  refine ⟨List.nodup_nil, fun q h => ?_, fun s hs => .inr (List.mem_map.mpr ⟨s, hs, rfl⟩), fun q hq => absurd hq (by simp), fun q h => ?_, by simp⟩
  · rcases h with h | h
    · exact absurd h (by simp)
    · obtain ⟨s, hs, rfl⟩ := List.mem_map.mp h
      refine ⟨stOk_start (hS s hs), fun e => ?_⟩
      have e : List.range n.length = [] := e
      rw [List.range_eq_nil] at e
      have := o2.ne
      omega
  · rcases h with h | h
    · exact absurd h (by simp)
    · obtain ⟨s, hs, rfl⟩ := List.mem_map.mp h
      exact ⟨s, hs, [], Lets.nil, rfl⟩
theorem LInv.few (o1 : Ok m wd) (o2 : Ok n wd) (h : LInv m n wd S i V Z) : V.length ≤ 160 := states_few o1 o2 h.nd fun q hq => (h.ok q (.inl hq)).1
theorem LInv.laps (o1 : Ok m wd) (o2 : Ok n wd) (hS : S.length ≤ 5) (h : LInv m n wd S i V Z) : i + Z.length ≤ 645 := by
  have h1 := h.few o1 o2
  have h2 := h.me
  have h3 := o1.wsmall
  have h4 : wd * V.length ≤ 4 * 160 := Nat.mul_le_mul h3 h1
  omega
theorem LInv.old (h : LInv m n wd S i V (Z ++ [q])) (hq : q ∈ V) : LInv m n wd S (i + 1) V Z := by
  have key : ∀ u, u ∈ V ∨ u ∈ Z ++ [q] → u ∈ V ∨ u ∈ Z := fun u hu => by
    rcases hu with hu | hu
    · exact .inl hu
    · rcases List.mem_append.mp hu with hu | hu
      · exact .inr hu
      · rw [List.mem_singleton.mp hu]
        exact .inl hq
  have key2 : ∀ u, u ∈ V ∨ u ∈ Z → u ∈ V ∨ u ∈ Z ++ [q] := fun u hu => hu.imp id fun hu => List.mem_append.mpr (.inl hu)
  refine ⟨h.nd, fun u hu => h.ok u (key2 u hu), fun s hs => key _ (h.st s hs), fun u hu x hx => key _ (h.cl u hu x hx), fun u hu => h.so u (key2 u hu), ?_⟩
  have := h.me
  rw [List.length_append] at this
  simp only [List.length_cons, List.length_nil] at this
  omega
theorem LInv.new (o1 : Ok m wd) (h : LInv m n wd S i V (Z ++ [q])) (hq : q ∉ V) (hx : ∀ x, x < wd → (stp m n q x).2 ≠ []) : LInv m n wd S (i + 1) (V ++ [q]) (Z ++ (List.range wd).map (stp m n q)) := by
  have hqz : q ∈ V ∨ q ∈ Z ++ [q] := .inr (by simp)
  have key : ∀ u, u ∈ V ∨ u ∈ Z ++ [q] → u ∈ V ++ [q] ∨ u ∈ Z ++ (List.range wd).map (stp m n q) := fun u hu => by
    rcases hu with hu | hu
    · exact .inl (List.mem_append.mpr (.inl hu))
    · rcases List.mem_append.mp hu with hu | hu
      · exact .inr (List.mem_append.mpr (.inl hu))
      · exact .inl (List.mem_append.mpr (.inr hu))
  have key2 : ∀ u, u ∈ V ++ [q] ∨ u ∈ Z ++ (List.range wd).map (stp m n q) → (u ∈ V ∨ u ∈ Z ++ [q]) ∨ ∃ x, x < wd ∧ u = stp m n q x := fun u hu => by
    rcases hu with hu | hu
    · rcases List.mem_append.mp hu with hu | hu
      · exact .inl (.inl hu)
      · exact .inl (.inr (List.mem_append.mpr (.inr hu)))
    · rcases List.mem_append.mp hu with hu | hu
      · exact .inl (.inr (List.mem_append.mpr (.inl hu)))
      · obtain ⟨x, hx2, rfl⟩ := List.mem_map.mp hu
        exact .inr ⟨x, List.mem_range.mp hx2, rfl⟩
  refine ⟨?_, fun u hu => ?_, fun s hs => key _ (h.st s hs), fun u hu x hxw => ?_, fun u hu => ?_, ?_⟩
  · rw [List.nodup_append]
    exact ⟨h.nd, by simp, fun a ha b hb e => by rw [List.mem_singleton.mp hb] at e; rw [e] at ha; exact hq ha⟩
  · rcases key2 u hu with hu | ⟨x, hxw, rfl⟩
    · exact h.ok u hu
    · exact ⟨(h.ok q hqz).1.stp o1 hxw, hx x hxw⟩
  · rcases List.mem_append.mp hu with hu | hu
    · exact key _ (h.cl u hu x hxw)
    · rw [List.mem_singleton.mp hu]
      exact .inr (List.mem_append.mpr (.inr (List.mem_map.mpr ⟨x, List.mem_range.mpr hxw, rfl⟩)))
  · rcases key2 u hu with hu | ⟨x, hxw, rfl⟩
    · exact h.so u hu
    · obtain ⟨s, hs, r, hr, e⟩ := h.so q hqz
      exact ⟨s, hs, r ++ [x], hr.app (Lets.cons.mpr ⟨hxw, Lets.nil⟩), by rw [stR_app, e]; rfl⟩
  · have := h.me
    simp only [List.length_append, List.length_cons, List.length_nil, List.length_map, List.length_range, Nat.mul_add] at this ⊢
    omega
theorem LInv.yes (o1 : Ok m wd) (o2 : Ok n wd) (hS : ∀ s ∈ S, s < m.length) (h : LInv m n wd S i V []) : May wd m n S := by
  have key : ∀ u, u ∈ V ∨ u ∈ ([] : List State) → u ∈ V := fun u hu => hu.elim id fun hu => absurd hu (by simp)
  exact may_closed o1 o2 hS (fun q => q ∈ V) (fun s hs => key _ (h.st s hs)) fun q hq x hx => ⟨key _ (h.cl q hq x hx), (h.ok _ (.inl (key _ (h.cl q hq x hx)))).2⟩
theorem LInv.no (o1 : Ok m wd) (o2 : Ok n wd) (hS : ∀ s ∈ S, s < m.length) (h : LInv m n wd S i V Z) (hq : q ∈ V ∨ q ∈ Z) {x : Nat} (hx : x < wd) (he : (stp m n q x).2 = []) : ¬ May wd m n S := fun hm => by
  obtain ⟨s, hs, r, hr, e⟩ := h.so q hq
  refine (may_states o1 o2 hS).mp hm s hs (r ++ [x]) (hr.app (Lets.cons.mpr ⟨hx, Lets.nil⟩)) ?_
  rw [stR_app, e]
  exact he
end
section
variable {P : Program} {w : World} {K : PySem.W.Frag} {mg : Str → Option Value} {base : Heap}
theorem sc__law_may : FnScope ["_law_near_here", "_law_far", "_law_starts", "_law_s", "_law_known", "_law_todo", "_law_lap", "_law_some", "_law_x", "_law_late", "_law_told", "_law_t", "_law_left"] ["_law_near_here", "_law_far", "_law_starts"] (defScope s__law_may) := ⟨rfl, rfl, rfl, by decide +kernel, rfl, by decide +kernel, by decide +kernel⟩
def G_lmay (ds : List PyData) (F : PyData → Prop) : Prop := ∃ (m n : Mc) (wd : Nat) (S : List Nat), ds = [eM m, eM n, .list (S.map eI)] ∧ Ok m wd ∧ Ok n wd ∧ S.length ≤ 5 ∧ (∀ s ∈ S, s < m.length) ∧ ∀ c : Bool, (c = true ↔ May wd m n S) → F (.bool c)
theorem o_lmay (fr : Fre mg) (D : Df K mg "_law_may" s__law_may [] []) : Own P w K mg base 1 "_law_may" [] (spD 3 G_lmay) := by
  refine Df.own (ps := ["_law_near_here", "_law_far", "_law_starts"]) D (fun f fd F => okD F sc__law_may rfl fun cdv A outer s H E hr => ?_) fun _ _ _ _ _ _ us hl => match us, hl with | [_, _, _], _ => rfl
  have nd := sc__law_may.nd
  have hu := hr.units
  have hu1 := hu_of hr
  have hu5 := Room.units65 hr
  refine ⟨_, _, (dseq (dpar 4 5 rfl nd vnewN (PLd.v (lcL (dv 2) (plc (own := [("_law_s", 3)]) rfl nd (blkOk_by (by kernel_rfl)) (fun _ _ _ _ _ => (gname 3 nd)) (by decide) (fun _ _ _ _ _ => yes) (fun _ _ _ _ _ => (dtup (acons (dv 3) (acons (dtupRg rfl (by rfl) fr.tuple (by rfl) fr.range (dlen (by rfl) fr.len (dv 1))) anil))))))) (by rfl)) (dseq (dforR PassesOwn.never rfl (by rfl) fr.range (acons dint anil) (gname 6 nd) (dseq (difS (teq hu (dv 5) (dofl (ldisp anil))) (dlast (dret dbl)) dnil) (dseq (dpopTo 5 (gtup (n := 2) rfl (gcons (gname 3 nd) (gcons (gname 7 nd) gnil)))) (dlast (difS (tninN hu 4 (dtup (acons (dv 3) (acons (dv 7) anil)))) (dseq (dsetN hu 4 (dtup (acons (dv 3) (acons (dv 7) anil))) dbl) (dlast (dforR PassesOwn.never rfl (by rfl) fr.range (acons (dlen (by rfl) fr.len (dix (dv 0) (dv 3))) anil) (gname 8 nd) (dseq (dasg (dix (dix (dv 0) (dv 3)) (dv 8)) (gtup (n := 2) rfl (gcons (gname 9 nd) (gcons (gname 10 nd) gnil)))) (dseq (dset 12 nd (PD.v (dtupOfL (by rfl) fr.tuple (lsortI rfl (by rfl) fr.sorted (by rfl) fr.set (dofl (lcT (dv 7) (plc (own := [("_law_t", 11)]) rfl nd (blkOk_by (by kernel_rfl)) (fun _ _ _ _ _ => (gname 11 nd)) (by decide) (fun _ _ _ _ _ => only (teq hu (dix (dix (dix (dv 1) (dv 11)) (dv 8)) dint) (dv 10))) (fun _ _ _ _ _ => (dix (dix (dix (dv 1) (dv 11)) (dv 8)) dint))))))))) (dseq (difS (teq hu (dv 12) (dtup anil)) (dlast (dret dbl)) dnil) (dlast (dappend 5 (dtup (acons (dv 9) (acons (dv 12) anil))))))))))) dnil))))) (dlast (dret dnon)))), fun as Fp hl hG => ?_⟩
  obtain ⟨m, n, wd, S, rfl, o1, o2, hS5, hS, hf⟩ := hG
  have hm5 := o1.small
  have hn5 := o2.small
  have hw4 := o1.wsmall
  refine ⟨_, _, rfl, rfl, _, rfl, by rw [List.length_map]; omega, dColl_one (zs := S) (enc := eI) (fun s => eU (s, List.range n.length)) (fun s hs R hR => ⟨rfl, _, _, rfl, rfl, _, _, rfl, rfl, _, n.map eR, rfl, rfl, (n.length : Nat), by rw [List.length_map], by omega, by omega, by show 2 ≤ 100000; decide, rfl, noL_eU (s, List.range n.length), hR⟩) ⟨rfl, noLs_map _ _ fun s _ => noL_eU (s, List.range n.length), fun p4 p5 => ?_⟩⟩
  refine ⟨3000, rfl, by omega, fun i τ => ∃ V Z x3 x6 x7 x8 x9 x10 x12, τ = [some (.d (eM m)), some (.d (eM n)), some (.d (.list (S.map eI))), x3, some (.n p4 (V.map fun q => (eU q, .bool true))), some (.l p5 (Z.map eU)), x6, x7, x8, x9, x10, none, x12] ∧ LInv m n wd S i V Z, ⟨[], S.map fun s => (s, List.range n.length), _, _, _, _, _, _, _, by rw [List.map_map]; rfl, LInv.start o2 hS⟩, fun _ _ _ _ => trivial, fun i x τ' hx hw => ?_, fun τ' hw => ?_⟩
  · obtain ⟨V, Z, x3, x6, x7, x8, x9, x10, x12, rfl, hI⟩ := hw
    have hil : i < 3000 := by
      have := (List.getElem?_eq_some_iff.mp hx).1
      rw [rgD_len] at this
      exact this
    rw [rgD_at hil] at hx
    cases hx
    refine ⟨rfl, _, _, rfl, rfl, by show 0 ≤ 100000; decide, rfl, rfl, rfl, shaped_eUs _, rfl, _, rfl, ?_⟩
    rw [eqv_nil]
    rcases List.eq_nil_or_concat Z with rfl | ⟨Z', q, hZ⟩
    · exact hf true ⟨fun _ => hI.yes o1 o2 hS, fun _ => rfl⟩
    · rw [List.concat_eq_append] at hZ
      subst hZ
      rw [show (List.map eU (Z' ++ [q])).isEmpty = false by simp]
      obtain ⟨hqo, hqn⟩ := hI.ok q (.inr (by simp))
      have hs := hqo.1
      have hq5 := st_len o2 hqo
      have hlp := hI.laps o1 o2 hS5
      rw [List.length_append] at hlp
      refine ⟨p5, Z'.map eU, eU q, by rw [List.map_append]; rfl, dg2 rfl (noL_eS _) ⟨_, _, rfl, rfl, _, _, rfl, rfl, by show 2 ≤ 100000; decide, rfl, p4, _, rfl, tupD_eU q, fun c hc => ?_⟩⟩
      have hc2 : c = true ↔ q ∈ V := by
        rw [hc, List.map_map]
        constructor
        · intro h
          obtain ⟨u, hu, e⟩ := List.mem_map.mp h
          rw [← eU_inj e]
          exact hu
        · intro h
          exact List.mem_map.mpr ⟨q, h, rfl⟩
      cases c with
      | true => exact ⟨V, Z', _, _, _, _, _, _, _, rfl, hI.old (hc2.mp rfl)⟩
      | false =>
        have hqv : q ∉ V := fun h => absurd (hc2.mpr h) (by decide)
        have hV := hI.few o1 o2
        refine ⟨p4, _, rfl, _, _, rfl, rfl, _, _, rfl, rfl, by show 2 ≤ 100000; decide, rfl, tupD_eU q, noL_eU q, rfl, ?_, by rw [List.length_map]; omega, ?_⟩
        · intro h
          exact absurd (hc.mpr h) (by decide)
        · refine ⟨_, _, rfl, rfl, _, _, rfl, rfl, dIx_nat rfl (at_eM hs) ⟨_, _, rfl, rfl, wd, by rw [List.length_map, o1.row_len hs], by omega, fun j τ => ∃ x8 x9 x10 x12, τ = [some (.d (eM m)), some (.d (eM n)), some (.d (.list (S.map eI))), some (.d (eI q.1)), some (.n p4 (V.map (fun q => (eU q, .bool true)) ++ [(eU q, .bool true)])), some (.l p5 ((Z' ++ ((List.range wd).take j).map (stp m n q)).map eU)), some (.d (eI i)), some (.d (eS q.2)), x8, x9, x10, none, x12] ∧ ∀ x, x < j → (stp m n q x).2 ≠ [], ⟨x8, x9, x10, x12, by rw [List.take_zero, List.map_nil, List.append_nil]; rfl, fun x hx => absurd hx (Nat.not_lt_zero x)⟩, fun _ _ _ _ => trivial, fun j x τ' hx hw => ?_, fun τ' hw => ?_⟩⟩
          · obtain ⟨x8, x9, x10, x12, rfl, hne⟩ := hw
            have hjl : j < wd := by
              have := (List.getElem?_eq_some_iff.mp hx).1
              rw [rgD_len] at this
              exact this
            rw [rgD_at hjl] at hx
            cases hx
            have hp1 : (row m q.1)[j]? = some (nx m q.1 j, an m q.1 j) := by
              rw [List.getElem?_eq_getElem (by rw [o1.row_len hs]; exact hjl), o1.pair hs hjl]
            have hp2 : ∀ t, t ∈ q.2 → (row n t)[j]? = some (nx n t j, an n t j) := fun t ht => by
              rw [List.getElem?_eq_getElem (by rw [o2.row_len (hqo.lt t ht)]; exact hjl), o2.pair (hqo.lt t ht) hjl]
            refine ⟨rfl, _, _, rfl, rfl, _, _, rfl, rfl, dIx_nat rfl (at_eM hs) ⟨_, _, rfl, rfl, dIx_nat rfl (at_map hp1) (dg2 rfl rfl ⟨_, _, rfl, rfl, _, rfl, by rw [List.length_map]; omega, dColl_filter (zs := q.2) (enc := eI) (fun t => decide (an n t j = an m q.1 j)) (fun t => eI (nx n t j)) (fun t ht R h1 h2 => ⟨rfl, _, _, rfl, rfl, _, _, rfl, rfl, dIx_nat rfl (at_eM (hqo.lt t ht)) ⟨_, _, rfl, rfl, dIx_nat rfl (at_map (hp2 t ht)) (dIx_nat (k := 1) rfl rfl ⟨_, _, rfl, rfl, rfl, rfl, shaped_eI _, shaped_eI _, _, rfl, ?_⟩)⟩⟩) ⟨((q.2.filter fun t => decide (an n t j = an m q.1 j)).map fun t => nx n t j).map fun n => ((n : Nat) : Int), by rw [List.map_map, List.map_map]; rfl, ?_, fun rs hp hm => ?_⟩⟩)⟩⟩
            · rw [eqv_eI]
              cases e : decide (an n t j = an m q.1 j) with
              | true => exact ⟨_, _, rfl, rfl, _, _, rfl, rfl, dIx_nat rfl (at_eM (hqo.lt t ht)) ⟨_, _, rfl, rfl, dIx_nat rfl (at_map (hp2 t ht)) (dIx_nat (k := 0) rfl rfl ⟨rfl, h1 e⟩)⟩⟩
              | false => exact h2 e
            · rw [List.length_map, List.length_map]
              have := List.length_filter_le (fun t => decide (an n t j = an m q.1 j)) q.2
              omega
            · obtain ⟨xs, rfl, h3⟩ := ints_back (xs := (q.2.filter fun t => decide (an n t j = an m q.1 j)).map fun t => nx n t j) fun r hr => (hm r).mp hr
              have h4 : xs = (stp m n q j).2 := by
                refine sorted_ext _ _ ((List.pairwise_map.mp hp).imp fun h => by omega) (setN_sorted _ _) fun x => ?_
                show x ∈ xs ↔ x ∈ leftBy n q.2 j (an m q.1 j)
                rw [mem_left fun t ht => o2.nx_lt (hqo.lt t ht) hjl]
                constructor
                · intro h
                  obtain ⟨t, ht, e⟩ := List.mem_map.mp (h3 x h)
                  have := List.mem_filter.mp ht
                  exact ⟨t, this.1, of_decide_eq_true this.2, e⟩
                · rintro ⟨t, ht, e1, e2⟩
                  obtain ⟨y, hy, e⟩ := List.mem_map.mp ((hm x).mpr (List.mem_map.mpr ⟨x, List.mem_map.mpr ⟨t, List.mem_filter.mpr ⟨ht, decide_eq_true e1⟩, e2⟩, rfl⟩))
                  have : y = x := by omega
                  rw [← this]
                  exact hy
              rw [h4, ← eI_ints]
              refine ⟨noL_eS (stp m n q j).2, fun _ => ⟨_, _, rfl, rfl, by show 0 ≤ 100000; decide, rfl, noF_noL (noL_eS (stp m n q j).2), rfl, shaped_eS (stp m n q j).2, rfl, _, rfl, ?_⟩⟩
              rw [show PyData.eqv (.tuple ((stp m n q j).2.map eI)) (.tuple []) = decide ((stp m n q j).2 = []) from eqv_eS (stp m n q j).2 []]
              by_cases hL : (stp m n q j).2 = []
              · rw [decide_eq_true hL]
                exact hf false ⟨fun h => (by cases h), fun h => absurd h (hI.no o1 o2 hS (.inr (by simp)) hjl hL)⟩
              · rw [decide_eq_false hL]
                refine ⟨p5, _, rfl, ?_, _, _, rfl, rfl, _, _, rfl, rfl, by show 2 ≤ 100000; decide, rfl, noL_eU (stp m n q j), some (.d (eI j)), some (.d (eI (nx m q.1 j))), some (.d (eI (an m q.1 j))), some (.d (eS (stp m n q j).2)), ?_, fun x hx => ?_⟩
                · rw [List.length_map, List.length_append, List.length_map, List.length_take, List.length_range]
                  omega
                · rw [List.take_add_one, List.getElem?_range hjl]
                  rw [show (Z' ++ ((List.range wd).take j ++ (some j).toList).map (stp m n q)).map eU = (Z' ++ ((List.range wd).take j).map (stp m n q)).map eU ++ [eU (stp m n q j)] by simp]
                  rfl
                · by_cases cx : x = j
                  · rw [cx]
                    exact hL
                  · exact hne x (by omega)
          · obtain ⟨x8, x9, x10, x12, rfl, hne⟩ := hw
            rw [rgD_len] at hne ⊢
            rw [List.take_of_length_le (by rw [List.length_range]; exact Nat.le_refl _)]
            exact ⟨V ++ [q], Z' ++ (List.range wd).map (stp m n q), _, _, _, _, _, _, _, by rw [List.map_append (f := fun q => (eU q, PyData.bool true))]; rfl, hI.new o1 hqv hne⟩
  · obtain ⟨V, Z, x3, x6, x7, x8, x9, x10, x12, rfl, hI⟩ := hw
    rw [rgD_len] at hI
    have := hI.laps o1 o2 hS5
    omega
end
end Wk
end

section
set_option Elab.async false
set_option linter.all false
set_option maxRecDepth 100000
set_option maxHeartbeats 8000000
set_option pp.maxSteps 2500
namespace Wk
open PySem PySem.Spec PyProof.Rows L2
section
variable {P : Program} {w : World} {K : PySem.W.Frag} {mg : Str → Option Value} {base : Heap}
theorem sc__law_same : FnScope ["_law_due", "_law_told", "_law_is_alike", "_law_k"] ["_law_due", "_law_told"] (defScope s__law_same) := ⟨rfl, rfl, rfl, by decide +kernel, rfl, by decide +kernel, by decide +kernel⟩
def G_same0 (ds : List PyData) (F : PyData → Prop) : Prop := ((∃ n : Nat, ds = [eI n, eI n]) ∨ (∃ b : Bool, ds = [.bool b, .bool b]) ∨ ds = [.none, .none]) ∧ F (.bool true)
theorem o_same0 (fr : Fre mg) (D : Df K mg "_law_same" s__law_same [] []) : Own P w K mg base 1 "_law_same" [] (spD 2 G_same0) := by
  refine Df.own (ps := ["_law_due", "_law_told"]) D (fun f fd F => okD F sc__law_same rfl fun cdv A outer s H E hr => ?_) fun _ _ _ _ _ _ us hl => match us, hl with | [_, _], _ => rfl
  have nd := sc__law_same.nd
  have hu := hr.units
  have hu1 := hu_of hr
  have hu5 := Room.units65 hr
  refine ⟨_, _, (dseq (difS (tw (tor (tval (disi "tuple" (by rfl) fr.isinstance (by rfl) fr.tuple (by decide +kernel) (dv 0))) (tor1 (tval (disi "list" (by rfl) fr.isinstance (by rfl) fr.list (by decide +kernel) (dv 0)))))) (dseq draise (dseq draise (dlast draise))) dnil) (dseq (difS (tw (tor (tisN (dv 0) dnon) (tor1 (tisN (dv 1) dnon)))) (dlast (dret (dand (disN (dv 0) dnon) (done_ (disN (dv 1) dnon))))) dnil) (dseq (difS (tw (tor (tval (disi "str" (by rfl) fr.isinstance (by rfl) fr.str (by decide +kernel) (dv 0))) (tor1 (tval (disi "str" (by rfl) fr.isinstance (by rfl) fr.str (by decide +kernel) (dv 1)))))) (dlast (dret (dand (disi "str" (by rfl) fr.isinstance (by rfl) fr.str (by decide +kernel) (dv 0)) (dand (disi "str" (by rfl) fr.isinstance (by rfl) fr.str (by decide +kernel) (dv 1)) (done_ (deq hu (dv 0) (dv 1))))))) dnil) (dseq (difS (tw (tor (tval (disi "bool" (by rfl) fr.isinstance (by rfl) fr.bool (by decide +kernel) (dv 0))) (tor1 (tval (disi "bool" (by rfl) fr.isinstance (by rfl) fr.bool (by decide +kernel) (dv 1)))))) (dlast (dret (dand (disi "bool" (by rfl) fr.isinstance (by rfl) fr.bool (by decide +kernel) (dv 0)) (dand (disi "bool" (by rfl) fr.isinstance (by rfl) fr.bool (by decide +kernel) (dv 1)) (done_ (deq hu (dv 0) (dv 1))))))) dnil) (dlast (dret (dand (disi "int" (by rfl) fr.isinstance (by rfl) fr.int (by decide +kernel) (dv 0)) (dand (disi "int" (by rfl) fr.isinstance (by rfl) fr.int (by decide +kernel) (dv 1)) (done_ (deq hu (dv 0) (dv 1))))))))))), fun as Fp hl hG => ?_⟩
  obtain ⟨hd, hf⟩ := hG
  rcases hd with ⟨n, rfl⟩ | ⟨b, rfl⟩ | rfl
  · refine ⟨_, _, rfl, rfl, false, rfl, rfl, false, rfl, ⟨_, _, rfl, rfl, false, rfl, rfl, false, rfl, ?_⟩⟩
    refine ⟨_, _, rfl, rfl, rfl, false, rfl, _, _, rfl, rfl, rfl, false, rfl, ?_⟩
    refine ⟨_, _, rfl, rfl, false, rfl, rfl, false, rfl, ⟨_, _, rfl, rfl, false, rfl, rfl, false, rfl, ?_⟩⟩
    refine ⟨_, _, rfl, rfl, false, rfl, rfl, false, rfl, ⟨_, _, rfl, rfl, false, rfl, rfl, false, rfl, ?_⟩⟩
    refine ⟨_, _, rfl, rfl, true, rfl, rfl, true, rfl, _, _, rfl, rfl, true, rfl, rfl, true, rfl, _, _, rfl, rfl, _, _, rfl, rfl, rfl, rfl, shaped_eI n, shaped_eI n, ?_⟩
    rw [eqv_eI, decide_eq_true rfl]
    exact hf
  · refine ⟨_, _, rfl, rfl, false, rfl, rfl, false, rfl, ⟨_, _, rfl, rfl, false, rfl, rfl, false, rfl, ?_⟩⟩
    refine ⟨_, _, rfl, rfl, rfl, false, rfl, _, _, rfl, rfl, rfl, false, rfl, ?_⟩
    refine ⟨_, _, rfl, rfl, false, rfl, rfl, false, rfl, ⟨_, _, rfl, rfl, false, rfl, rfl, false, rfl, ?_⟩⟩
    refine ⟨_, _, rfl, rfl, true, rfl, rfl, true, rfl, ?_⟩
    refine ⟨_, _, rfl, rfl, true, rfl, rfl, true, rfl, _, _, rfl, rfl, true, rfl, rfl, true, rfl, _, _, rfl, rfl, _, _, rfl, rfl, rfl, rfl, by cases b <;> rfl, by cases b <;> rfl, ?_⟩
    rw [show PyData.eqv (.bool b) (.bool b) = true by cases b <;> rfl]
    exact hf
  · refine ⟨_, _, rfl, rfl, false, rfl, rfl, false, rfl, ⟨_, _, rfl, rfl, false, rfl, rfl, false, rfl, ?_⟩⟩
    exact ⟨_, _, rfl, rfl, rfl, true, rfl, _, _, rfl, rfl, rfl, true, rfl, _, _, rfl, rfl, rfl, hf⟩
def G_same (ds : List PyData) (F : PyData → Prop) : Prop := (((∃ n : Nat, ds = [eI n, eI n]) ∨ (∃ b : Bool, ds = [.bool b, .bool b]) ∨ ds = [.none, .none]) ∨ (∃ (o : Option Nat) (b : Bool), ds = [.list [eO o, .bool b], .list [eO o, .bool b]])) ∧ F (.bool true)
theorem o_same (fr : Fre mg) (D : Df K mg "_law_same" s__law_same [] []) (O__law_same : Own P w K mg base 1 "_law_same" [] (spD 2 G_same0)) : Own P w K mg base 2 "_law_same" [] (spD 2 G_same) := by
  refine Df.own (ps := ["_law_due", "_law_told"]) D (fun f fd F => okD F sc__law_same rfl fun cdv A outer s H E hr => ?_) fun _ _ _ _ _ _ us hl => match us, hl with | [_, _], _ => rfl
  have nd := sc__law_same.nd
  have hu := hr.units
  have hu1 := hu_of hr
  have hu5 := Room.units65 hr
  refine ⟨_, _, (dseq (difS (tw (tor (tval (disi "tuple" (by rfl) fr.isinstance (by rfl) fr.tuple (by decide +kernel) (dv 0))) (tor1 (tval (disi "list" (by rfl) fr.isinstance (by rfl) fr.list (by decide +kernel) (dv 0)))))) (dseq (dset 2 nd (PD.v (deq hu (disi "tuple" (by rfl) fr.isinstance (by rfl) fr.tuple (by decide +kernel) (dv 0)) (disi "tuple" (by rfl) fr.isinstance (by rfl) fr.tuple (by decide +kernel) (dv 1))))) (dseq (difS (tw (tor (tnot (tval (dv 2))) (tor (tne hu (disi "list" (by rfl) fr.isinstance (by rfl) fr.list (by decide +kernel) (dv 0)) (disi "list" (by rfl) fr.isinstance (by rfl) fr.list (by decide +kernel) (dv 1))) (tor1 (tne hu (dlen (by rfl) fr.len (dv 0)) (dlen (by rfl) fr.len (dv 1))))))) (dlast (dret dbl)) dnil) (dlast (dret (deq hu (dofl (lcR (by rfl) fr.range (acons (dlen (by rfl) fr.len (dv 0)) anil) (plc (own := [("_law_k", 3)]) rfl nd (blkOk_by (by kernel_rfl)) (fun _ _ _ _ _ => (gname 3 nd)) (by decide) (fun _ _ _ _ _ => only (tnot (tval (dcall O__law_same (hr.mono (by decide)) (by rfl) (acons (dix (dv 0) (dv 3)) (acons (dix (dv 1) (dv 3)) anil)))))) (fun _ _ _ _ _ => (dv 3))))) (dofl (ldisp anil))))))) dnil) (dseq (difS (tw (tor (tisN (dv 0) dnon) (tor1 (tisN (dv 1) dnon)))) (dlast (dret (dand (disN (dv 0) dnon) (done_ (disN (dv 1) dnon))))) dnil) (dseq (difS (tw (tor (tval (disi "str" (by rfl) fr.isinstance (by rfl) fr.str (by decide +kernel) (dv 0))) (tor1 (tval (disi "str" (by rfl) fr.isinstance (by rfl) fr.str (by decide +kernel) (dv 1)))))) (dlast (dret (dand (disi "str" (by rfl) fr.isinstance (by rfl) fr.str (by decide +kernel) (dv 0)) (dand (disi "str" (by rfl) fr.isinstance (by rfl) fr.str (by decide +kernel) (dv 1)) (done_ (deq hu (dv 0) (dv 1))))))) dnil) (dseq (difS (tw (tor (tval (disi "bool" (by rfl) fr.isinstance (by rfl) fr.bool (by decide +kernel) (dv 0))) (tor1 (tval (disi "bool" (by rfl) fr.isinstance (by rfl) fr.bool (by decide +kernel) (dv 1)))))) (dlast (dret (dand (disi "bool" (by rfl) fr.isinstance (by rfl) fr.bool (by decide +kernel) (dv 0)) (dand (disi "bool" (by rfl) fr.isinstance (by rfl) fr.bool (by decide +kernel) (dv 1)) (done_ (deq hu (dv 0) (dv 1))))))) dnil) (dlast (dret (dand (disi "int" (by rfl) fr.isinstance (by rfl) fr.int (by decide +kernel) (dv 0)) (dand (disi "int" (by rfl) fr.isinstance (by rfl) fr.int (by decide +kernel) (dv 1)) (done_ (deq hu (dv 0) (dv 1))))))))))), fun as Fp hl hG => ?_⟩
  obtain ⟨hd | ⟨o, b, rfl⟩, hf⟩ := hG
  · rcases hd with ⟨n, rfl⟩ | ⟨b, rfl⟩ | rfl
    · refine ⟨_, _, rfl, rfl, false, rfl, rfl, false, rfl, ⟨_, _, rfl, rfl, false, rfl, rfl, false, rfl, ?_⟩⟩
      refine ⟨_, _, rfl, rfl, rfl, false, rfl, _, _, rfl, rfl, rfl, false, rfl, ?_⟩
      refine ⟨_, _, rfl, rfl, false, rfl, rfl, false, rfl, ⟨_, _, rfl, rfl, false, rfl, rfl, false, rfl, ?_⟩⟩
      refine ⟨_, _, rfl, rfl, false, rfl, rfl, false, rfl, ⟨_, _, rfl, rfl, false, rfl, rfl, false, rfl, ?_⟩⟩
      refine ⟨_, _, rfl, rfl, true, rfl, rfl, true, rfl, _, _, rfl, rfl, true, rfl, rfl, true, rfl, _, _, rfl, rfl, _, _, rfl, rfl, rfl, rfl, shaped_eI n, shaped_eI n, ?_⟩
      rw [eqv_eI, decide_eq_true rfl]
      exact hf
    · refine ⟨_, _, rfl, rfl, false, rfl, rfl, false, rfl, ⟨_, _, rfl, rfl, false, rfl, rfl, false, rfl, ?_⟩⟩
      refine ⟨_, _, rfl, rfl, rfl, false, rfl, _, _, rfl, rfl, rfl, false, rfl, ?_⟩
      refine ⟨_, _, rfl, rfl, false, rfl, rfl, false, rfl, ⟨_, _, rfl, rfl, false, rfl, rfl, false, rfl, ?_⟩⟩
      refine ⟨_, _, rfl, rfl, true, rfl, rfl, true, rfl, ?_⟩
      refine ⟨_, _, rfl, rfl, true, rfl, rfl, true, rfl, _, _, rfl, rfl, true, rfl, rfl, true, rfl, _, _, rfl, rfl, _, _, rfl, rfl, rfl, rfl, by cases b <;> rfl, by cases b <;> rfl, ?_⟩
      rw [show PyData.eqv (.bool b) (.bool b) = true by cases b <;> rfl]
      exact hf
    · refine ⟨_, _, rfl, rfl, false, rfl, rfl, false, rfl, ⟨_, _, rfl, rfl, false, rfl, rfl, false, rfl, ?_⟩⟩
      exact ⟨_, _, rfl, rfl, rfl, true, rfl, _, _, rfl, rfl, rfl, true, rfl, _, _, rfl, rfl, rfl, hf⟩
  · have hs2 : ∀ c : Bool, SeqAt.shaped (.bool c) = true := fun c => by cases c <;> rfl
    refine ⟨_, _, rfl, rfl, false, rfl, rfl, false, rfl, ⟨_, _, rfl, rfl, true, rfl, rfl, true, rfl, ?_⟩⟩
    refine ⟨_, _, rfl, rfl, false, rfl, rfl, _, _, rfl, rfl, false, rfl, rfl, rfl, rfl, hs2 _, hs2 _, rfl, fun _ => ?_⟩
    refine ⟨_, _, rfl, rfl, true, rfl, ⟨_, _, rfl, rfl, true, rfl, rfl, _, _, rfl, rfl, true, rfl, rfl, rfl, rfl, hs2 _, hs2 _, false, rfl, ?_⟩⟩
    refine ⟨_, _, rfl, rfl, _, _, rfl, rfl, _, _, rfl, rfl, _, _, rfl, rfl, rfl, rfl, shaped_eI 2, shaped_eI 2, false, rfl, ?_⟩
    refine ⟨_, _, rfl, rfl, _, _, rfl, rfl, 2, rfl, by omega, ?_⟩
    rw [rgD_eI]
    refine dColl_filter (zs := List.range 2) (enc := eI) (fun _ => false) eI (fun k hk R h1 h2 => ⟨rfl, _, _, rfl, rfl, ?_⟩) ⟨by show 0 ≤ 100000; decide, rfl, rfl, rfl, rfl, rfl, hf⟩
    have hk2 : k = 0 ∨ k = 1 := by
      have := List.mem_range.mp hk
      omega
    rcases hk2 with rfl | rfl
    · refine ⟨_, _, rfl, rfl, dIx_nat (k := 0) rfl rfl ⟨_, _, rfl, rfl, _, _, rfl, rfl, dIx_nat (k := 0) rfl rfl ⟨rfl, ?_, _, rfl, h2 rfl⟩⟩⟩
      cases o with
      | none => exact .inr (.inr rfl)
      | some j => exact .inl ⟨j, rfl⟩
    · exact ⟨_, _, rfl, rfl, dIx_nat (k := 1) rfl rfl ⟨_, _, rfl, rfl, _, _, rfl, rfl, dIx_nat (k := 1) rfl rfl ⟨rfl, .inr (.inl ⟨b, rfl⟩), _, rfl, h2 rfl⟩⟩⟩
end
end Wk
end

section
set_option Elab.async false
set_option linter.all false
set_option maxRecDepth 100000
set_option maxHeartbeats 8000000
set_option pp.maxSteps 3500
namespace Wk
open PySem PySem.Spec PyProof.Rows L2
theorem noL_eO (o : Option Nat) : noL (eO o) = true := by cases o <;> rfl
theorem noF_two (o : Option Nat) (b : Bool) : [eO o, PyData.bool b].all noF = true := by cases o <;> rfl
theorem shaped_b (c : Bool) : SeqAt.shaped (.bool c) = true := by cases c <;> rfl
theorem behind_len {m : Mc} (k : Nat) : (behind m k).length ≤ m.length := by
  have := nodup_len_le _ (List.range m.length) (behind_nodup m k) fun t ht => List.mem_range.mpr (behind_lt m k t ht)
  rw [List.length_range] at this
  exact this
theorem bool_iff {a b : Bool} (h : a = true ↔ b = true) : a = b := by
  cases a <;> cases b
  · rfl
  · exact absurd (h.mpr rfl) (by decide)
  · exact absurd (h.mp rfl) (by decide)
  · rfl
theorem eqv_bool (a : Bool) : PyData.eqv (.bool a) (.bool a) = true := by cases a <;> rfl
section
variable {P : Program} {w : World} {K : PySem.W.Frag} {mg : Str → Option Value} {base : Heap}
theorem sc__law_is_fine : FnScope ["_law_near_here", "_law_far", "_law_places", "_law_settled_here", "_law_shares_here", "_law_lap", "_law_least"] ["_law_near_here", "_law_far"] (defScope s__law_is_fine) := ⟨rfl, rfl, rfl, by decide +kernel, rfl, by decide +kernel, by decide +kernel⟩
def G_fine (ds : List PyData) (F : PyData → Prop) : Prop := ∃ (m n : Mc) (wd : Nat), ds = [eM m, eM n] ∧ Ok m wd ∧ Ok n wd ∧ F (.bool true)
theorem o_fine (fr : Fre mg) (D : Df K mg "_law_is_fine" s__law_is_fine [] []) (O__law_core_at : Own P w K mg base 2 "_law_core_at" [] (spL 1 G_coreAt)) (O__law_settled : Own P w K mg base 2 "_law_settled" [] (spD 2 G_lsettled)) (O__law_shares : Own P w K mg base 3 "_law_shares" [] (spD 2 G_lshares)) (O__law_same : Own P w K mg base 2 "_law_same" [] (spD 2 G_same)) (O__law_may : Own P w K mg base 1 "_law_may" [] (spD 3 G_lmay)) (O__law_behind : Own P w K mg base 1 "_law_behind" [] (spL 2 G_lbehind)) (O_settled_after : Own P w K mg base 7 "settled_after" [] (spD 1 G_settled)) (O_shares_cores : Own P w K mg base 8 "shares_cores" [] (spD 2 G_shares)) (O_may_replace : OwnK P w K mg base 9 "may_replace" 2 ["beats"] [.none] (spD 4 G_may)) (O_least_beats : Own P w K mg base 9 "least_beats" [.none] (spD 3 G_leastBy)) : Own P w K mg base 10 "_law_is_fine" [] (spD 2 G_fine) := by
  refine Df.own (ps := ["_law_near_here", "_law_far"]) D (fun f fd F => okD F sc__law_is_fine rfl fun cdv A outer s H E hr => ?_) fun _ _ _ _ _ _ us hl => match us, hl with | [_, _], _ => rfl
  have nd := sc__law_is_fine.nd
  have hu := hr.units
  have hu1 := hu_of hr
  have hu5 := Room.units65 hr
  refine ⟨_, _, (dseq (dset 2 nd (PLd.v (lcall O__law_core_at (hr.mono (by decide)) (by rfl) (acons (dv 0) anil)))) (dseq (dpar 3 4 rfl nd (PD.v (dcall O__law_settled (hr.mono (by decide)) (by rfl) (acons (dv 0) (acons (dv 2) anil)))) (PD.v (dcall O__law_shares (hr.mono (by decide)) (by rfl) (acons (dv 0) (acons (dv 1) anil)))) (by rfl)) (dseq (difS (tnot (tval (dcall O__law_same (hr.mono (by decide)) (by rfl) (acons (dofl (ldisp (acons (dv 3) (acons (dv 4) anil)))) (acons (dofl (ldisp (acons (dcall O_settled_after (hr.mono (by decide)) (by rfl) (acons (dv 0) anil)) (acons (dcall O_shares_cores (hr.mono (by decide)) (by rfl) (acons (dv 0) (acons (dv 1) anil))) anil)))) anil))))) (dlast (dret dbl)) dnil) (dseq (difS (tisN (dv 3) dnon) (dlast (dret dbl)) dnil) (dseq (dforL PassesOwn.never rfl (ldisp (acons (dv 3) (acons (dadd (dv 3) dint) (acons (dadd (dv 3) dint) (acons dint anil))))) (gname 5 nd) (dlast (difS (tnot (tval (dcall O__law_same (hr.mono (by decide)) (by rfl) (acons (dv 4) (acons (dcallK O_may_replace (hr.mono (by decide)) (by rfl) (acons (dv 0) (acons (dv 1) anil)) (dv 5)) anil))))) (dlast (dret dbl)) dnil))) (dseq (difS (tne hu (dcall O__law_may (hr.mono (by decide)) (by rfl) (acons (dv 0) (acons (dv 1) (acons (dofl (lcall O__law_behind (hr.mono (by decide)) (by rfl) (acons (dv 0) (acons (dv 3) anil)))) anil)))) (dv 4)) (dlast (dret dbl)) dnil) (dseq (dset 6 nd (PD.v (dcall O_least_beats (hr.mono (by decide)) (by rfl) (acons (dv 0) (acons (dv 1) anil))))) (dseq (difS (tnot (tval (dv 4))) (dlast (dret (disN (dv 6) dnon))) dnil) (dseq (difS (tw (tor (tval (disi "bool" (by rfl) fr.isinstance (by rfl) fr.bool (by decide +kernel) (dv 6))) (tor (tnot (tval (disi "int" (by rfl) fr.isinstance (by rfl) fr.int (by decide +kernel) (dv 6)))) (tor (tgt (dv 6) (dv 3)) (tor1 (tlt (dv 6) dint)))))) (dlast (dret dbl)) dnil) (dlast (dret (dand (dcallK O_may_replace (hr.mono (by decide)) (by rfl) (acons (dv 0) (acons (dv 1) anil)) (dv 6)) (done_ (dor (deq hu (dv 6) dint) (done_ (dnot (dcallK O_may_replace (hr.mono (by decide)) (by rfl) (acons (dv 0) (acons (dv 1) anil)) (dsub (dv 6) dint)))))))))))))))))), fun as Fp hl hG => ?_⟩
  obtain ⟨m, n, wd, rfl, o1, o2, hf⟩ := hG
  have hm5 := o1.small
  have hn5 := o2.small
  refine ⟨_, _, rfl, rfl, rfl, m, wd, rfl, o1, noLs_map _ _ fun _ _ => noL_eOM _, fun p2 => ⟨_, _, rfl, rfl, _, _, rfl, rfl, rfl, m, wd, rfl, o1, _, _, rfl, rfl, _, _, rfl, rfl, rfl, m, n, wd, rfl, o1, o2, noL_eO _, rfl, fun _ _ => ?_⟩⟩
  refine ⟨_, _, rfl, rfl, _, _, rfl, rfl, by show 2 ≤ 100000; decide, noF_two _ _, _, _, rfl, rfl, rfl, m, wd, rfl, o1, _, _, rfl, rfl, _, _, rfl, rfl, rfl, m, n, wd, rfl, o1, o2, by show 2 ≤ 100000; decide, noF_two _ _, rfl, .inr ⟨settled m, shares leM m n, rfl⟩, _, rfl, ?_⟩
  cases hst : settled m with
  | none => exact ⟨_, _, rfl, rfl, rfl, _, rfl, hf⟩
  | some k =>
    obtain ⟨hk, hkg⟩ := settled_some hst
    have hmay : ∀ j, k ≤ j → (May wd m n (behind m j) ↔ shares leM m n = true) := fun j hj => may_iff leM_ok o1 o2 hst hj
    refine ⟨_, _, rfl, rfl, rfl, _, rfl, ?_⟩
    refine ⟨_, _, rfl, rfl, _, _, rfl, rfl, _, _, rfl, rfl, _, _, rfl, rfl, _, _, rfl, rfl, by show 4 ≤ 100000; decide, rfl, rfl, fun i τ => ∃ x5, τ = [some (.d (eM m)), some (.d (eM n)), some (.l p2 ((coreAt leM m).map eOM)), some (.d (eI k)), some (.d (.bool (shares leM m n))), x5, none], ⟨none, rfl⟩, fun _ _ _ _ => trivial, fun i x τ' hx hw => ?_, fun τ' hw => ?_⟩
    · obtain ⟨x5, rfl⟩ := hw
      have hb : ∃ b : Nat, x = eI b ∧ k ≤ b := by
        match i, hx with
        | 0, hx => exact ⟨k, (Option.some.inj hx).symm, Nat.le_refl _⟩
        | 1, hx => exact ⟨k + 1, (Option.some.inj hx).symm, by omega⟩
        | 2, hx => exact ⟨k + 2, (Option.some.inj hx).symm, by omega⟩
        | 3, hx => exact ⟨1000, (Option.some.inj hx).symm, by omega⟩
        | i + 4, hx => exact absurd hx (by simp)
      obtain ⟨b, rfl, hb⟩ := hb
      refine ⟨rfl, _, _, rfl, rfl, _, _, rfl, rfl, _, _, rfl, rfl, _, _, rfl, rfl, rfl, rfl, m, n, wd, b, rfl, o1, o2, fun c hc => ?_⟩
      have hcs : c = shares leM m n := bool_iff (hc.trans (hmay _ (by omega)))
      subst hcs
      exact ⟨rfl, .inl (.inr (.inl ⟨_, rfl⟩)), _, rfl, some (.d (eI b)), rfl⟩
    · obtain ⟨x5, rfl⟩ := hw
      refine ⟨_, _, rfl, rfl, _, _, rfl, rfl, _, _, rfl, rfl, _, _, rfl, rfl, rfl, m, wd, k, rfl, o1, by omega, rfl, m, n, wd, behind m k, rfl, o1, o2, Nat.le_trans (behind_len k) hm5, behind_lt m k, fun c hc => ?_⟩
      have hcs : c = shares leM m n := bool_iff (hc.trans (hmay _ (Nat.le_refl _)))
      subst hcs
      refine ⟨_, _, rfl, rfl, rfl, rfl, shaped_b _, shaped_b _, _, rfl, ?_⟩
      rw [eqv_bool]
      refine ⟨_, _, rfl, rfl, _, _, rfl, rfl, rfl, m, n, wd, rfl, o1, o2, fun o ho => ⟨noL_eO o, fun _ => ⟨_, _, rfl, rfl, _, rfl, ?_⟩⟩⟩
      cases hsh : shares leM m n with
      | false =>
        cases o with
        | none => exact ⟨_, _, rfl, rfl, rfl, hf⟩
        | some j =>
          have := may_shares leM_ok o1 o2 ho.2.1
          rw [hsh] at this
          cases this
      | true =>
        have hmk := (hmay k (Nat.le_refl _)).mpr hsh
        cases o with
        | none => exact absurd hmk (ho k hk)
        | some j =>
          obtain ⟨hj, hjm, hjn⟩ := ho
          have hjk : j ≤ k := by
            cases Nat.lt_or_ge k j with
            | inl h => exact absurd hmk (hjn k h)
            | inr h => exact h
          refine ⟨_, _, rfl, rfl, false, rfl, rfl, false, rfl, ⟨_, _, rfl, rfl, true, rfl, rfl, true, rfl, ⟨_, _, rfl, rfl, _, _, rfl, rfl, _, _, rfl, rfl, _, rfl, ?_⟩⟩⟩
          rw [decide_eq_false (show ¬ ((k : Nat) : Int) < ((j : Nat) : Int) by omega)]
          refine ⟨_, _, rfl, rfl, _, _, rfl, rfl, _, rfl, ?_⟩
          rw [decide_eq_false (show ¬ ((j : Nat) : Int) < 0 by omega)]
          refine ⟨_, _, rfl, rfl, _, _, rfl, rfl, _, _, rfl, rfl, rfl, rfl, m, n, wd, j, rfl, o1, o2, fun c hc => ?_⟩
          rw [Nat.min_eq_left hj] at hc
          have hct := hc.mpr hjm
          subst hct
          refine ⟨_, rfl, _, _, rfl, rfl, rfl, rfl, shaped_eI j, shaped_eI 0, _, rfl, ?_⟩
          rw [show PyData.eqv (eO (some j)) (.int 0) = decide (j = 0) from eqv_eI j 0]
          by_cases h0 : j = 0
          · rw [decide_eq_true h0]
            exact hf
          · rw [decide_eq_false h0]
            refine ⟨_, _, rfl, rfl, _, _, rfl, rfl, _, _, rfl, rfl, _, _, rfl, rfl, rfl, rfl, m, n, wd, j - 1, ?_, o1, o2, fun c hc => ?_⟩
            · show [eM m, eM n, PyData.int (((j : Nat) : Int) - 1), PyData.none] = [eM m, eM n, PyData.int ((j - 1 : Nat) : Int), .none]
              rw [show ((j : Nat) : Int) - 1 = ((j - 1 : Nat) : Int) by omega]
            · rw [Nat.min_eq_left (by omega)] at hc
              have hcf : c = false := by
                cases c with
                | false => rfl
                | true => exact absurd (hc.mp rfl) (hjn _ (by omega))
              subst hcf
              exact ⟨_, rfl, hf⟩
end
end Wk
end

section
set_option Elab.async false
set_option linter.all false
set_option maxRecDepth 100000
set_option maxHeartbeats 8000000
set_option pp.maxSteps 2500
namespace Wk
open PySem PySem.Spec PyProof.Rows L2
theorem shaped_eO (o : Option Nat) : SeqAt.shaped (eO o) = true := by
  cases o with
  | none => rfl
  | some k => exact shaped_eI k
theorem eqv_eO0 (o : Option Nat) : PyData.eqv (eO o) (.int 0) = decide (o = some 0) := by
  cases o with
  | none => rfl
  | some k =>
    rw [show PyData.eqv (eO (some k)) (.int 0) = decide (k = 0) from eqv_eI k 0]
    exact decide_eq_decide.mpr ⟨fun h => by rw [h], fun h => Option.some.inj h⟩
theorem eqv_eMs (a b : List Mc) : PyData.eqv (.tuple (a.map eM)) (.tuple (b.map eM)) = decide (a = b) := by
  rw [Bool.eq_iff_iff, eqv_pure (.tuple (a.map eM)) (.tuple (b.map eM)) (pureDs_map _ _ fun m _ => pure_eM m) (pureDs_map _ _ fun m _ => pure_eM m), decide_eq_true_eq]
  exact ⟨fun h => map_inj (fun _ _ => eM_inj) (PyData.tuple.inj h), fun h => by rw [h]⟩
theorem shares_sub {m n : Mc} {wd : Nat} (o1 : Ok m wd) (o2 : Ok n wd) {Cs Ds : List Mc} (hC : CoresAre m Cs) (hD : CoresAre n Ds) : shares leM m n = true ↔ ∀ c ∈ Cs, c ∈ Ds := by
  unfold shares
  rw [List.all_eq_true]
  constructor
  · intro h c hc
    have := h (some c) ((mem_core o1 hC c).mp hc)
    rw [Option.isNone_some, Bool.false_or] at this
    exact (mem_core o2 hD c).mpr (of_decide_eq_true this)
  · intro h o ho
    cases o with
    | none => rfl
    | some c =>
      rw [Option.isNone_some, Bool.false_or]
      exact decide_eq_true ((mem_core o2 hD c).mp (h c ((mem_core o1 hC c).mpr ho)))
section
variable {P : Program} {w : World} {K : PySem.W.Frag} {mg : Str → Option Value} {base : Heap}
theorem sc__law_are_fine : FnScope ["_law_near_here", "_law_far"] ["_law_near_here", "_law_far"] (defScope s__law_are_fine) := ⟨rfl, rfl, rfl, by decide +kernel, rfl, by decide +kernel, by decide +kernel⟩
theorem o_areFine (fr : Fre mg) (D : Df K mg "_law_are_fine" s__law_are_fine [] []) (O__law_is_fine : Own P w K mg base 10 "_law_is_fine" [] (spD 2 G_fine)) (O__law_same : Own P w K mg base 2 "_law_same" [] (spD 2 G_same)) (O_settled_after : Own P w K mg base 7 "settled_after" [] (spD 1 G_settled)) (O_cores_of : Own P w K mg base 7 "cores_of" [] (spD 1 G_cores)) (O_are_alike : Own P w K mg base 8 "are_alike" [] (spD 2 G_alike)) : Own P w K mg base 11 "_law_are_fine" [] (spD 2 G_fine) := by
  refine Df.own (ps := ["_law_near_here", "_law_far"]) D (fun f fd F => okD F sc__law_are_fine rfl fun cdv A outer s H E hr => ?_) fun _ _ _ _ _ _ us hl => match us, hl with | [_, _], _ => rfl
  have nd := sc__law_are_fine.nd
  have hu := hr.units
  have hu1 := hu_of hr
  have hu5 := Room.units65 hr
  refine ⟨_, _, (dseq (difS (tw (tor (tnot (tval (dcall O__law_is_fine (hr.mono (by decide)) (by rfl) (acons (dv 0) (acons (dv 1) anil))))) (tor1 (tnot (tval (dcall O__law_is_fine (hr.mono (by decide)) (by rfl) (acons (dv 1) (acons (dv 0) anil)))))))) (dlast (dret dbl)) dnil) (dseq (difS (tw (tor (tne hu (dcall O_settled_after (hr.mono (by decide)) (by rfl) (acons (dv 0) anil)) dint) (tor1 (tne hu (dcall O_settled_after (hr.mono (by decide)) (by rfl) (acons (dv 1) anil)) dint)))) (dlast (dret dbl)) dnil) (dlast (dret (dcall O__law_same (hr.mono (by decide)) (by rfl) (acons (deq hu (dcall O_cores_of (hr.mono (by decide)) (by rfl) (acons (dv 0) anil)) (dcall O_cores_of (hr.mono (by decide)) (by rfl) (acons (dv 1) anil))) (acons (dcall O_are_alike (hr.mono (by decide)) (by rfl) (acons (dv 0) (acons (dv 1) anil))) anil))))))), fun as Fp hl hG => ?_⟩
  obtain ⟨m, n, wd, rfl, o1, o2, hf⟩ := hG
  have hm5 := o1.small
  have hn5 := o2.small
  refine ⟨_, _, rfl, rfl, _, _, rfl, rfl, rfl, m, n, wd, rfl, o1, o2, _, rfl, ⟨_, _, rfl, rfl, _, _, rfl, rfl, rfl, n, m, wd, rfl, o2, o1, _, rfl, ?_⟩⟩
  refine ⟨_, _, rfl, rfl, rfl, m, wd, rfl, o1, noF_noL (noL_eO _), rfl, shaped_eO _, shaped_eI 0, _, rfl, ?_⟩
  rw [eqv_eO0]
  by_cases h1 : settled m = some 0
  · rw [decide_eq_true h1]
    refine ⟨_, _, rfl, rfl, rfl, n, wd, rfl, o2, noF_noL (noL_eO _), rfl, shaped_eO _, shaped_eI 0, _, rfl, ?_⟩
    rw [eqv_eO0]
    by_cases h2 : settled n = some 0
    · rw [decide_eq_true h2]
      refine ⟨_, _, rfl, rfl, rfl, m, wd, rfl, o1, fun Cs hC => ⟨_, _, rfl, rfl, rfl, n, wd, rfl, o2, fun Ds hD => ⟨rfl, rfl, shaped_eMs Cs, shaped_eMs Ds, _, _, rfl, rfl, _, _, rfl, rfl, rfl, m, n, wd, rfl, o1, o2, fun c hc => ⟨rfl, .inl (.inr (.inl ⟨c, ?_⟩)), hf⟩⟩⟩⟩
      have e : PyData.eqv (.tuple (Cs.map eM)) (.tuple (Ds.map eM)) = c := by
        rw [eqv_eMs]
        refine bool_iff ?_
        rw [decide_eq_true_eq, hc, may_iff leM_ok o1 o2 h1 (Nat.le_refl 0), may_iff leM_ok o2 o1 h2 (Nat.le_refl 0), shares_sub o1 o2 hC hD, shares_sub o2 o1 hD hC]
        constructor
        · intro e
          subst e
          exact ⟨fun _ h => h, fun _ h => h⟩
        · intro h
          exact asc_ext leM_ok _ _ hC.1 hD.1 fun x => ⟨h.1 x, h.2 x⟩
      rw [e]
      rfl
    · rw [decide_eq_false h2]
      exact hf
  · rw [decide_eq_false h1]
    exact hf
theorem sc__law_called : FnScope ["_law_base", "_law_names_here", "_law_found", "_law_s", "_law_late", "_law_told"] ["_law_base", "_law_names_here"] (defScope s__law_called) := ⟨rfl, rfl, rfl, by decide +kernel, rfl, by decide +kernel, by decide +kernel⟩
def G_called (ds : List PyData) (F : PyData → Prop) : Prop := ∃ (m : Mc) (wd : Nat) (Q : List Nat), ds = [eM m, eS Q] ∧ Ok m wd ∧ Q.Perm (List.range m.length) ∧ ∀ m', Ok m' wd → m'.length = m.length → F (eM m')
theorem o_called (fr : Fre mg) (D : Df K mg "_law_called" s__law_called [] []) : Own P w K mg base 1 "_law_called" [] (spD 2 G_called) := by
  refine Df.own (ps := ["_law_base", "_law_names_here"]) D (fun f fd F => okD F sc__law_called rfl fun cdv A outer s H E hr => ?_) fun _ _ _ _ _ _ us hl => match us, hl with | [_, _], _ => rfl
  have nd := sc__law_called.nd
  have hu := hr.units
  have hu1 := hu_of hr
  have hu5 := Room.units65 hr
  refine ⟨_, _, (dseq (dset 2 nd (PLd.v (ldisp anil))) (dseq (dforT PassesOwn.never rfl (dv 1) (gname 3 nd) (dlast (dappend 2 (dtupOfL (by rfl) fr.tuple (lcT (dix (dv 0) (dv 3)) (plc (own := [("_law_late", 4), ("_law_told", 5)]) rfl nd (blkOk_by (by kernel_rfl)) (fun _ _ _ _ _ => (gtup (n := 2) rfl (gcons (gname 4 nd) (gcons (gname 5 nd) gnil)))) (by decide) (fun _ _ _ _ _ => yes) (fun _ _ _ _ _ => (dtup (acons (dindexT (dv 1) (dv 4)) (acons (dv 5) anil)))))))))) (dlast (dret (dtupOf (by rfl) fr.tuple (dv 2)))))), fun as Fp hl hG => ?_⟩
  obtain ⟨m, wd, Q, rfl, o1, hQ, hf⟩ := hG
  have hlen : Q.length = m.length := by
    have := hQ.length_eq
    rw [List.length_range] at this
    exact this
  have hm5 := o1.small
  have hmem : ∀ s, s ∈ Q ↔ s < m.length := fun s => by rw [hQ.mem_iff, List.mem_range]
  refine ⟨Nat.zero_le _, rfl, rfl, fun p => ⟨_, _, rfl, rfl, Q.map eI, rfl, noLs_map _ _ fun _ _ => rfl, fun i τ => ∃ x3, τ = [some (.d (eM m)), some (.d (eS Q)), some (.l p ((Q.take i).map fun s => eR ((row m s).map fun q => (Q.idxOf q.1, q.2)))), x3, none, none], ⟨none, rfl⟩, fun _ _ _ _ => trivial, fun i x τ' hx hw => ?_, fun τ' hw => ?_⟩⟩
  · obtain ⟨x3, rfl⟩ := hw
    rw [List.getElem?_map] at hx
    cases e : Q[i]? with
    | none => rw [e] at hx; cases hx
    | some s =>
      rw [e] at hx
      cases hx
      have hs : s < m.length := (hmem s).mp (List.mem_of_getElem? e)
      refine ⟨rfl, p, _, rfl, by rw [List.length_map, List.length_take]; omega, _, _, rfl, rfl, _, _, rfl, rfl, dIx_nat rfl (at_eM hs) ⟨_, rfl, ?_, dColl_one (zs := row m s) (enc := eP) (fun q => eP (Q.idxOf q.1, q.2)) (fun q hq R hR => dg2 rfl rfl ⟨_, _, rfl, rfl, Q.map fun n => ((n : Nat) : Int), by rw [← eI_ints]; rfl, _, _, rfl, rfl, _, rfl, List.mem_map.mpr ⟨q.1, (hmem _).mpr (o1.nxt _ (row_mem hs) q hq), rfl⟩, ?_⟩) ⟨?_, some (.d (eI s)), ?_⟩⟩⟩
      · rw [List.length_map, o1.row_len hs]
        have := o1.wsmall
        omega
      · rw [idxOf_map (fun n => ((n : Nat) : Int)) Q q.1 fun x _ h => by omega]
        exact ⟨_, _, rfl, rfl, by show 2 ≤ 100000; decide, rfl, rfl, hR⟩
      · exact noLs_map _ _ fun _ _ => rfl
      · have e2 : eR ((row m s).map fun q => (Q.idxOf q.1, q.2)) = .tuple ((row m s).map fun q => eP (Q.idxOf q.1, q.2)) := by
          unfold eR
          rw [List.map_map]
          rfl
        rw [← e2, List.take_add_one, e, List.map_append]
        rfl
  · obtain ⟨x3, rfl⟩ := hw
    rw [List.length_map, List.take_length]
    refine ⟨_, _, rfl, rfl, _, rfl, ?_⟩
    have e : eM (Q.map fun s => (row m s).map fun q => (Q.idxOf q.1, q.2)) = .tuple (Q.map fun s => eR ((row m s).map fun q => (Q.idxOf q.1, q.2))) := by
      unfold eM
      rw [List.map_map]
      rfl
    rw [← e]
    refine hf _ ⟨?_, o1.wp, fun r hr => ?_, fun r hr q hq => ?_, ?_, o1.wsmall⟩ ?_
    · rw [List.length_map, hlen]
      exact o1.ne
    · obtain ⟨s, hs, rfl⟩ := List.mem_map.mp hr
      rw [List.length_map]
      exact o1.row_len ((hmem s).mp hs)
    · obtain ⟨s, hs, rfl⟩ := List.mem_map.mp hr
      obtain ⟨q2, hq2, rfl⟩ := List.mem_map.mp hq
      rw [List.length_map]
      exact List.idxOf_lt_length_iff.mpr ((hmem _).mpr (o1.nxt _ (row_mem ((hmem s).mp hs)) q2 hq2))
    · rw [List.length_map, hlen]
      exact hm5
    · rw [List.length_map, hlen]
theorem sc__law_joined : FnScope ["_law_near_here", "_law_far", "_law_found", "_law_pairs", "_law_late", "_law_told"] ["_law_near_here", "_law_far"] (defScope s__law_joined) := ⟨rfl, rfl, rfl, by decide +kernel, rfl, by decide +kernel, by decide +kernel⟩
def G_joined (ds : List PyData) (F : PyData → Prop) : Prop := ∃ (m n : Mc) (wd : Nat), ds = [eM m, eM n] ∧ Ok m wd ∧ Ok n wd ∧ m.length + n.length ≤ 5 ∧ ∀ m', Ok m' wd → m'.length = m.length + n.length → F (eM m')
theorem o_joined (fr : Fre mg) (D : Df K mg "_law_joined" s__law_joined [] []) : Own P w K mg base 1 "_law_joined" [] (spD 2 G_joined) := by
  refine Df.own (ps := ["_law_near_here", "_law_far"]) D (fun f fd F => okD F sc__law_joined rfl fun cdv A outer s H E hr => ?_) fun _ _ _ _ _ _ us hl => match us, hl with | [_, _], _ => rfl
  have nd := sc__law_joined.nd
  have hu := hr.units
  have hu1 := hu_of hr
  have hu5 := Room.units65 hr
  refine ⟨_, _, (dseq (dset 2 nd (PLd.v (llistOf (by rfl) fr.list (dv 0)))) (dseq (dforT PassesOwn.never rfl (dv 1) (gname 3 nd) (dlast (dappend 2 (dtupOfL (by rfl) fr.tuple (lcT (dv 3) (plc (own := [("_law_late", 4), ("_law_told", 5)]) rfl nd (blkOk_by (by kernel_rfl)) (fun _ _ _ _ _ => (gtup (n := 2) rfl (gcons (gname 4 nd) (gcons (gname 5 nd) gnil)))) (by decide) (fun _ _ _ _ _ => yes) (fun _ _ _ _ _ => (dtup (acons (dadd (dv 4) (dlen (by rfl) fr.len (dv 0))) (acons (dv 5) anil)))))))))) (dlast (dret (dtupOf (by rfl) fr.tuple (dv 2)))))), fun as Fp hl hG => ?_⟩
  obtain ⟨m, n, wd, rfl, o1, o2, h5, hf⟩ := hG
  refine ⟨_, _, rfl, rfl, _, m.map eR, rfl, rfl, noLs_map _ _ fun r _ => noL_eR r, fun p => ⟨_, _, rfl, rfl, n.map eR, rfl, noLs_map _ _ fun r _ => noL_eR r, fun i τ => ∃ x3, τ = [some (.d (eM m)), some (.d (eM n)), some (.l p (m.map eR ++ (n.take i).map fun r => eR (r.map fun q => (q.1 + m.length, q.2)))), x3, none, none], ⟨none, by rw [List.take_zero, List.map_nil, List.append_nil]; rfl⟩, fun _ _ _ _ => trivial, fun i x τ' hx hw => ?_, fun τ' hw => ?_⟩⟩
  · obtain ⟨x3, rfl⟩ := hw
    rw [List.getElem?_map] at hx
    cases e : n[i]? with
    | none => rw [e] at hx; cases hx
    | some r =>
      rw [e] at hx
      cases hx
      have hr : r ∈ n := List.mem_of_getElem? e
      refine ⟨noL_eR r, p, _, rfl, by rw [List.length_append, List.length_map, List.length_map, List.length_take]; omega, _, _, rfl, rfl, _, rfl, ?_, dColl_one (zs := r) (enc := eP) (fun q => eP (q.1 + m.length, q.2)) (fun q hq R hR => dg2 rfl rfl ⟨_, _, rfl, rfl, _, _, rfl, rfl, _, m.map eR, rfl, rfl, _, _, rfl, rfl, _, _, rfl, rfl, by show 2 ≤ 100000; decide, rfl, rfl, ?_⟩) ⟨?_, some (.d (eR r)), ?_⟩⟩
      · rw [List.length_map, o2.wid r hr]
        have := o2.wsmall
        omega
      · rw [List.length_map]
        exact hR
      · exact noLs_map _ _ fun _ _ => rfl
      · have e2 : eR (r.map fun q => (q.1 + m.length, q.2)) = .tuple (r.map fun q => eP (q.1 + m.length, q.2)) := by
          unfold eR
          rw [List.map_map]
          rfl
        rw [← e2, List.take_add_one, e, List.map_append, ← List.append_assoc]
        rfl
  · obtain ⟨x3, rfl⟩ := hw
    rw [List.length_map, List.take_length]
    refine ⟨_, _, rfl, rfl, _, rfl, ?_⟩
    have e : eM (m ++ n.map fun r => r.map fun q => (q.1 + m.length, q.2)) = .tuple (m.map eR ++ n.map fun r => eR (r.map fun q => (q.1 + m.length, q.2))) := by
      unfold eM
      rw [List.map_append, List.map_map]
      rfl
    rw [← e]
    have hl2 : (m ++ n.map fun r => r.map fun q => (q.1 + m.length, q.2)).length = m.length + n.length := by rw [List.length_append, List.length_map]
    have := o1.ne
    refine hf _ ⟨by omega, o1.wp, fun r hr => ?_, fun r hr q hq => ?_, by omega, o1.wsmall⟩ hl2
    · rcases List.mem_append.mp hr with hr | hr
      · exact o1.wid r hr
      · obtain ⟨s, hs, rfl⟩ := List.mem_map.mp hr
        rw [List.length_map]
        exact o2.wid s hs
    · rw [hl2]
      rcases List.mem_append.mp hr with hr | hr
      · have := o1.nxt r hr q hq
        omega
      · obtain ⟨s, hs, rfl⟩ := List.mem_map.mp hr
        obtain ⟨q2, hq2, rfl⟩ := List.mem_map.mp hq
        have := o2.nxt s hs q2 hq2
        show q2.1 + m.length < _
        omega
end
end Wk
end

section
set_option Elab.async false
set_option linter.all false
set_option maxRecDepth 100000
set_option maxHeartbeats 4000000
namespace Wk
open PySem PySem.Spec PyProof.Rows L2
/-! ### the feed's numbers and cells -/
def dFeedN (i : Nat) : DTE := fun τ F => τ[i]? = some (some (.d (.dict []))) ∧ ∀ n : Int, F (.int n)
def dFeedSet (i : Nat) (dv : DTE) : DS := fun D τ => dv τ fun v => ∃ n : Int, v = .int n ∧ τ[i]? = some (some (.d (.dict []))) ∧ D.nx τ
def dFeedPar (f i j l : Nat) (c : Int) : DS := fun D τ => τ[f]? = some (some (.d (.dict []))) ∧ ∀ (n : Int) (ns : List Int), ns.length ≤ 63 → D.nx (((τ.set i (some (.d (.int n)))).set j (some (.d (.list (ns.map .int))))).set l (some (.d (.int c))))
def feedL (c : Addr) (a b t : Int) : List (Key × V) := [(Sum.inr "cells", V.ref c), (Sum.inr "next", V.int a), (Sum.inr "rest", V.int b), (Sum.inr "turn", V.int t)]
theorem rp_feed {H : Hp} {v : V} (h : Rp H v (.dict [])) : ∃ (p c : Addr) (a b t : Int) (ns : List Int), v = .ref p ∧ H p = some (.dK (feedL c a b t)) ∧ H c = some (.lst (ns.map V.int)) ∧ ns.length ≤ 63 := by
  rcases h with h | ⟨_, p, o, rfl, hp, c, a, b, t, ns, rfl, h1, h2⟩
  · cases h
  · exact ⟨p, c, a, b, t, ns, rfl, hp, h1, h2⟩
def FeedKey (s : Str) : Prop := ∀ c a b t, ∃ n, valV (feedL c a b t) (Sum.inr s) = some (.int n)
def FeedPut (s : Str) : Prop := ∀ c a b t n, ∃ a' b' t', putK (feedL c a b t) (Sum.inr s) (.int n) = feedL c a' b' t'
theorem key_next : FeedKey "next" := fun c a b t => ⟨a, rfl⟩
theorem key_rest : FeedKey "rest" := fun c a b t => ⟨b, rfl⟩
theorem key_turn : FeedKey "turn" := fun c a b t => ⟨t, rfl⟩
theorem put_next : FeedPut "next" := fun c a b t n => ⟨n, b, t, rfl⟩
theorem put_rest : FeedPut "rest" := fun c a b t n => ⟨a, n, t, rfl⟩
theorem put_turn : FeedPut "turn" := fun c a b t n => ⟨a, b, n, rfl⟩
theorem get_cells (c : Addr) (a b t : Int) : valV (feedL c a b t) (Sum.inr "cells") = some (.ref c) := rfl
theorem bp_ints {H : Hp} : ∀ ns : List Int, BpAll H (ns.map V.int) (ns.map PyData.int)
  | [] => .nil
  | n :: ns => .cons (.int n) (bp_ints ns)
section
variable {P : Program} {w : World} {s : Str}
theorem se_feedN {i : Nat} (hk : FeedKey s) : SE P w (tDGet (tVar i) (tC (.str s))) (dFeedN i) := ⟨fun {_ _ _ _} R {F} h {Q} k => by
  obtain ⟨hx, hf⟩ := h
  obtain ⟨u, hu, v, rfl, r, _⟩ := R.slot i _ hx
  obtain ⟨p, c, a, b, t, ns, rfl, hp, hc, hl⟩ := rp_feed r
  obtain ⟨n, hn⟩ := hk c a b t
  refine ⟨_, hu, p, .int n, rfl, ?_, k _ _ _ (Sm.refl _) (.inl (.int n)) (hf n)⟩
  rw [← hn]
  exact DGet.k (k := Sum.inr s) hp⟩
theorem ss_feedSet {i : Nat} {tv : TE} {dv : DTE} (hp : FeedPut s) (hv : SE P w tv dv) : SS P w (sDPut (tVar i) (tC (.str s)) tv) (dFeedSet i dv) := ⟨fun {H0 H σ τ} R {D} hh {E} W => hv.run R hh fun v H1 d e1 r1 h1 => by
  obtain ⟨n, rfl, hx, hf⟩ := h1
  have R1 := R.to e1
  obtain ⟨u, hu, x, rfl, r, _⟩ := R1.slot i _ hx
  obtain ⟨p, c, a, b, t, ns, rfl, hpp, hc, hl⟩ := rp_feed r
  obtain ⟨a', b', t', hput⟩ := hp c a b t n
  have s1 : Sm H1 (upd H1 p (.dK (feedL c a' b' t'))) := fun q o hq => by
    by_cases e : q = p
    · subst e
      rw [hpp] at hq
      cases hq
      exact .inr ⟨c, a, b, t, a', b', t', rfl, upd_same⟩
    · rw [upd_ne e]
      exact .inl hq
  refine ⟨_, hu, p, upd H1 p (.dK (feedL c a' b' t')), rfl, ?_, W.nx _ _ _ (R1.to s1) (Fr.sm (e1.trans s1)) hf⟩
  rw [r1.int, ← hput]
  exact DPut.k (k := Sum.inr s) hpp (by show 4 < sizeLine; decide)⟩
theorem ss_feedPar {f i j l : Nat} {n0 : Int} : SS P w (tPar3 i j l (tCons (tDGet (tVar f) (tC (.str "next"))) (tCons (tDGet (tVar f) (tC (.str "cells"))) (tCons (tC (.int n0)) tNil)))) (dFeedPar f i j l n0) := ⟨fun {H0 H σ τ} R {D} hh {E} W => by
  obtain ⟨hx, hf⟩ := hh
  obtain ⟨u, hu, x, rfl, r, r0⟩ := R.slot f _ hx
  have r0 := r0.resolve_left (by intro z; cases z)
  obtain ⟨p, c, a, b, t, ns, rfl, hpp, hc, hl⟩ := rp_feed r
  obtain ⟨p2, c2, a2, b2, t2, ns2, e2, hpp2, hc2, hl2⟩ := rp_feed r0
  cases e2
  have hcc : c2 = c ∧ ns2 = ns := by
    have e3 : c2 = c := by
      rcases R.sm p _ hpp2 with h | ⟨c3, _, _, _, _, _, _, eq, h⟩
      · rw [hpp] at h
        unfold feedL at h
        simp only [Option.some.injEq, HO.dK.injEq, List.cons.injEq, Prod.mk.injEq, V.ref.injEq, true_and] at h
        exact h.1.symm
      · unfold feedL feedO at *
        rw [hpp] at h
        simp only [Option.some.injEq, HO.dK.injEq, List.cons.injEq, Prod.mk.injEq, V.ref.injEq, true_and] at h eq
        rw [eq.1, h.1]
    subst e3
    have := R.sm.lst hc2
    rw [hc] at this
    simp only [Option.some.injEq, HO.lst.injEq] at this
    have hinj := List.map_inj_right (f := V.int) (fun a b h => by cases h; rfl) |>.mp this
    exact ⟨rfl, hinj.symm⟩
  obtain ⟨rfl, rfl⟩ := hcc
  refine ⟨_, hu, p, .int a, rfl, DGet.k (k := Sum.inr "next") hpp, _, hu, p, .ref c2, rfl, DGet.k (k := Sum.inr "cells") hpp, _, _, _, rfl, ?_⟩
  have R1 := R.setD (i := i) (.inl (.int a)) rfl
  have R2 : Rep P w H0 H ((σ.set i (some (.int a))).set j (some (.ref c2))) ((τ.set i (some (.d (.int a)))).set j (some (.d (.list (ns2.map .int))))) :=
    R1.set ⟨_, rfl, .inl (.lst hc (bp_ints ns2)), .inr (.inl (.lst hc2 (bp_ints ns2)))⟩ fun _ e => nomatch e
  have R3 := R2.setD (i := l) (.inl (.int n0)) rfl
  exact W.nx _ _ _ R3 (((Fr.setD (Sm.refl H)).trans (Fr.setD (Sm.refl H))).trans (Fr.setD (Sm.refl H))) (hf a ns2 hl)⟩
end
section
variable {X : Cx} {K : PySem.W.Frag} {pos pos' px py pz pt pt2 p1 p2 p3 p4 p5 p6 p7 : Pos} {x y z f s : Str} {e : Expr} {te : TE} {de : DTE} {k1 k2 k3 : Nat}
theorem dfeedN (i : Nat) (hu : X.A.units + 1 < cLine) (hk : FeedKey s) (hK : X.K = K := by rfl) (hN : X.N[i]? = some x := by rfl) (hv : Vis X.env.scope x := by first | exact Or.inl rfl | exact Or.inr (Or.inl rfl) | exact Or.inr (Or.inr rfl)) (hd : (x == ("__debug__" : Str)) = false := by decide)
    (hcd : (x == ("__classdict__" : Str)) = false := by decide) : PD X K (.Subscript (.Name x pos') (.Constant (.str s) k1 p1) pos) (tDGet (tVar i) (tC (.str s))) (dFeedN i) := ⟨hK, pe_dget hu (pe_var hN hv hd hcd) pe_str (fun _ _ => rfl), se_feedN hk⟩
theorem dfeedSet (i : Nat) (hu : X.A.units + 1 < cLine) (hk : FeedPut s) (he : PD X K e te de) (hN : X.N[i]? = some x := by rfl) (hv : Vis X.env.scope x := by first | exact Or.inl rfl | exact Or.inr (Or.inl rfl) | exact Or.inr (Or.inr rfl)) (hd : (x == ("__debug__" : Str)) = false := by decide)
    (hcd : (x == ("__classdict__" : Str)) = false := by decide) (hs : swapsWith e (some (.Subscript (.Name x p2) (.Constant (.str s) k1 p1) pos')) pos.line X.env = pure false := by rfl) :
    PSd X K (.Assign [.Subscript (.Name x p2) (.Constant (.str s) k1 p1) pos'] e pos) (sDPut (tVar i) (tC (.str s)) te) (dFeedSet i de) := by
  have hK := he.hK
  subst hK
  exact ⟨rfl, ps_dput hu (pe_var hN hv hd hcd) pe_str he.pe hs, ss_feedSet hk he.se⟩
theorem dfeedPar (g i j l : Nat) {n0 : Int} {kt kt2} (hu : X.A.units + 1 < cLine) (hc : X.calm = true) (hN : X.N.Nodup) (hw : swappedStores [.Tuple [.Name x px, .Name y py, .Name z pz] kt pt] (.Tuple [.Subscript (.Name f p1) (.Constant (.str "next") k1 p2) p3, .Subscript (.Name f p4) (.Constant (.str "cells") k2 p5) p6, .Constant (.int n0) k3 p7] kt2 pt2) X.env = pure (some [x, y, z])) (hK : X.K = K := by rfl) (hg : X.N[g]? = some f := by rfl) (hi : X.N[i]? = some x := by rfl) (hj : X.N[j]? = some y := by rfl) (hl : X.N[l]? = some z := by rfl) (hij : i ≠ j := by decide) (hil : i ≠ l := by decide) (hjl : j ≠ l := by decide)
    (hv : Vis X.env.scope f := by first | exact Or.inl rfl | exact Or.inr (Or.inl rfl) | exact Or.inr (Or.inr rfl)) (hd : (f == ("__debug__" : Str)) = false := by decide)
    (hcd : (f == ("__classdict__" : Str)) = false := by decide)
    (hx : X.env.scope.names.lookup x = some .local := by rfl) (hy : X.env.scope.names.lookup y = some .local := by rfl) (hz : X.env.scope.names.lookup z = some .local := by rfl)
    (st1 : starEach [.Subscript (.Name f p1) (.Constant (.str "next") k1 p2) p3, .Subscript (.Name f p4) (.Constant (.str "cells") k2 p5) p6, .Constant (.int n0) k3 p7] X.env = (false, eval (.Subscript (.Name f p1) (.Constant (.str "next") k1 p2) p3) X.env) :: starEach [.Subscript (.Name f p4) (.Constant (.str "cells") k2 p5) p6, .Constant (.int n0) k3 p7] X.env := by rfl)
    (st2 : starEach [.Subscript (.Name f p4) (.Constant (.str "cells") k2 p5) p6, .Constant (.int n0) k3 p7] X.env = (false, eval (.Subscript (.Name f p4) (.Constant (.str "cells") k2 p5) p6) X.env) :: starEach [.Constant (.int n0) k3 p7] X.env := by rfl)
    (st3 : starEach [.Constant (.int n0) k3 p7] X.env = (false, eval (.Constant (.int n0) k3 p7) X.env) :: starEach [] X.env := by rfl)
    (hs : swapsWithSole [.Tuple [.Name x px, .Name y py, .Name z pz] kt pt] (.Tuple [.Subscript (.Name f p1) (.Constant (.str "next") k1 p2) p3, .Subscript (.Name f p4) (.Constant (.str "cells") k2 p5) p6, .Constant (.int n0) k3 p7] kt2 pt2) pos.line X.env = pure false := by rfl) :
    PSd X K (.Assign [.Tuple [.Name x px, .Name y py, .Name z pz] kt pt] (.Tuple [.Subscript (.Name f p1) (.Constant (.str "next") k1 p2) p3, .Subscript (.Name f p4) (.Constant (.str "cells") k2 p5) p6, .Constant (.int n0) k3 p7] kt2 pt2) pos) (tPar3 i j l (tCons (tDGet (tVar g) (tC (.str "next"))) (tCons (tDGet (tVar g) (tC (.str "cells"))) (tCons (tC (.int n0)) tNil)))) (dFeedPar g i j l n0) :=
  ⟨hK, ps_par3 hc hN hi hj hl hij hil hjl hx hy hz (pa_cons (pe_dget hu (pe_var hg hv hd hcd) pe_str (fun _ _ => rfl)) (pa_cons (pe_dget hu (pe_var hg hv hd hcd) pe_str (fun _ _ => rfl)) (pa_cons pe_int pa_nil st3) st2) st1) hw hs, ss_feedPar⟩
theorem dpow {a b : Expr} {ta tb : TE} {da db : DTE} (ha : PD X K a ta da) (hb : PD X K b tb db) : PD X K (.BinOp a .Pow b pos) (tOp (rI CPow fun i j => .int (i ^ j.toNat)) ta tb) (dOp (dI2c CPow fun i j => .int (i ^ j.toNat)) da db) := by
  have hK := ha.hK
  subst hK
  exact ⟨rfl, pe_op op_pow ha.pe hb.pe, se_op (so_I fun _ _ _ => .int _) ha.se hb.se⟩
end
end Wk
end

section
set_option Elab.async false
set_option linter.all false
set_option maxRecDepth 100000
set_option maxHeartbeats 8000000
set_option pp.maxSteps 2500
namespace Wk
open PySem PySem.Spec PyProof.Rows L2
theorem mulB {z M j : Int} (h0 : 0 < M) (h1 : M < 4294967296) : CMul (z % M) j := by
  have a := Int.emod_nonneg z (Int.ne_of_gt h0)
  have b := Int.emod_lt_of_pos z h0
  exact .inl ⟨by omega, by omega⟩
theorem shaped_ints (ns : List Int) : SeqAt.shaped (.list (ns.map .int)) = true := shaped_list (pureDs_map _ _ fun _ _ => rfl) fun d hd => by
  obtain ⟨x, _, rfl⟩ := List.mem_map.mp hd
  simp [PyData.depth]
section
variable {P : Program} {w : World} {K : PySem.W.Frag} {mg : Str → Option Value} {base : Heap}
theorem sc__law_pick : FnScope ["_law_feed_here", "_law_limit", "_law_figure", "_law_here", "_law_cells", "_law_cell", "_law_mixed"] ["_law_feed_here", "_law_limit"] (defScope s__law_pick) := ⟨rfl, rfl, rfl, by decide +kernel, rfl, by decide +kernel, by decide +kernel⟩
def G_pick (ds : List PyData) (F : PyData → Prop) : Prop := ∃ L : Nat, ds = [.dict [], eI L] ∧ 0 < L ∧ L < 1000 ∧ ∀ r : Nat, r < L → F (eI r)
theorem o_pick (fr : Fre mg) (D : Df K mg "_law_pick" s__law_pick [] []) : Own P w K mg base 1 "_law_pick" [] (spD 2 G_pick) := by
  refine Df.own (ps := ["_law_feed_here", "_law_limit"]) D (fun f fd F => okD F sc__law_pick rfl fun cdv A outer s H E hr => ?_) fun _ _ _ _ _ _ us hl => match us, hl with | [_, _], _ => rfl
  have nd := sc__law_pick.nd
  have hu := hr.units
  have hu1 := hu_of hr
  have hu5 := Room.units65 hr
  refine ⟨_, _, (dseq (dfeedSet 0 hu1 put_turn (dadd (dfeedN 0 hu1 key_turn) dint)) (dseq (difS (tgt (dfeedN 0 hu1 key_rest) dint) (dseq (dset 2 nd (PD.v (dmod (dtoint (by rfl) fr.int (dfeedN 0 hu1 key_rest)) (dv 1)))) (dseq (dfeedSet 0 hu1 put_rest (dfdiv (dfeedN 0 hu1 key_rest) (dv 1))) (dlast (dret (dv 2))))) dnil) (dseq (dfeedPar 0 3 4 5 hu1 rfl nd (by rfl)) (dseq (dfeedSet 0 hu1 put_next (dadd (dv 3) dint)) (dseq (difS (tne hu (dv 4) (dofl (ldisp anil))) (dlast (dset 5 nd (PD.v (dix (dv 4) (dmod (dtoint (by rfl) fr.int (dv 3)) (dlen (by rfl) fr.len (dv 4))))))) dnil) (dseq (difS (tw (tand (tlt (dv 3) (dlen (by rfl) fr.len (dv 4))) (tand1 (tge (dv 5) (dpow dint dint))))) (dseq (dfeedSet 0 hu1 put_rest (dfdiv (dv 5) (dv 1))) (dlast (dret (dmod (dtoint (by rfl) fr.int (dv 5)) (dv 1))))) dnil) (dseq (dset 6 nd (PD.v (dmod (dtoint (by rfl) fr.int (dadd (dadd (dmod (dtoint (by rfl) fr.int (dv 5)) dint) (dmul dint (dfeedN 0 hu1 key_turn))) dint)) dint))) (dseq (dset 6 nd (PD.v (dmod (dtoint (by rfl) fr.int (dadd (dadd (dmul (dv 6) (dv 6)) (dmul dint (dfeedN 0 hu1 key_turn))) dint)) dint))) (dlast (dret (dmod (dtoint (by rfl) fr.int (dfdiv (dmod (dtoint (by rfl) fr.int (dadd (dmul (dv 6) (dv 6)) (dmul dint (dv 6)))) dint) dint)) (dv 1)))))))))))), fun as Fp hl hG => ?_⟩
  obtain ⟨L, rfl, hL0, hL1, hf⟩ := hG
  have q0 : (0 : Int) < 1000000963 := by decide
  have q1 : (0 : Int) < 2147483647 := by decide
  have q2 : (0 : Int) < 2147483629 := by decide
  have q3 : (0 : Int) < 2147483587 := by decide
  have hLp : (0 : Int) < ((L : Nat) : Int) := by omega
  have hLq : ((L : Nat) : Int) < 1073741824 := by omega
  have hmod : ∀ z : Int, Fp (.int (z % ((L : Nat) : Int))) := fun z => by
    have a := Int.emod_nonneg z (Int.ne_of_gt hLp)
    have b := Int.emod_lt_of_pos z hLp
    have e : z % ((L : Nat) : Int) = (((z % ((L : Nat) : Int)).toNat : Nat) : Int) := (Int.toNat_of_nonneg a).symm
    rw [e]
    exact hf _ (by omega)
  refine ⟨rfl, fun t0 => ⟨_, _, rfl, rfl, _, rfl, rfl, rfl, fun r0 => ⟨_, _, rfl, rfl, _, rfl, ?_⟩⟩⟩
  cases decide ((0 : Int) < r0) with
  | true => exact ⟨rfl, fun r1 => ⟨_, rfl, _, _, rfl, rfl, _, _, rfl, rfl, hLp, rfl, fun _ => ⟨rfl, fun r2 => ⟨_, _, rfl, rfl, _, _, rfl, rfl, ⟨hLp, hLq⟩, _, rfl, rfl, _, _, rfl, rfl, hmod _⟩⟩⟩⟩
  | false =>
    refine ⟨rfl, fun here ns hns => ⟨_, _, rfl, rfl, _, _, rfl, rfl, _, rfl, rfl, _, _, rfl, rfl, by show 0 ≤ 100000; decide, rfl, rfl, rfl, shaped_ints ns, rfl, _, rfl, ?_⟩⟩
    rw [eqv_nil]
    cases ns with
    | nil =>
      refine ⟨_, _, rfl, rfl, _, _, rfl, rfl, _, _, rfl, rfl, _, _, rfl, rfl, _, rfl, ?_⟩
      cases decide (here < _) with
      | false => exact ⟨_, _, rfl, rfl, _, rfl, _, _, rfl, rfl, q0, rfl, fun t1 => ⟨_, _, rfl, rfl, .inl ⟨by decide, by decide⟩, _, _, rfl, rfl, _, _, rfl, rfl, _, rfl, _, _, rfl, rfl, q1, rfl, fun _ => ⟨_, _, rfl, rfl, _, _, rfl, rfl, _, _, rfl, rfl, mulB (by decide) (by decide), rfl, fun t2 => ⟨_, _, rfl, rfl, .inl ⟨by decide, by decide⟩, _, _, rfl, rfl, _, _, rfl, rfl, _, rfl, _, _, rfl, rfl, q2, rfl, fun _ => ⟨_, _, rfl, rfl, _, _, rfl, rfl, _, _, rfl, rfl, mulB (by decide) (by decide), _, _, rfl, rfl, _, _, rfl, rfl, .inl ⟨by decide, by decide⟩, _, _, rfl, rfl, _, rfl, _, _, rfl, rfl, q3, _, _, rfl, rfl, ⟨by decide, by decide⟩, _, rfl, _, _, rfl, rfl, _, _, rfl, rfl, hLp, hmod _⟩⟩⟩⟩⟩
      | true =>
        refine ⟨_, _, rfl, rfl, _, _, rfl, rfl, ⟨by decide, by decide, by decide⟩, _, _, rfl, rfl, _, rfl, ?_⟩
        cases decide ((_ : Int) ≤ _) with
        | true => exact ⟨_, _, rfl, rfl, _, _, rfl, rfl, _, _, rfl, rfl, ⟨hLp, hLq⟩, _, rfl, rfl, _, _, rfl, rfl, _, rfl, _, _, rfl, rfl, _, _, rfl, rfl, hLp, hmod _⟩
        | false => exact ⟨_, _, rfl, rfl, _, rfl, _, _, rfl, rfl, q0, rfl, fun t1 => ⟨_, _, rfl, rfl, .inl ⟨by decide, by decide⟩, _, _, rfl, rfl, _, _, rfl, rfl, _, rfl, _, _, rfl, rfl, q1, rfl, fun _ => ⟨_, _, rfl, rfl, _, _, rfl, rfl, _, _, rfl, rfl, mulB (by decide) (by decide), rfl, fun t2 => ⟨_, _, rfl, rfl, .inl ⟨by decide, by decide⟩, _, _, rfl, rfl, _, _, rfl, rfl, _, rfl, _, _, rfl, rfl, q2, rfl, fun _ => ⟨_, _, rfl, rfl, _, _, rfl, rfl, _, _, rfl, rfl, mulB (by decide) (by decide), _, _, rfl, rfl, _, _, rfl, rfl, .inl ⟨by decide, by decide⟩, _, _, rfl, rfl, _, rfl, _, _, rfl, rfl, q3, _, _, rfl, rfl, ⟨by decide, by decide⟩, _, rfl, _, _, rfl, rfl, _, _, rfl, rfl, hLp, hmod _⟩⟩⟩⟩⟩
    | cons n ns =>
      have hlp : (0 : Int) < ((((n :: ns).map PyData.int).length : Nat) : Int) := by
        rw [List.length_map, List.length_cons]
        omega
      have a := Int.emod_nonneg here (Int.ne_of_gt hlp)
      have b := Int.emod_lt_of_pos here hlp
      have e : here % ((((n :: ns).map PyData.int).length : Nat) : Int) = (((here % ((((n :: ns).map PyData.int).length : Nat) : Int)).toNat : Nat) : Int) := (Int.toNat_of_nonneg a).symm
      generalize hk : (here % ((((n :: ns).map PyData.int).length : Nat) : Int)).toNat = k at e
      have hkl : k < (n :: ns).length := by
        rw [List.length_map] at b e hk
        omega
      refine ⟨_, _, rfl, rfl, _, _, rfl, rfl, _, rfl, _, _, rfl, rfl, _, _, rfl, rfl, _, _, rfl, rfl, hlp, ?_⟩
      show dIx (.list ((n :: ns).map .int)) (.int (here % ((((n :: ns).map PyData.int).length : Nat) : Int))) _
      rw [e]
      refine dIx_nat rfl (at_map (List.getElem?_eq_getElem hkl)) ⟨rfl, fun _ => ?_⟩
      refine ⟨_, _, rfl, rfl, _, _, rfl, rfl, _, _, rfl, rfl, _, _, rfl, rfl, _, rfl, ?_⟩
      cases decide (here < _) with
      | false => exact ⟨_, _, rfl, rfl, _, rfl, _, _, rfl, rfl, q0, rfl, fun t1 => ⟨_, _, rfl, rfl, .inl ⟨by decide, by decide⟩, _, _, rfl, rfl, _, _, rfl, rfl, _, rfl, _, _, rfl, rfl, q1, rfl, fun _ => ⟨_, _, rfl, rfl, _, _, rfl, rfl, _, _, rfl, rfl, mulB (by decide) (by decide), rfl, fun t2 => ⟨_, _, rfl, rfl, .inl ⟨by decide, by decide⟩, _, _, rfl, rfl, _, _, rfl, rfl, _, rfl, _, _, rfl, rfl, q2, rfl, fun _ => ⟨_, _, rfl, rfl, _, _, rfl, rfl, _, _, rfl, rfl, mulB (by decide) (by decide), _, _, rfl, rfl, _, _, rfl, rfl, .inl ⟨by decide, by decide⟩, _, _, rfl, rfl, _, rfl, _, _, rfl, rfl, q3, _, _, rfl, rfl, ⟨by decide, by decide⟩, _, rfl, _, _, rfl, rfl, _, _, rfl, rfl, hLp, hmod _⟩⟩⟩⟩⟩
      | true =>
        refine ⟨_, _, rfl, rfl, _, _, rfl, rfl, ⟨by decide, by decide, by decide⟩, _, _, rfl, rfl, _, rfl, ?_⟩
        cases decide ((_ : Int) ≤ _) with
        | true => exact ⟨_, _, rfl, rfl, _, _, rfl, rfl, _, _, rfl, rfl, ⟨hLp, hLq⟩, _, rfl, rfl, _, _, rfl, rfl, _, rfl, _, _, rfl, rfl, _, _, rfl, rfl, hLp, hmod _⟩
        | false => exact ⟨_, _, rfl, rfl, _, rfl, _, _, rfl, rfl, q0, rfl, fun t1 => ⟨_, _, rfl, rfl, .inl ⟨by decide, by decide⟩, _, _, rfl, rfl, _, _, rfl, rfl, _, rfl, _, _, rfl, rfl, q1, rfl, fun _ => ⟨_, _, rfl, rfl, _, _, rfl, rfl, _, _, rfl, rfl, mulB (by decide) (by decide), rfl, fun t2 => ⟨_, _, rfl, rfl, .inl ⟨by decide, by decide⟩, _, _, rfl, rfl, _, _, rfl, rfl, _, rfl, _, _, rfl, rfl, q2, rfl, fun _ => ⟨_, _, rfl, rfl, _, _, rfl, rfl, _, _, rfl, rfl, mulB (by decide) (by decide), _, _, rfl, rfl, _, _, rfl, rfl, .inl ⟨by decide, by decide⟩, _, _, rfl, rfl, _, rfl, _, _, rfl, rfl, q3, _, _, rfl, rfl, ⟨by decide, by decide⟩, _, rfl, _, _, rfl, rfl, _, _, rfl, rfl, hLp, hmod _⟩⟩⟩⟩⟩
end
end Wk
end

section
set_option Elab.async false
set_option linter.all false
set_option maxRecDepth 100000
set_option maxHeartbeats 8000000
set_option pp.maxSteps 2500
namespace Wk
open PySem PySem.Spec PyProof.Rows L2
theorem dColl_any {xs : List PyData} {body : PyData → (List PyData → Prop) → Prop} {F : List PyData → Prop} (G : PyData → Prop) (h : ∀ x ∈ xs, ∀ R : List PyData → Prop, (∀ y, G y → R [y]) → body x R) (hf : ∀ ys : List PyData, ys.length = xs.length → (∀ y ∈ ys, G y) → F ys) : dColl xs body F :=
  dColl_rel (fun _ y => G y) h fun ys hl hg => hf ys hl fun y hy => by
    obtain ⟨i, hi, rfl⟩ := List.getElem_of_mem hy
    exact hg i (xs[i]'(by omega)) _ (List.getElem?_eq_getElem _) (List.getElem?_eq_getElem hi)
theorem back_map {α : Type} {f : α → PyData} {Q : α → Prop} : ∀ {ys : List PyData}, (∀ y ∈ ys, ∃ a, y = f a ∧ Q a) → ∃ as : List α, ys = as.map f ∧ as.length = ys.length ∧ ∀ a ∈ as, Q a
  | [], _ => ⟨[], rfl, rfl, fun a ha => by simp at ha⟩
  | y :: ys, h => by
    obtain ⟨as, rfl, hl, ha⟩ := back_map (ys := ys) fun z hz => h z (List.mem_cons_of_mem _ hz)
    obtain ⟨a, rfl, hq⟩ := h y (List.mem_cons_self ..)
    exact ⟨a :: as, rfl, by simp, fun b hb => by
      rcases List.mem_cons.mp hb with rfl | h2
      · exact hq
      · exact ha b h2⟩
theorem noL_rg {n : Nat} {x : PyData} (h : x ∈ rgD n) : noL x = true := by
  rw [rgD_eI] at h
  obtain ⟨k, _, rfl⟩ := List.mem_map.mp h
  rfl
theorem erase_map {α β : Type} (f : α → β) : ∀ (l : List α) (i : Nat), (l.map f).eraseIdx i = (l.eraseIdx i).map f
  | [], _ => rfl
  | _ :: _, 0 => rfl
  | a :: l, i + 1 => by
    show f a :: (l.map f).eraseIdx i = f a :: (l.eraseIdx i).map f
    rw [erase_map f l i]
theorem erase_perm {α : Type} : ∀ (l : List α) (i : Nat) (h : i < l.length), (l[i] :: l.eraseIdx i).Perm l
  | [], _, h => absurd h (by simp)
  | a :: l, 0, _ => .refl _
  | a :: l, i + 1, h => by
    have hi : i < l.length := by simpa using h
    have := erase_perm l i hi
    exact (List.Perm.swap a (l[i]'hi) _).trans (this.cons a)
section
variable {P : Program} {w : World} {K : PySem.W.Frag} {mg : Str → Option Value} {base : Heap}
theorem sc__law_names : FnScope ["_law_feed_here", "_law_size", "_law_left", "_law_names_here", "_law_lap"] ["_law_feed_here", "_law_size"] (defScope s__law_names) := ⟨rfl, rfl, rfl, by decide +kernel, rfl, by decide +kernel, by decide +kernel⟩
def G_names (ds : List PyData) (F : PyData → Prop) : Prop := ∃ n : Nat, ds = [.dict [], eI n] ∧ n ≤ 5 ∧ ∀ Q : List Nat, Q.Perm (List.range n) → F (eS Q)
theorem o_names (fr : Fre mg) (D : Df K mg "_law_names" s__law_names [] []) (O__law_pick : Own P w K mg base 1 "_law_pick" [] (spD 2 G_pick)) : Own P w K mg base 2 "_law_names" [] (spD 2 G_names) := by
  refine Df.own (ps := ["_law_feed_here", "_law_size"]) D (fun f fd F => okD F sc__law_names rfl fun cdv A outer s H E hr => ?_) fun _ _ _ _ _ _ us hl => match us, hl with | [_, _], _ => rfl
  have nd := sc__law_names.nd
  have hu := hr.units
  have hu1 := hu_of hr
  have hu5 := Room.units65 hr
  refine ⟨_, _, (dseq (dpar 2 3 rfl nd (PLd.v (llistRg rfl (by rfl) fr.list (by rfl) fr.range (dv 1))) (PLd.v (ldisp anil)) (by rfl)) (dseq (dforR PassesOwn.never rfl (by rfl) fr.range (acons (dv 1) anil) (gname 4 nd) (dlast (dappPop 3 2 (dcall O__law_pick (hr.mono (by decide)) (by rfl) (acons (dv 0) (acons (dlen (by rfl) fr.len (dv 2)) anil)))))) (dlast (dret (dtupOf (by rfl) fr.tuple (dv 3)))))), fun as Fp hl hG => ?_⟩
  obtain ⟨n, rfl, hn5, hf⟩ := hG
  refine ⟨_, _, rfl, rfl, (n : Nat), rfl, by omega, by omega, by show 0 ≤ 100000; decide, rfl, noLs_map _ _ fun _ _ => rfl, rfl, fun p2 p3 => ⟨_, _, rfl, rfl, n, rfl, by omega, fun i τ => ∃ (Lf Nm : List Nat) (x4 : Option DV), τ = [some (.d (.dict [])), some (.d (eI n)), some (.l p2 (Lf.map eI)), some (.l p3 (Nm.map eI)), x4] ∧ (Nm ++ Lf).Perm (List.range n) ∧ Nm.length = i, ⟨List.range n, [], none, rfl, .refl _, rfl⟩, fun _ _ _ _ => trivial, fun i x τ' hx hw => ?_, fun τ' hw => ?_⟩⟩
  · obtain ⟨Lf, Nm, x4, rfl, hp, hN⟩ := hw
    have hil : i < n := by
      have := (List.getElem?_eq_some_iff.mp hx).1
      rw [rgD_len] at this
      exact this
    have hlen := hp.length_eq
    rw [List.length_append, List.length_range] at hlen
    refine ⟨noL_rg (List.mem_of_getElem? hx), p3, _, p2, _, by decide, rfl, rfl, by rw [List.length_map]; omega, by rw [List.length_map]; omega, _, _, rfl, rfl, _, _, rfl, rfl, _, _, rfl, rfl, rfl, Lf.length, by rw [List.length_map]; rfl, by omega, by omega, fun r hr => ⟨r, eI Lf[r], rfl, at_map (List.getElem?_eq_getElem hr), Lf.eraseIdx r, Nm ++ [Lf[r]], some (.d x), ?_, ?_, ?_⟩⟩
    · rw [List.map_append, ← erase_map]
      rfl
    · rw [List.append_assoc]
      exact ((erase_perm Lf r hr).append_left Nm).trans hp
    · rw [List.length_append, hN]
      rfl
  · obtain ⟨Lf, Nm, x4, rfl, hp, hN⟩ := hw
    rw [rgD_len] at hN
    have hlen := hp.length_eq
    rw [List.length_append, List.length_range] at hlen
    have hL : Lf = [] := List.eq_nil_of_length_eq_zero (by omega)
    subst hL
    rw [List.append_nil] at hp
    exact ⟨_, _, rfl, rfl, _, rfl, hf Nm hp⟩
theorem sc__law_drawn : FnScope ["_law_feed_here", "_law_wide", "_law_most", "_law_top", "_law_size", "_law_s", "_law_x"] ["_law_feed_here", "_law_wide", "_law_most", "_law_top"] (defScope s__law_drawn) := ⟨rfl, rfl, rfl, by decide +kernel, rfl, by decide +kernel, by decide +kernel⟩
def G_drawn (ds : List PyData) (F : PyData → Prop) : Prop := ∃ wd most top : Nat, ds = [.dict [], eI wd, eI most, eI top] ∧ 0 < wd ∧ wd ≤ 4 ∧ 0 < most ∧ most ≤ 5 ∧ 0 < top ∧ top < 1000 ∧ ∀ m : Mc, Ok m wd → m.length ≤ most → F (eM m)
theorem o_drawn (fr : Fre mg) (D : Df K mg "_law_drawn" s__law_drawn [] []) (O__law_pick : Own P w K mg base 1 "_law_pick" [] (spD 2 G_pick)) : Own P w K mg base 2 "_law_drawn" [] (spD 4 G_drawn) := by
  refine Df.own (ps := ["_law_feed_here", "_law_wide", "_law_most", "_law_top"]) D (fun f fd F => okD F sc__law_drawn rfl fun cdv A outer s H E hr => ?_) fun _ _ _ _ _ _ us hl => match us, hl with | [_, _, _, _], _ => rfl
  have nd := sc__law_drawn.nd
  have hu := hr.units
  have hu1 := hu_of hr
  have hu5 := Room.units65 hr
  refine ⟨_, _, (dseq (dset 4 nd (PD.v (dadd dint (dcall O__law_pick (hr.mono (by decide)) (by rfl) (acons (dv 0) (acons (dv 2) anil)))))) (dlast (dret (dtupOfL (by rfl) fr.tuple (lcR (by rfl) fr.range (acons (dv 4) anil) (plc (own := [("_law_s", 5)]) rfl nd (blkOk_by (by kernel_rfl)) (fun _ _ _ _ _ => (gname 5 nd)) (by decide) (fun _ _ _ _ _ => yes) (fun _ _ _ _ _ => (dtupOfL (by rfl) fr.tuple (lcR (by rfl) fr.range (acons (dv 1) anil) (plc (own := [("_law_x", 6)]) rfl nd (blkOk_by (by kernel_rfl)) (fun _ _ _ _ _ => (gname 6 nd)) (by decide) (fun _ _ _ _ _ => yes) (fun _ _ _ _ _ => (dtup (acons (dcall O__law_pick (hr.mono (by decide)) (by rfl) (acons (dv 0) (acons (dv 4) anil))) (acons (dcall O__law_pick (hr.mono (by decide)) (by rfl) (acons (dv 0) (acons (dv 3) anil))) anil)))))))))))))), fun as Fp hl hG => ?_⟩
  obtain ⟨wd, most, top, rfl, hw0, hw4, hm0, hm5, ht0, ht1, hf⟩ := hG
  refine ⟨_, _, rfl, rfl, _, _, rfl, rfl, rfl, most, rfl, hm0, by omega, fun r hr => ⟨_, _, rfl, rfl, rfl, fun _ => ?_⟩⟩
  have h1r : (1 : Int) + ((r : Nat) : Int) = ((1 + r : Nat) : Int) := by omega
  refine ⟨_, _, rfl, rfl, 1 + r, by show [PyData.int ((1 : Int) + ((r : Nat) : Int))] = _; rw [h1r], by omega, dColl_any (fun y => ∃ row : List (Nat × Nat), y = eR row ∧ (row.length = wd ∧ ∀ p ∈ row, p.1 < 1 + r)) (fun x hx R hR => ⟨noL_rg hx, _, _, rfl, rfl, wd, rfl, by omega, dColl_any (fun y => ∃ p : Nat × Nat, y = eP p ∧ p.1 < 1 + r) (fun x hx R2 hR2 => ⟨noL_rg hx, _, _, rfl, rfl, _, _, rfl, rfl, rfl, 1 + r, by show [PyData.dict [], PyData.int ((1 : Int) + ((r : Nat) : Int))] = _; rw [h1r]; rfl, by omega, by omega, fun a ha => ⟨_, _, rfl, rfl, _, _, rfl, rfl, rfl, top, rfl, ht0, ht1, fun b hb => ⟨by show 2 ≤ 100000; decide, rfl, rfl, hR2 _ ⟨(a, b), rfl, ha⟩⟩⟩⟩) (fun ys hl hy => ?_)⟩) (fun ys hl hy => ?_)⟩
  · obtain ⟨row, rfl, hl2, hq⟩ := back_map hy
    rw [rgD_len] at hl
    exact ⟨noL_eR row, hR _ ⟨row, rfl, by omega, hq⟩⟩
  · obtain ⟨m, rfl, hl2, hq⟩ := back_map hy
    rw [rgD_len] at hl
    exact hf m ⟨by omega, hw0, fun r hr => (hq r hr).1, fun r hr p hp => by have := (hq r hr).2 p hp; omega, by omega, hw4⟩ (by omega)
theorem sc__law_led : FnScope ["_law_feed_here", "_law_base", "_law_more", "_law_found", "_law_lap", "_law_pair"] ["_law_feed_here", "_law_base", "_law_more"] (defScope s__law_led) := ⟨rfl, rfl, rfl, by decide +kernel, rfl, by decide +kernel, by decide +kernel⟩
def G_lled (ds : List PyData) (F : PyData → Prop) : Prop := ∃ (m : Mc) (wd more : Nat), ds = [.dict [], eM m, eI more] ∧ Ok m wd ∧ m.length + more ≤ 5 ∧ ∀ m' : Mc, Ok m' wd → m'.length = m.length + more → F (eM m')
theorem o_lled (fr : Fre mg) (D : Df K mg "_law_led" s__law_led [] []) (O__law_pick : Own P w K mg base 1 "_law_pick" [] (spD 2 G_pick)) : Own P w K mg base 2 "_law_led" [] (spD 3 G_lled) := by
  refine Df.own (ps := ["_law_feed_here", "_law_base", "_law_more"]) D (fun f fd F => okD F sc__law_led rfl fun cdv A outer s H E hr => ?_) fun _ _ _ _ _ _ us hl => match us, hl with | [_, _, _], _ => rfl
  have nd := sc__law_led.nd
  have hu := hr.units
  have hu1 := hu_of hr
  have hu5 := Room.units65 hr
  refine ⟨_, _, (dseq (dset 3 nd (PLd.v (llistOf (by rfl) fr.list (dv 1)))) (dseq (dforR PassesOwn.never rfl (by rfl) fr.range (acons (dv 2) anil) (gname 4 nd) (dlast (dappend 3 (dtupOfL (by rfl) fr.tuple (lcT (dix (dv 1) dint) (plc (own := [("_law_pair", 5)]) rfl nd (blkOk_by (by kernel_rfl)) (fun _ _ _ _ _ => (gname 5 nd)) (by decide) (fun _ _ _ _ _ => yes) (fun _ _ _ _ _ => (dtup (acons (dcall O__law_pick (hr.mono (by decide)) (by rfl) (acons (dv 0) (acons (dlen (by rfl) fr.len (dv 3)) anil))) (acons (dcall O__law_pick (hr.mono (by decide)) (by rfl) (acons (dv 0) (acons dint anil))) anil)))))))))) (dlast (dret (dtupOf (by rfl) fr.tuple (dv 3)))))), fun as Fp hl hG => ?_⟩
  obtain ⟨m, wd, more, rfl, o, h5, hf⟩ := hG
  have hm0 := o.ne
  refine ⟨_, _, rfl, rfl, _, m.map eR, rfl, rfl, noLs_map _ _ fun r _ => noL_eR r, fun p => ⟨_, _, rfl, rfl, more, rfl, by omega, fun i τ => ∃ (m' : Mc) (x4 : Option DV), τ = [some (.d (.dict [])), some (.d (eM m)), some (.d (eI more)), some (.l p (m'.map eR)), x4, none] ∧ m'.length = m.length + i ∧ (∀ r ∈ m', r.length = wd) ∧ ∀ r ∈ m', ∀ q ∈ r, q.1 < m.length + i, ⟨m, none, rfl, rfl, o.wid, o.nxt⟩, fun _ _ _ _ => trivial, fun i x τ' hx hw => ?_, fun τ' hw => ?_⟩⟩
  · obtain ⟨m', x4, rfl, h1, h2, h3⟩ := hw
    have hil : i < more := by
      have := (List.getElem?_eq_some_iff.mp hx).1
      rw [rgD_len] at this
      exact this
    refine ⟨noL_rg (List.mem_of_getElem? hx), p, _, rfl, by rw [List.length_map]; omega, _, _, rfl, rfl, dIx_nat (k := 0) rfl (at_eM hm0) ⟨_, rfl, ?_, dColl_any (fun y => ∃ q : Nat × Nat, y = eP q ∧ q.1 < m'.length) (fun x hx R hR => ⟨?_, _, _, rfl, rfl, _, _, rfl, rfl, _, _, rfl, rfl, rfl, m'.length, by rw [List.length_map]; rfl, by omega, by omega, fun a ha => ⟨_, _, rfl, rfl, rfl, 2, rfl, by omega, by omega, fun b hb => ⟨by show 2 ≤ 100000; decide, rfl, rfl, hR _ ⟨(a, b), rfl, ha⟩⟩⟩⟩) (fun ys hl hy => ?_)⟩⟩
    · rw [List.length_map, o.row_len hm0]
      have := o.wsmall
      omega
    · obtain ⟨q, _, rfl⟩ := List.mem_map.mp hx
      rfl
    · obtain ⟨row, rfl, hl2, hq⟩ := back_map hy
      rw [List.length_map, List.length_map, o.row_len hm0] at hl
      refine ⟨noL_eR row, m' ++ [row], _, by rw [List.map_append]; rfl, by rw [List.length_append, h1]; rfl, fun r hr => ?_, fun r hr q hq2 => ?_⟩
      · rcases List.mem_append.mp hr with hr | hr
        · exact h2 r hr
        · rw [List.mem_singleton.mp hr]
          omega
      · rcases List.mem_append.mp hr with hr | hr
        · have := h3 r hr q hq2
          omega
        · rw [List.mem_singleton.mp hr] at hq2
          have := hq q hq2
          omega
  · obtain ⟨m', x4, rfl, h1, h2, h3⟩ := hw
    rw [rgD_len] at h1 h3
    exact ⟨_, _, rfl, rfl, _, rfl, hf m' ⟨by omega, o.wp, h2, fun r hr q hq => by have := h3 r hr q hq; omega, by omega, o.wsmall⟩ h1⟩
theorem sc__law_near : FnScope ["_law_feed_here", "_law_wide", "_law_core", "_law_base"] ["_law_feed_here", "_law_wide", "_law_core"] (defScope s__law_near) := ⟨rfl, rfl, rfl, by decide +kernel, rfl, by decide +kernel, by decide +kernel⟩
def G_near (ds : List PyData) (F : PyData → Prop) : Prop := ∃ (m : Mc) (wd : Nat), ds = [.dict [], eI wd, eM m] ∧ Ok m wd ∧ m.length ≤ 3 ∧ ∀ m' : Mc, Ok m' wd → F (eM m')
theorem o_near (fr : Fre mg) (D : Df K mg "_law_near" s__law_near [] []) (O__law_pick : Own P w K mg base 1 "_law_pick" [] (spD 2 G_pick)) (O__law_names : Own P w K mg base 2 "_law_names" [] (spD 2 G_names)) (O__law_drawn : Own P w K mg base 2 "_law_drawn" [] (spD 4 G_drawn)) (O__law_led : Own P w K mg base 2 "_law_led" [] (spD 3 G_lled)) (O__law_called : Own P w K mg base 1 "_law_called" [] (spD 2 G_called)) (O__law_joined : Own P w K mg base 1 "_law_joined" [] (spD 2 G_joined)) : Own P w K mg base 3 "_law_near" [] (spD 3 G_near) := by
  refine Df.own (ps := ["_law_feed_here", "_law_wide", "_law_core"]) D (fun f fd F => okD F sc__law_near rfl fun cdv A outer s H E hr => ?_) fun _ _ _ _ _ _ us hl => match us, hl with | [_, _, _], _ => rfl
  have nd := sc__law_near.nd
  have hu := hr.units
  have hu1 := hu_of hr
  have hu5 := Room.units65 hr
  refine ⟨_, _, (dseq (dset 3 nd (PD.v (dv 2))) (dseq (difS (teq hu (dcall O__law_pick (hr.mono (by decide)) (by rfl) (acons (dv 0) (acons dint anil))) dint) (dlast (dset 3 nd (PD.v (dcall O__law_joined (hr.mono (by decide)) (by rfl) (acons (dv 2) (acons (dcall O__law_drawn (hr.mono (by decide)) (by rfl) (acons (dv 0) (acons (dv 1) (acons dint (acons dint anil))))) anil)))))) dnil) (dseq (dset 3 nd (PD.v (dcall O__law_led (hr.mono (by decide)) (by rfl) (acons (dv 0) (acons (dv 3) (acons (dcall O__law_pick (hr.mono (by decide)) (by rfl) (acons (dv 0) (acons (dsub dint (dlen (by rfl) fr.len (dv 3))) anil))) anil)))))) (dlast (dret (dcall O__law_called (hr.mono (by decide)) (by rfl) (acons (dv 3) (acons (dcall O__law_names (hr.mono (by decide)) (by rfl) (acons (dv 0) (acons (dlen (by rfl) fr.len (dv 3)) anil))) anil)))))))), fun as Fp hl hG => ?_⟩
  obtain ⟨m, wd, rfl, o, h3, hf⟩ := hG
  have hsix : ∀ b : Mc, b.length ≤ 4 → [PyData.dict [], PyData.int (6 - (((b.map eR).length : Nat) : Int))] = [PyData.dict [], eI (6 - b.length)] := fun b hb => by
    rw [List.length_map, show (6 : Int) - ((b.length : Nat) : Int) = ((6 - b.length : Nat) : Int) by omega]
    rfl
  refine ⟨_, _, rfl, rfl, noL_eM m, fun _ => ⟨_, _, rfl, rfl, rfl, 3, rfl, by omega, by omega, fun r hr => ⟨rfl, rfl, shaped_eI r, shaped_eI 0, _, rfl, ?_⟩⟩⟩
  cases PyData.eqv (eI r) (.int 0) with
  | true =>
    refine ⟨_, _, rfl, rfl, _, _, rfl, rfl, _, _, rfl, rfl, rfl, wd, 1, 2, rfl, o.wp, o.wsmall, by omega, by omega, by omega, by omega, fun d hd hdl => ⟨rfl, m, d, wd, rfl, o, hd, by omega, fun b ob hlb => ⟨noL_eM b, fun _ => ?_⟩⟩⟩
    have hb4 : b.length ≤ 4 := by omega
    exact ⟨_, _, rfl, rfl, _, _, rfl, rfl, _, _, rfl, rfl, _, _, rfl, rfl, _, _, rfl, rfl, _, _, rfl, rfl, rfl, 6 - b.length, hsix b hb4, by omega, by omega, fun r hr => ⟨rfl, b, wd, r, rfl, ob, by omega, fun b2 ob2 hl2 => ⟨noL_eM b2, fun _ => ⟨_, _, rfl, rfl, _, _, rfl, rfl, _, _, rfl, rfl, _, _, rfl, rfl, rfl, b2.length, by rw [List.length_map]; rfl, ob2.small, fun Q hQ => ⟨rfl, b2, wd, Q, rfl, ob2, hQ, fun m' om' _ => hf m' om'⟩⟩⟩⟩⟩
  | false =>
    have hb4 : m.length ≤ 4 := by omega
    exact ⟨_, _, rfl, rfl, _, _, rfl, rfl, _, _, rfl, rfl, _, _, rfl, rfl, _, _, rfl, rfl, _, _, rfl, rfl, rfl, 6 - m.length, hsix m hb4, by omega, by omega, fun r hr => ⟨rfl, m, wd, r, rfl, o, by omega, fun b2 ob2 hl2 => ⟨noL_eM b2, fun _ => ⟨_, _, rfl, rfl, _, _, rfl, rfl, _, _, rfl, rfl, _, _, rfl, rfl, rfl, b2.length, by rw [List.length_map]; rfl, ob2.small, fun Q hQ => ⟨rfl, b2, wd, Q, rfl, ob2, hQ, fun m' om' _ => hf m' om'⟩⟩⟩⟩⟩
end
end Wk
end

section
set_option Elab.async false
set_option linter.all false
set_option maxRecDepth 100000
set_option maxHeartbeats 4000000
namespace Wk
open PySem PySem.Spec PyProof.Rows L2
/-! ### a new feed -/
def dNewFeed (i : Nat) : DTE := fun τ F => ∃ ns : List Int, τ[i]? = some (some (.d (.list (ns.map .int)))) ∧ ns.length ≤ 63 ∧ F (.dict [])
theorem ints_of {H : Hp} : ∀ {vs : List V} {ns : List Int}, BpAll H vs (ns.map PyData.int) → vs = ns.map V.int
  | [], [], _ => rfl
  | [], _ :: _, h => nomatch h
  | _ :: _, [], h => nomatch h
  | v :: vs, n :: ns, h => by
    cases h with
    | cons a t =>
      cases a
      rw [ints_of t]
      rfl
theorem cut_all {xs : List V} (h : xs.length ≤ 63) : cutV xs none (some 63) = xs := by
  unfold cutV
  rw [HT.sIx_none, show (63 : Int) = ((63 : Nat) : Int) from rfl, HT.sIx_nat]
  rw [List.drop_zero, Nat.min_eq_right h, Nat.sub_zero, List.take_length]
section
variable {P : Program} {w : World} {K : PySem.W.Frag}
theorem se_newFeed {i : Nat} : SE P w (tDisp [(tC (.str "cells"), tCB (rListC K) (tCons (tSl (rSlL K) (tVar i) tNoPart (tPart (tC (.int 63)))) tNil)), (tC (.str "next"), tC (.int 0)), (tC (.str "rest"), tC (.int 0)), (tC (.str "turn"), tC (.int 0))]) (dNewFeed i) := ⟨fun {H0 H σ τ} R {F} h {Q} k => by
  obtain ⟨ns, hx, hl, hf⟩ := h
  obtain ⟨u, hu, v, rfl, r, _⟩ := R.slot i _ hx
  have r := r.bp rfl
  cases r with
  | @lst a vs _ h1 h2 =>
    intro p hp
    have hvs := ints_of h2
    have hap : a ≠ p := fun e => by
      rw [e, hp] at h1
      cases h1
    refine ⟨_, hu, 63, rfl, a, vs, rfl, .inl (.inl ?_), fun q hq => ⟨q, _, rfl, .inl (.inl (.inl upd_same)), fun l hl2 => ?_⟩⟩
    · rw [upd_ne hap]
      exact h1
    · have s1 : Sm H (upd H p (.dK [])) := (Sm.refl H).new hp
      have hq0 := s1.free hq
      have s2 := s1.new (o := .lst (cutV vs none (some 63))) hq0
      have hl0 := s2.free hl2
      have s3 := s2.new (o := .lst (cutV vs none (some 63))) hl0
      have hlp : l ≠ p := fun e => by
        subst e
        by_cases c : l = q
        · subst c
          rw [upd_same] at hl2
          cases hl2
        · rw [upd_ne c, upd_same] at hl2
          cases hl2
      have hqp : q ≠ p := fun e => by
        subst e
        rw [upd_same] at hq
        cases hq
      refine ⟨?_, feedL l 0 0 0, rfl, by show 4 ≤ 15; decide, k _ _ (.dict []) (s3.new hp) (.inr ⟨rfl, p, _, rfl, upd_same, l, 0, 0, 0, ns, rfl, ?_, hl⟩) hf⟩
      · rw [upd_ne (Ne.symm hlp), upd_ne (Ne.symm hqp), upd_same]
      · rw [upd_ne hlp, upd_same, cut_all (by rw [h2.len, List.length_map]; exact hl), hvs]⟩
end
section
variable {X : Cx} {K : PySem.W.Frag} {x : Str} {pos p1 p2 p3 p4 p5 p6 p7 p8 p9 q1 q2 q3 q4 : Pos} {k1 k2 k3 k4 k5 k6 k7 k8 : Nat}
theorem dnewFeed (i : Nat) (hgl : Gl X "list") (hm : X.mg "list" = none) (hK : X.K = K := by rfl) (hN : X.N[i]? = some x := by rfl) (hv : Vis X.env.scope x := by first | exact Or.inl rfl | exact Or.inr (Or.inl rfl) | exact Or.inr (Or.inr rfl)) (hd : (x == ("__debug__" : Str)) = false := by decide)
    (hcd : (x == ("__classdict__" : Str)) = false := by decide)
    (he : starEach [.Subscript (.Name x p1) (.Slice none (some (.Constant (.int 63) k1 p2)) none p3) p4] X.env = (false, eval (.Subscript (.Name x p1) (.Slice none (some (.Constant (.int 63) k1 p2)) none p3) p4) X.env) :: starEach [] X.env := by rfl) :
    PD X K (.Dict [some (.Constant (.str "cells") k2 p5), some (.Constant (.str "next") k3 p6), some (.Constant (.str "rest") k4 p7), some (.Constant (.str "turn") k5 p8)]
      [.Call (.Name "list" p9) [.Subscript (.Name x p1) (.Slice none (some (.Constant (.int 63) k1 p2)) none p3) p4] [] q1, .Constant (.int 0) k6 q2, .Constant (.int 0) k7 q3, .Constant (.int 0) k8 q4] pos)
      (tDisp [(tC (.str "cells"), tCB (rListC K) (tCons (tSl (rSlL K) (tVar i) tNoPart (tPart (tC (.int 63)))) tNil)), (tC (.str "next"), tC (.int 0)), (tC (.str "rest"), tC (.int 0)), (tC (.str "turn"), tC (.int 0))]) (dNewFeed i) := by
  subst hK
  refine ⟨rfl, pe_disp (pps_cons pe_str (pe_callTy call_list_of hgl hm (by decide +kernel) (pa_cons (pe_slice sl_list (pe_var hN hv hd hcd) po_none (po_some pe_int)) pa_nil he) (by decide) (by decide) he rfl) (pps_cons pe_str pe_int (pps_cons pe_str pe_int (pps_cons pe_str pe_int pps_nil)))) rfl rfl (by intro z; cases z) (by show 4 ≤ 15; decide), se_newFeed⟩
end
/-! ### a feed of one's own, for the rest of a body -/
def dSeqFeed (i : Nat) (d : DTE) (b : DS) : DS := fun D τ => (∀ (j : Nat) (x : DV), τ[j]? = some (some x) → x.ad = none) ∧ d τ fun v => v = .dict [] ∧ b { nx := fun _ => False, rt := D.rt } (τ.set i (some (.d (.dict []))))
section
variable {P : Program} {w : World}
theorem ss_seqFeed {i : Nat} {te : TE} {de : DTE} {tb : TS} {db : DS} (ha : SE P w te de) (hb : SS P w tb db) : SS P w (tSeq (tAsg te (gName i)) tb) (dSeqFeed i de db) := ⟨fun {H0 H σ τ} R {D} hh {E} W => ha.run R hh.2 fun v H1 d e1 r1 h1 => by
  obtain ⟨rfl, hf⟩ := h1
  have R1 := R.to e1
  have hslot : ∀ (j : Nat) (x : DV), (τ.set i (some (.d (.dict []))))[j]? = some (some x) → x.ad = none ∧ ∃ u, (σ.set i (some v))[j]? = some u ∧ SlotOk P w H1 H1 u x := fun j x hx => by
    by_cases e : i = j
    · subst e
      have hl : i < τ.length := by
        have := (List.getElem?_eq_some_iff.mp hx).1
        rw [List.length_set] at this
        exact this
      rw [List.getElem?_set_self hl] at hx
      cases hx
      exact ⟨rfl, some v, List.getElem?_set_self (by rw [R.len]; exact hl), v, rfl, r1, .inr r1⟩
    · rw [List.getElem?_set_ne e] at hx
      obtain ⟨u, hu, hs⟩ := R1.slot j x hx
      refine ⟨hh.1 j x hx, u, by rw [List.getElem?_set_ne e]; exact hu, ?_⟩
      have hn := hh.1 j x hx
      cases x with
      | d dd =>
        obtain ⟨z, h1, h2, _⟩ := hs
        exact ⟨z, h1, h2, .inr h2⟩
      | l p xs => cases hn
      | n p xs => cases hn
      | s p xs => cases hn
  have R2 : Rep P w H1 H1 (σ.set i (some v)) (τ.set i (some (.d (.dict [])))) :=
    ⟨Sm.refl H1, fun j x hx => (hslot j x hx).2, fun j k x y p hj _ ej _ => (by rw [(hslot j x hj).1] at ej; cases ej), by rw [List.length_set, List.length_set, R.len]⟩
  exact hb.run R2 hf ⟨fun _ _ _ _ _ z => z.elim, fun _ _ _ _ _ z => z.elim, fun _ _ _ _ _ z => z.elim, fun v H' d e r h => W.rt v H' d ((R.sm.trans e1).trans e) r h, fun _ _ _ _ _ _ _ _ z => z.elim⟩⟩
end
section
variable {X : Cx} {K : PySem.W.Frag} {x : Str} {pos pos' : Pos} {e : Expr} {te : TE} {de : DTE} {rest : List Stmt} {tb : TS} {db : DS}
theorem dseqFeed (i : Nat) (hN : X.N.Nodup) (he : PD X K e te de) (hb : PSsd X K rest tb db) (hi : X.N[i]? = some x := by rfl) (hx : Loc X.env.scope x := by first | exact Or.inl rfl | exact Or.inr rfl) (hs : swapsWith e (some (.Name x pos')) pos.line X.env = pure false := by rfl) (hf : X.fn x = true ∨ X.env.scope.names.lookup x = some .local := by first | exact .inl rfl | exact .inr rfl | assumption) :
    PSsd X K (.Assign [.Name x pos'] e pos :: rest) (tSeq (tAsg te (gName i)) tb) (dSeqFeed i de db) := by
  have hK := he.hK
  subst hK
  exact ⟨rfl, pss_cons (ps_set hN hi hx he.pe hs hf) hb.pe, ss_seqFeed he.se hb.se⟩
end
end Wk
end

section

set_option Elab.async false
set_option linter.all false
set_option maxRecDepth 100000
set_option maxHeartbeats 4000000
namespace Wk
open PySem PySem.Spec PyProof.Rows L2
/-! ### a tuple of one item, times 4 -/
def rRep4 (K : PySem.W.Frag) : R2 := fun x y H Q => ∃ l a, x = .ref l ∧ y = .int 4 ∧ SqT K H l [a] ∧ ∀ (p : Addr) (o : Obj), H p = none → o.dict = none → Q (.ref p) (upd H p (.frz o (.tup [a, a, a, a])))
def dRep4 (da : DTE) (db : DTE) : DTE := fun τ F => da τ fun d => ∃ z, d = .tuple [z] ∧ db τ fun e => e = .int 4 ∧ F (.tuple [z, z, z, z])
section
variable {X : Cx}
theorem op_rep4 : OpR X (binaryOp .Mult) (rRep4 X.K) := by
  intro pins s σ H x y v u Q I rx ry h
  obtain ⟨l, a, rfl, rfl, hT, q⟩ := h
  cases rx
  obtain ⟨t, rfl⟩ := ry
  obtain ⟨its, rv, ⟨o, ho, hc, n, hd⟩, _⟩ := I.tuple hT
  obtain ⟨b, rfl⟩ : ∃ b, its = [b] := by
    cases rv with
    | cons r1 r2 =>
      cases r2
      exact ⟨_, rfl⟩
  have rb : RelV a b := by
    cases rv with
    | cons r1 r2 => exact r1
  obtain ⟨cls, dd, data, sl⟩ := o
  simp only at hc hd
  subst hc hd
  have hmul := tuple_mulW l #[b] n dd sl 4 t
    (by decide) (by rfl) (by rfl) (by show ¬ ((1 : Nat) : Int) * 4 > (2 ^ 63 - 1) / 8; decide)
    (by show Builtin.Tuple.tupleTooMany (((1 : Nat) : Int) * 4) = false; unfold Builtin.Tuple.tupleTooMany; rw [sizeLine_eq]; decide) (by show 4 ≤ sizeLine; rw [sizeLine_eq]; decide)
  refine wpAny_binaryOp_repeat_ref (T := "tuple") (U := "int") (by decide)
    ⟨_, ho, rfl⟩ (fun z => typeIs_int z 4 t) noFill_tuple_mul F.fills_int_mul
    F.slot_int_rmul repeat_tuple F.slot_int_index.lookup ?_
  refine call_meets F.slot_int_rmul (typeIs_int s 4 t) F.entry_int_rmul
    (F.args_int_rmul_2 _ _) (int_rmul_tuple 4 t l #[b] n dd sl) ⟨ho, rfl, ⟨_, ho, rfl⟩, ?_⟩
  refine call_meets F.slot_tuple_mul ⟨_, ho, rfl⟩ F.entry_tuple_mul
    (F.args_tuple_mul_2 _ _) hmul ⟨ho, ?_⟩
  have hv : Vals [a, a, a, a] [b, b, b, b] := .cons rb (.cons rb (.cons rb (.cons rb .nil)))
  have hf := I.hok.fresh (Nat.le_refl s.heap.objs.size)
  refine ⟨.ref s.heap.objs.size, _, I.laid (t' := s.toks) (o := .frz { cls := .type "tuple", data := .seq #[b, b, b, b] } (.tup [a, a, a, a]))
    (fun _ _ e => Heap.get?_push_of_some _ e) (Nat.le_refl _) ?_, rfl, q _ _ hf rfl⟩
  exact ⟨Heap.get?_push_size _ rfl, by show 4 ≤ sizeLine; rw [sizeLine_eq]; decide, [b, b, b, b], hv, IsTup.new _ _⟩
end
section
variable {X : Cx} {K : PySem.W.Frag} {a b : Expr} {ta tb : TE} {da db : DTE} {pos : Pos}
theorem drepT (ha : PD X K a ta da) (hb : PD X K b tb db) : PD X K (.BinOp a .Mult b pos) (tOp (rRep4 X.K) ta tb) (dRep4 da db) := by
  have hK := ha.hK
  subst hK
  refine ⟨rfl, pe_op op_rep4 ha.pe hb.pe, ⟨fun {_ _ _ _} R {F} hh {Q} k => ha.se.run R hh fun v H1 d e1 r1 h1 => ?_⟩⟩
  obtain ⟨z, rfl, h2⟩ := h1
  refine hb.se.run (R.to e1) h2 fun u H2 e e2 r2 h3 => ?_
  obtain ⟨rfl, hf⟩ := h3
  obtain ⟨p, vs, rfl, hk, hbp⟩ := (r1.sm e2).seq (K := X.K) (xs := [z]) rfl
  cases hbp with
  | @cons v0 _ _ _ b0 t0 =>
    cases t0
    refine ⟨p, v0, rfl, by rw [r2.int], hk.elim (fun z => by cases z.1) (fun z => z.2.2), fun q o hq ho => k _ _ _ ((e1.trans e2).new ((e1.trans e2).free hq)) (.inl (.tup upd_same ho ?_)) hf⟩
    have b1 := b0.sm ((Sm.refl H2).new (p := q) (o := .frz o (.tup [v0, v0, v0, v0])) hq)
    exact .cons b1 (.cons b1 (.cons b1 (.cons b1 .nil)))
end
end Wk
end

section
set_option Elab.async false
set_option linter.all false
set_option maxRecDepth 100000
set_option maxHeartbeats 8000000
set_option pp.maxSteps 5000
namespace Wk
open PySem PySem.Spec PyProof.Rows L2
def flipM : Mc := [[(1, 0)], [(0, 1)]]
def holdM : Mc := [[(0, 0)]]
def onceM : Mc := [[(0, 0)], [(0, 1)]]
def lateM : Mc := [[(1, 9)], [(2, 9)], [(3, 9)], [(4, 0)], [(3, 1)]]
def ringM : Mc := [[(1, 0)], [(2, 0)], [(0, 0)], [(4, 0)], [(3, 1)]]
def calmM : Mc := [[(0, 0), (0, 0), (0, 0), (0, 0)]]
def waitM (i : Nat) : Mc := [(List.range 4).map fun y => (if y = i then 0 else 1, 1), [(1, 0), (1, 0), (1, 0), (1, 0)]]
theorem ok_flip : Ok flipM 1 := ⟨by decide, by decide, by decide, by decide, by decide, by decide⟩
theorem ok_hold : Ok holdM 1 := ⟨by decide, by decide, by decide, by decide, by decide, by decide⟩
theorem ok_once : Ok onceM 1 := ⟨by decide, by decide, by decide, by decide, by decide, by decide⟩
theorem ok_late : Ok lateM 1 := ⟨by decide, by decide, by decide, by decide, by decide, by decide⟩
theorem ok_ring : Ok ringM 1 := ⟨by decide, by decide, by decide, by decide, by decide, by decide⟩
theorem ok_calm : Ok calmM 4 := ⟨by decide, by decide, by decide, by decide, by decide, by decide⟩
theorem ok_wait : ∀ i, i < 4 → Ok (waitM i) 4
  | 0, _ => ⟨by decide, by decide, by decide, by decide, by decide, by decide⟩
  | 1, _ => ⟨by decide, by decide, by decide, by decide, by decide, by decide⟩
  | 2, _ => ⟨by decide, by decide, by decide, by decide, by decide, by decide⟩
  | 3, _ => ⟨by decide, by decide, by decide, by decide, by decide, by decide⟩
  | i + 4, h => absurd h (by omega)
theorem wait_none : ∀ i, i < 4 → settled (waitM i) = none := by decide +kernel
section
variable {P : Program} {w : World} {K : PySem.W.Frag} {mg : Str → Option Value} {base : Heap}
theorem sc__law_feed : FnScope ["_law_script"] ["_law_script"] (defScope s__law_feed) := ⟨rfl, rfl, rfl, by decide +kernel, rfl, by decide +kernel, by decide +kernel⟩
def G_feed (ds : List PyData) (F : PyData → Prop) : Prop := ∃ ns : List Int, ds = [.list (ns.map .int)] ∧ ns.length ≤ 63 ∧ F (.dict [])
theorem o_feed (fr : Fre mg) (D : Df K mg "_law_feed" s__law_feed [] []) : Own P w K mg base 1 "_law_feed" [] (spD 1 G_feed) := by
  refine Df.own (ps := ["_law_script"]) D (fun f fd F => okD F sc__law_feed rfl fun cdv A outer s H E hr => ?_) fun _ _ _ _ _ _ us hl => match us, hl with | [_], _ => rfl
  have nd := sc__law_feed.nd
  have hu := hr.units
  have hu1 := hu_of hr
  have hu5 := Room.units65 hr
  refine ⟨_, _, (dlast (dret (dnewFeed 0 (by rfl) fr.list))), fun as Fp hl hG => ?_⟩
  obtain ⟨ns, rfl, hl2, hf⟩ := hG
  exact ⟨ns, rfl, hl2, hf⟩
theorem sc_law : FnScope ["_law_script", "_law_feed_here", "_law_flip", "_law_hold", "_law_once", "_law_late", "_law_ring", "_law_near_here", "_law_far", "_law_calm", "_law_x", "_law_y", "_law_first", "_law_wait", "_law_lap", "_law_wide", "_law_core"] ["_law_script"] (defScope s_law) := ⟨rfl, rfl, rfl, by decide +kernel, rfl, by decide +kernel, by decide +kernel⟩
def G_law (ds : List PyData) (F : PyData → Prop) : Prop := ∃ ns : List Int, ds = [.list (ns.map .int)] ∧ ns.length ≤ 63 ∧ F (.bool true)
theorem o_law (fr : Fre mg) (D : Df K mg "law" s_law [] []) (O__law_feed : Own P w K mg base 1 "_law_feed" [] (spD 1 G_feed)) (O__law_pick : Own P w K mg base 1 "_law_pick" [] (spD 2 G_pick)) (O__law_drawn : Own P w K mg base 2 "_law_drawn" [] (spD 4 G_drawn)) (O__law_near : Own P w K mg base 3 "_law_near" [] (spD 3 G_near)) (O__law_are_fine : Own P w K mg base 11 "_law_are_fine" [] (spD 2 G_fine)) (O_settled_after : Own P w K mg base 7 "settled_after" [] (spD 1 G_settled)) : Own P w K mg base 12 "law" [] (spD 1 G_law) := by
  refine Df.own (ps := ["_law_script"]) D (fun f fd F => okD F sc_law rfl fun cdv A outer s H E hr => ?_) fun _ _ _ _ _ _ us hl => match us, hl with | [_], _ => rfl
  have nd := sc_law.nd
  have hu := hr.units
  have hu1 := hu_of hr
  have hu5 := Room.units65 hr
  refine ⟨_, _, (dseqFeed 1 nd (dcall O__law_feed (hr.mono (by decide)) (by rfl) (acons (dv 0) anil)) (dseq (dasg (dtup (acons (dtup (acons (dtup (acons (dtup (acons dint (acons dint anil))) anil)) (acons (dtup (acons (dtup (acons dint (acons dint anil))) anil)) anil))) (acons (dtup (acons (dtup (acons (dtup (acons dint (acons dint anil))) anil)) anil)) (acons (dtup (acons (dtup (acons (dtup (acons dint (acons dint anil))) anil)) (acons (dtup (acons (dtup (acons dint (acons dint anil))) anil)) anil))) anil)))) (gtup (n := 3) rfl (gcons (gname 2 nd) (gcons (gname 3 nd) (gcons (gname 4 nd) gnil))))) (dseq (dset 5 nd (PD.v (dtup (acons (dtup (acons (dtup (acons dint (acons dint anil))) anil)) (acons (dtup (acons (dtup (acons dint (acons dint anil))) anil)) (acons (dtup (acons (dtup (acons dint (acons dint anil))) anil)) (acons (dtup (acons (dtup (acons dint (acons dint anil))) anil)) (acons (dtup (acons (dtup (acons dint (acons dint anil))) anil)) anil)))))))) (dseq (dset 6 nd (PD.v (dtup (acons (dtup (acons (dtup (acons dint (acons dint anil))) anil)) (acons (dtup (acons (dtup (acons dint (acons dint anil))) anil)) (acons (dtup (acons (dtup (acons dint (acons dint anil))) anil)) (acons (dtup (acons (dtup (acons dint (acons dint anil))) anil)) (acons (dtup (acons (dtup (acons dint (acons dint anil))) anil)) anil)))))))) (dseq (dforL PassesOwn.never rfl (ldisp (acons (dtup (acons (dv 4) (acons (dv 3) anil))) (acons (dtup (acons (dv 5) (acons (dv 2) anil))) (acons (dtup (acons (dv 5) (acons (dv 6) anil))) (acons (dtup (acons (dv 6) (acons (dv 5) anil))) (acons (dtup (acons (dv 6) (acons (dv 4) anil))) (acons (dtup (acons (dv 2) (acons (dv 6) anil))) anil))))))) (gtup (n := 2) rfl (gcons (gname 7 nd) (gcons (gname 8 nd) gnil))) (dlast (difS (tnot (tval (dcall O__law_are_fine (hr.mono (by decide)) (by rfl) (acons (dv 7) (acons (dv 8) anil))))) (dlast (dret dbl)) dnil))) (dseq (dset 9 nd (PD.v (dtup (acons (drepT (dtup (acons (dtup (acons dint (acons dint anil))) anil)) dint) anil)))) (dseq (dforR PassesOwn.never rfl (by rfl) fr.range (acons dint anil) (gname 10 nd) (dseq (dset 12 nd (PD.v (dtupOfL (by rfl) fr.tuple (lcR (by rfl) fr.range (acons dint anil) (plc (own := [("_law_y", 11)]) rfl nd (blkOk_by (by kernel_rfl)) (fun _ _ _ _ _ => (gname 11 nd)) (by decide) (fun _ _ _ _ _ => yes) (fun _ _ _ _ _ => (dtup (acons (dif_ (teq hu (dv 11) (dv 10)) dint dint) (acons dint anil))))))))) (dseq (dset 13 nd (PD.v (dtup (acons (dv 12) (acons (drepT (dtup (acons (dtup (acons dint (acons dint anil))) anil)) dint) anil))))) (dlast (difS (tw (tor (tnot (tval (dcall O__law_are_fine (hr.mono (by decide)) (by rfl) (acons (dv 13) (acons (dv 9) anil))))) (tor1 (tnotN (dcall O_settled_after (hr.mono (by decide)) (by rfl) (acons (dv 13) anil)) dnon)))) (dlast (dret dbl)) dnil))))) (dseq (dforR PassesOwn.never rfl (by rfl) fr.range (acons dint anil) (gname 14 nd) (dseq (dset 15 nd (PD.v (dadd dint (dcall O__law_pick (hr.mono (by decide)) (by rfl) (acons (dv 1) (acons dint anil)))))) (dseq (dset 16 nd (PD.v (dcall O__law_drawn (hr.mono (by decide)) (by rfl) (acons (dv 1) (acons (dv 15) (acons dint (acons dint anil))))))) (dseq (dpar 7 8 rfl nd (PD.v (dcall O__law_near (hr.mono (by decide)) (by rfl) (acons (dv 1) (acons (dv 15) (acons (dv 16) anil))))) (PD.v (dcall O__law_near (hr.mono (by decide)) (by rfl) (acons (dv 1) (acons (dv 15) (acons (dv 16) anil))))) (by rfl)) (dlast (difS (tw (tor (tnot (tval (dcall O__law_are_fine (hr.mono (by decide)) (by rfl) (acons (dv 7) (acons (dv 8) anil))))) (tor1 (tnot (tval (dcall O__law_are_fine (hr.mono (by decide)) (by rfl) (acons (dv 7) (acons (dv 16) anil)))))))) (dlast (dret dbl)) dnil)))))) (dlast (dret dbl)))))))))), fun as Fp hl hG => ?_⟩
  obtain ⟨ns, rfl, hl2, hf⟩ := hG
  refine ⟨fun j x hx => ?_, _, _, rfl, rfl, rfl, ns, rfl, hl2, rfl, ?_⟩
  · match j, hx with
    | 0, hx => cases hx; rfl
    | j + 1, hx =>
      exfalso
      have hx : (List.replicate 16 (none : Option DV))[j]? = some (some x) := hx
      rw [List.getElem?_replicate] at hx
      split at hx <;> cases hx
  refine ⟨by show 2 ≤ 100000; decide, rfl, by show 1 ≤ 100000; decide, rfl, by show 2 ≤ 100000; decide, rfl, by show 1 ≤ 100000; decide, rfl, by show 2 ≤ 100000; decide, rfl, by show 2 ≤ 100000; decide, rfl, by show 1 ≤ 100000; decide, rfl, by show 1 ≤ 100000; decide, rfl, by show 2 ≤ 100000; decide, rfl, by show 1 ≤ 100000; decide, rfl, by show 2 ≤ 100000; decide, rfl, by show 1 ≤ 100000; decide, rfl, by show 2 ≤ 100000; decide, rfl, by show 3 ≤ 100000; decide, rfl, dg3 rfl rfl rfl ?_⟩
  refine ⟨by show 2 ≤ 100000; decide, rfl, by show 1 ≤ 100000; decide, rfl, by show 2 ≤ 100000; decide, rfl, by show 1 ≤ 100000; decide, rfl, by show 2 ≤ 100000; decide, rfl, by show 1 ≤ 100000; decide, rfl, by show 2 ≤ 100000; decide, rfl, by show 1 ≤ 100000; decide, rfl, by show 2 ≤ 100000; decide, rfl, by show 1 ≤ 100000; decide, rfl, by show 5 ≤ 100000; decide, rfl, rfl, fun _ => ?_⟩
  refine ⟨by show 2 ≤ 100000; decide, rfl, by show 1 ≤ 100000; decide, rfl, by show 2 ≤ 100000; decide, rfl, by show 1 ≤ 100000; decide, rfl, by show 2 ≤ 100000; decide, rfl, by show 1 ≤ 100000; decide, rfl, by show 2 ≤ 100000; decide, rfl, by show 1 ≤ 100000; decide, rfl, by show 2 ≤ 100000; decide, rfl, by show 1 ≤ 100000; decide, rfl, by show 5 ≤ 100000; decide, rfl, rfl, fun _ => ?_⟩
  refine ⟨_, _, rfl, rfl, _, _, rfl, rfl, by show 2 ≤ 100000; decide, rfl, _, _, rfl, rfl, _, _, rfl, rfl, by show 2 ≤ 100000; decide, rfl, _, _, rfl, rfl, _, _, rfl, rfl, by show 2 ≤ 100000; decide, rfl, _, _, rfl, rfl, _, _, rfl, rfl, by show 2 ≤ 100000; decide, rfl, _, _, rfl, rfl, _, _, rfl, rfl, by show 2 ≤ 100000; decide, rfl, _, _, rfl, rfl, _, _, rfl, rfl, by show 2 ≤ 100000; decide, rfl, by show 6 ≤ 100000; decide, rfl, rfl, fun i τ => ∃ x7 x8, τ = [some (.d (.list (ns.map .int))), some (.d (.dict [])), some (.d (eM flipM)), some (.d (eM holdM)), some (.d (eM onceM)), some (.d (eM lateM)), some (.d (eM ringM)), x7, x8, none, none, none, none, none, none, none, none], ⟨none, none, rfl⟩, fun _ _ _ _ => trivial, fun i x τ' hx hw => ?_, fun τ' hw => ?_⟩
  · obtain ⟨x7, x8, rfl⟩ := hw
    have hp : ∃ m n : Mc, x = .tuple [eM m, eM n] ∧ Ok m 1 ∧ Ok n 1 := by
      match i, hx with
      | 0, hx => exact ⟨onceM, holdM, (Option.some.inj hx).symm, ok_once, ok_hold⟩
      | 1, hx => exact ⟨lateM, flipM, (Option.some.inj hx).symm, ok_late, ok_flip⟩
      | 2, hx => exact ⟨lateM, ringM, (Option.some.inj hx).symm, ok_late, ok_ring⟩
      | 3, hx => exact ⟨ringM, lateM, (Option.some.inj hx).symm, ok_ring, ok_late⟩
      | 4, hx => exact ⟨ringM, onceM, (Option.some.inj hx).symm, ok_ring, ok_once⟩
      | 5, hx => exact ⟨flipM, ringM, (Option.some.inj hx).symm, ok_flip, ok_ring⟩
      | i + 6, hx => exact absurd hx (by simp)
    obtain ⟨m, n, rfl, om, on⟩ := hp
    exact dg2 (noL_eM m) (noL_eM n) ⟨_, _, rfl, rfl, _, _, rfl, rfl, rfl, m, n, 1, rfl, om, on, _, rfl, some (.d (eM m)), some (.d (eM n)), rfl⟩
  · obtain ⟨x7, x8, rfl⟩ := hw
    refine ⟨by show 2 ≤ 100000; decide, rfl, by show 1 ≤ 100000; decide, rfl, _, rfl, rfl, by show 1 ≤ 100000; decide, rfl, rfl, fun _ => ⟨4, rfl, by omega, fun i τ => ∃ x10 x12 x13, τ = [some (.d (.list (ns.map .int))), some (.d (.dict [])), some (.d (eM flipM)), some (.d (eM holdM)), some (.d (eM onceM)), some (.d (eM lateM)), some (.d (eM ringM)), x7, x8, some (.d (eM calmM)), x10, none, x12, x13, none, none, none], ⟨none, none, none, rfl⟩, fun _ _ _ _ => trivial, fun i x τ' hx hw => ?_, fun τ' hw => ?_⟩⟩
    · obtain ⟨x10, x12, x13, rfl⟩ := hw
      have hil : i < 4 := by
        have := (List.getElem?_eq_some_iff.mp hx).1
        rw [rgD_len] at this
        exact this
      rw [rgD_at hil] at hx
      cases hx
      refine ⟨rfl, 4, rfl, by omega, ?_⟩
      rw [rgD_eI]
      refine dColl_one (zs := List.range 4) (enc := eI) (fun y => eP (if y = i then 0 else 1, 1)) (fun y hy R hR => ⟨rfl, _, _, rfl, rfl, _, _, rfl, rfl, rfl, rfl, shaped_eI y, shaped_eI i, _, rfl, ?_⟩) ⟨noLs_map _ _ fun _ _ => rfl, fun _ => ⟨_, _, rfl, rfl, by show 2 ≤ 100000; decide, rfl, by show 1 ≤ 100000; decide, rfl, _, rfl, rfl, by show 2 ≤ 100000; decide, rfl, rfl, fun _ => ?_⟩⟩
      · rw [show PyData.eqv (eI y) (.int ((i : Nat) : Int)) = decide (y = i) from eqv_eI y i]
        by_cases c : y = i
        · rw [decide_eq_true c]
          rw [if_pos c] at hR
          exact ⟨by show 2 ≤ 100000; decide, rfl, rfl, hR⟩
        · rw [decide_eq_false c]
          rw [if_neg c] at hR
          exact ⟨by show 2 ≤ 100000; decide, rfl, rfl, hR⟩
      · refine ⟨_, _, rfl, rfl, _, _, rfl, rfl, rfl, waitM i, calmM, 4, rfl, ok_wait i hil, ok_calm, _, rfl, _, _, rfl, rfl, rfl, waitM i, 4, rfl, ok_wait i hil, rfl, _, rfl, ?_⟩
        rw [wait_none i hil]
        exact ⟨_, _, _, rfl⟩
    · obtain ⟨x10, x12, x13, rfl⟩ := hw
      refine ⟨4, rfl, by omega, fun i τ => ∃ x7 x8 x14 x15 x16, τ = [some (.d (.list (ns.map .int))), some (.d (.dict [])), some (.d (eM flipM)), some (.d (eM holdM)), some (.d (eM onceM)), some (.d (eM lateM)), some (.d (eM ringM)), x7, x8, some (.d (eM calmM)), x10, none, x12, x13, x14, x15, x16], ⟨x7, x8, none, none, none, rfl⟩, fun _ _ _ _ => trivial, fun i x τ' hx hw => ?_, fun τ' hw => hf⟩
      obtain ⟨y7, y8, x14, x15, x16, rfl⟩ := hw
      refine ⟨noL_rg (List.mem_of_getElem? hx), _, _, rfl, rfl, rfl, 4, rfl, by omega, by omega, fun r hr => ⟨_, _, rfl, rfl, rfl, fun _ => ?_⟩⟩
      have h1r : (1 : Int) + ((r : Nat) : Int) = ((1 + r : Nat) : Int) := by omega
      refine ⟨_, _, rfl, rfl, _, _, rfl, rfl, rfl, 1 + r, 3, 2, by show [PyData.dict [], PyData.int ((1 : Int) + ((r : Nat) : Int)), PyData.int 3, PyData.int 2] = _; rw [h1r]; rfl, by omega, by omega, by omega, by omega, by omega, by omega, fun core oc hcl => ⟨noL_eM core, fun _ => ?_⟩⟩
      refine ⟨_, _, rfl, rfl, _, _, rfl, rfl, _, _, rfl, rfl, rfl, core, 1 + r, by show [PyData.dict [], PyData.int ((1 : Int) + ((r : Nat) : Int)), eM core] = _; rw [h1r]; rfl, oc, hcl, fun m om => ⟨_, _, rfl, rfl, _, _, rfl, rfl, _, _, rfl, rfl, rfl, core, 1 + r, by show [PyData.dict [], PyData.int ((1 : Int) + ((r : Nat) : Int)), eM core] = _; rw [h1r]; rfl, oc, hcl, fun n on => ⟨noL_eM m, noL_eM n, fun _ _ => ?_⟩⟩⟩
      exact ⟨_, _, rfl, rfl, _, _, rfl, rfl, rfl, m, n, 1 + r, rfl, om, on, _, rfl, _, _, rfl, rfl, _, _, rfl, rfl, rfl, m, core, 1 + r, rfl, om, oc, _, rfl, some (.d (eM m)), some (.d (eM n)), some (.d x), _, _, rfl⟩
end
end Wk
end

section
set_option Elab.async false
set_option linter.all false
set_option maxRecDepth 100000
set_option maxHeartbeats 8000000
set_option pp.maxSteps 3000
namespace Wk
open PySem PySem.Spec PyProof.Rows L2
/-! ### the script as the head gives it -/
def spFeed (K : PySem.W.Frag) : Sp := fun vs H Q _ => ∃ (a : Addr) (ns : List Int), vs = [.ref a] ∧ SqL K H a (ns.map V.int) ∧ ns.length ≤ 63 ∧ ∀ v H', Sm H H' → Rp H' v (.dict []) → Q v H'
def spLaw (K : PySem.W.Frag) : Sp := fun vs H Q _ => ∃ (a : Addr) (ns : List Int), vs = [.ref a] ∧ SqL K H a (ns.map V.int) ∧ ns.length ≤ 63 ∧ ∀ H', Q (.bl true) H'
theorem sqL_upd {K : PySem.W.Frag} {H : Hp} {a p : Addr} {xs : List V} {o : HO} (h : SqL K H a xs) (hp : H p = none) : SqL K (upd H p o) a xs := by
  rcases h with (h | ⟨ob, h⟩) | h
  · exact .inl (.inl (by rw [upd_ne (fun e => by rw [e, hp] at h; cases h)]; exact h))
  · exact .inl (.inr ⟨ob, by rw [upd_ne (fun e => by rw [e, hp] at h; cases h)]; exact h⟩)
  · exact .inr h
abbrev tNew (K : PySem.W.Frag) : TE := tDisp [(tC (.str "cells"), tCB (rListC K) (tCons (tSl (rSlL K) (tVar 0) tNoPart (tPart (tC (.int 63)))) tNil)), (tC (.str "next"), tC (.int 0)), (tC (.str "rest"), tC (.int 0)), (tC (.str "turn"), tC (.int 0))]
theorem new_raw {K : PySem.W.Frag} {H : Hp} {σ : L2.St} {a : Addr} {ns : List Int} {Q : VK} (hu : σ[0]? = some (some (.ref a))) (hS : SqL K H a (ns.map V.int)) (hl : ns.length ≤ 63) (k : ∀ v H', Sm H H' → Rp H' v (.dict []) → Q v H') : tNew K σ H Q := by
  intro p hp
  refine ⟨_, hu, 63, rfl, a, ns.map V.int, rfl, sqL_upd hS hp, fun q hq => ⟨q, _, rfl, .inl (.inl (.inl upd_same)), fun l hl2 => ?_⟩⟩
  have s1 : Sm H (upd H p (.dK [])) := (Sm.refl H).new hp
  have hq0 := s1.free hq
  have s2 := s1.new (o := .lst (cutV (ns.map V.int) none (some 63))) hq0
  have hl0 := s2.free hl2
  have s3 := s2.new (o := .lst (cutV (ns.map V.int) none (some 63))) hl0
  have hlp : l ≠ p := fun e => by
    subst e
    by_cases c : l = q
    · subst c
      rw [upd_same] at hl2
      cases hl2
    · rw [upd_ne c, upd_same] at hl2
      cases hl2
  have hqp : q ≠ p := fun e => by
    subst e
    rw [upd_same] at hq
    cases hq
  refine ⟨?_, feedL l 0 0 0, rfl, by show 4 ≤ 15; decide, k _ _ (s3.new hp) (.inr ⟨rfl, p, _, rfl, upd_same, l, 0, 0, 0, ns, rfl, ?_, hl⟩)⟩
  · rw [upd_ne (Ne.symm hlp), upd_ne (Ne.symm hqp), upd_same]
  · rw [upd_ne hlp, upd_same, cut_all (by rw [List.length_map]; exact hl)]
section
variable {P : Program} {w : World} {K : PySem.W.Frag} {mg : Str → Option Value} {base : Heap}
theorem ok_feedR (fr : Fre mg) {f : Addr} {fd : FuncData} (F : FunD K "_law_feed" "_law_feed" (defArgs s__law_feed) (defBody s__law_feed) (defScope s__law_feed) [] [] f fd) : FnOk P w K mg base CX0 1 f fd ["_law_script"] (spFeed K) := by
  refine F.ok sc__law_feed (fun vs H Q E h => ?_) fun cdv A outer s H vs Q E hr h => ?_
  · obtain ⟨a, ns, rfl, _⟩ := h
    rfl
  · obtain ⟨a, ns, rfl, hS, hl, hk⟩ := h
    refine ⟨tRet (tNew K), PSs.nox (PSsd.pe (K := K) (ds := dRet (dNewFeed 0)) (dlast (dret (dnewFeed 0 (by rfl) fr.list)))), ?_⟩
    exact new_raw rfl hS hl hk
section
variable {X : Cx} {x : Str} {pos pos' p1 p2 p3 : Pos} {rest : List Stmt} {tb : TS} {db : DS} {y : Str}
theorem dseqFeedR {f : Addr} {fd : FuncData} (hN : X.N.Nodup) (FF : FnOk X.prog X.w X.K X.mg X.base CX0 1 f fd ["_law_script"] (spFeed X.K)) (hr : Room 1 X.A) (hg : Gl X "_law_feed") (hm : X.mg "_law_feed" = some (.ref f)) (hk : PySem.W.keepIn X.K (.ref f) = true) (hbd : Binds X.K fd ["_law_script"] []) (hK : X.K = K)
    (hb : PSsd X K rest tb db) (hi : X.N[1]? = some x := by rfl) (hx : Loc X.env.scope x := by first | exact Or.inl rfl | exact Or.inr rfl) (hs : swapsWith (.Call (.Name "_law_feed" p1) [.Name y p2] [] p3) (some (.Name x pos')) pos.line X.env = pure false := by rfl) (hf : X.fn x = true ∨ X.env.scope.names.lookup x = some .local := by first | exact .inl rfl | exact .inr rfl | assumption)
    (hN0 : X.N[0]? = some y := by rfl) (hv : Vis X.env.scope y := by first | exact Or.inl rfl | exact Or.inr (Or.inl rfl) | exact Or.inr (Or.inr rfl)) (hd : (y == ("__debug__" : Str)) = false := by decide) (hcd : (y == ("__classdict__" : Str)) = false := by decide)
    (he : starEach [.Name y p2] X.env = (false, eval (.Name y p2) X.env) :: starEach [] X.env := by rfl) :
    PSs X (.Assign [.Name x pos'] (.Call (.Name "_law_feed" p1) [.Name y p2] [] p3) pos :: rest) (tSeq (tAsg (tCall (spFeed K) [] E0 (tCons (tVar 0) tNil)) (gName 1)) tb) ∧ SS X.prog X.w tb db := by
  subst hK
  exact ⟨pss_cons (ps_set hN hi hx (pe_call FF hr hg hm hk hbd .nil pass0 (pa_cons (pe_var hN0 hv hd hcd) pa_nil he) (by decide) he rfl) hs hf) hb.pe, hb.se⟩
end
theorem fin_law {X : Cx} {body : List Stmt} {tb : TS} {db : DS} {N : List Str} {H : Hp} {a : Addr} {ns : List Int} {Q : VK} (h : PSs X.nox body (tSeq (tAsg (tCall (spFeed K) [] E0 (tCons (tVar 0) tNil)) (gName 1)) tb) ∧ SS P w tb db) (hN : N.length = 17) (hS : SqL K H a (ns.map V.int)) (hl : ns.length ≤ 63) (hQ : ∀ H', Q (.bl true) H')
    (hd : db { nx := fun _ => False, rt := fun d => d = .bool true } (none :: some (.d (.dict [])) :: List.replicate 15 none)) : ∃ t, PSs X body t ∧ t { nx := fun _ H' => Q .non H', rt := Q } (L2.start N [.ref a]) H := by
  refine ⟨_, PSs.nox h.1, ⟨_, rfl, a, ns, rfl, hS, hl, fun v H1 e r => ?_⟩⟩
  have hlen : ((L2.start N [.ref a]).set 1 (some v)).length = 17 := by
    rw [List.length_set]
    unfold L2.start
    rw [List.length_append, List.length_map, List.length_replicate, hN]
    rfl
  refine h.2.run (H0 := H1) (τ := none :: some (.d (.dict [])) :: List.replicate 15 none) ⟨Sm.refl H1, fun j x hx => ?_, fun i j x y p hi _ ei _ => ?_, by rw [hlen]; rfl⟩ hd ⟨fun _ _ _ _ _ z => z.elim, fun _ _ _ _ _ z => z.elim, fun _ _ _ _ _ z => z.elim, fun v H' d _ r h => ?_, fun _ _ _ _ _ _ _ _ z => z.elim⟩
  · match j, hx with
    | 0, hx => cases hx
    | 1, hx =>
      cases hx
      exact ⟨some v, List.getElem?_set_self (by rw [List.length_set] at hlen; omega), v, rfl, r, .inr r⟩
    | j + 2, hx =>
      exfalso
      have hx : (List.replicate 15 (none : Option DV))[j]? = some (some x) := hx
      rw [List.getElem?_replicate] at hx
      split at hx <;> cases hx
  · match i, hi with
    | 0, hi => cases hi
    | 1, hi => cases hi; cases ei
    | i + 2, hi =>
      have hi : (List.replicate 15 (none : Option DV))[i]? = some (some x) := hi
      rw [List.getElem?_replicate] at hi
      split at hi <;> cases hi
  · have h : d = .bool true := h
    subst h
    rw [r.bool]
    exact hQ H'
theorem ok_lawR (fr : Fre mg) {f fF : Addr} {fd fdF : FuncData} (F : FunD K "law" "law" (defArgs s_law) (defBody s_law) (defScope s_law) [] [] f fd) (FF : FunD K "_law_feed" "_law_feed" (defArgs s__law_feed) (defBody s__law_feed) (defScope s__law_feed) [] [] fF fdF) (gF : mg "_law_feed" = some (.ref fF)) (O__law_pick : Own P w K mg base 1 "_law_pick" [] (spD 2 G_pick)) (O__law_drawn : Own P w K mg base 2 "_law_drawn" [] (spD 4 G_drawn)) (O__law_near : Own P w K mg base 3 "_law_near" [] (spD 3 G_near)) (O__law_are_fine : Own P w K mg base 11 "_law_are_fine" [] (spD 2 G_fine)) (O_settled_after : Own P w K mg base 7 "settled_after" [] (spD 1 G_settled)) : FnOk P w K mg base CX0 12 f fd ["_law_script"] (spLaw K) := by
  refine F.ok sc_law (fun vs H Q E h => ?_) fun cdv A outer s H vs Q E hr h => ?_
  · obtain ⟨a, ns, rfl, _⟩ := h
    rfl
  obtain ⟨a, ns, rfl, hS, hl, hQ⟩ := h
  have nd := sc_law.nd
  have hu := hr.units
  have hu1 := hu_of hr
  have hu5 := Room.units65 hr
  have bF : Binds K fdF ["_law_script"] [] := FF.bindsN fun _ _ _ _ _ _ us hl => match us, hl with | [_], _ => rfl
  refine fin_law (dseqFeedR nd (ok_feedR fr FF) (hr.mono (by decide)) (by rfl) gF FF.kp bF rfl (dseq (dasg (dtup (acons (dtup (acons (dtup (acons (dtup (acons dint (acons dint anil))) anil)) (acons (dtup (acons (dtup (acons dint (acons dint anil))) anil)) anil))) (acons (dtup (acons (dtup (acons (dtup (acons dint (acons dint anil))) anil)) anil)) (acons (dtup (acons (dtup (acons (dtup (acons dint (acons dint anil))) anil)) (acons (dtup (acons (dtup (acons dint (acons dint anil))) anil)) anil))) anil)))) (gtup (n := 3) rfl (gcons (gname 2 nd) (gcons (gname 3 nd) (gcons (gname 4 nd) gnil))))) (dseq (dset 5 nd (PD.v (dtup (acons (dtup (acons (dtup (acons dint (acons dint anil))) anil)) (acons (dtup (acons (dtup (acons dint (acons dint anil))) anil)) (acons (dtup (acons (dtup (acons dint (acons dint anil))) anil)) (acons (dtup (acons (dtup (acons dint (acons dint anil))) anil)) (acons (dtup (acons (dtup (acons dint (acons dint anil))) anil)) anil)))))))) (dseq (dset 6 nd (PD.v (dtup (acons (dtup (acons (dtup (acons dint (acons dint anil))) anil)) (acons (dtup (acons (dtup (acons dint (acons dint anil))) anil)) (acons (dtup (acons (dtup (acons dint (acons dint anil))) anil)) (acons (dtup (acons (dtup (acons dint (acons dint anil))) anil)) (acons (dtup (acons (dtup (acons dint (acons dint anil))) anil)) anil)))))))) (dseq (dforL PassesOwn.never rfl (ldisp (acons (dtup (acons (dv 4) (acons (dv 3) anil))) (acons (dtup (acons (dv 5) (acons (dv 2) anil))) (acons (dtup (acons (dv 5) (acons (dv 6) anil))) (acons (dtup (acons (dv 6) (acons (dv 5) anil))) (acons (dtup (acons (dv 6) (acons (dv 4) anil))) (acons (dtup (acons (dv 2) (acons (dv 6) anil))) anil))))))) (gtup (n := 2) rfl (gcons (gname 7 nd) (gcons (gname 8 nd) gnil))) (dlast (difS (tnot (tval (dcall O__law_are_fine (hr.mono (by decide)) (by rfl) (acons (dv 7) (acons (dv 8) anil))))) (dlast (dret dbl)) dnil))) (dseq (dset 9 nd (PD.v (dtup (acons (drepT (dtup (acons (dtup (acons dint (acons dint anil))) anil)) dint) anil)))) (dseq (dforR PassesOwn.never rfl (by rfl) fr.range (acons dint anil) (gname 10 nd) (dseq (dset 12 nd (PD.v (dtupOfL (by rfl) fr.tuple (lcR (by rfl) fr.range (acons dint anil) (plc (own := [("_law_y", 11)]) rfl nd (blkOk_by (by kernel_rfl)) (fun _ _ _ _ _ => (gname 11 nd)) (by decide) (fun _ _ _ _ _ => yes) (fun _ _ _ _ _ => (dtup (acons (dif_ (teq hu (dv 11) (dv 10)) dint dint) (acons dint anil))))))))) (dseq (dset 13 nd (PD.v (dtup (acons (dv 12) (acons (drepT (dtup (acons (dtup (acons dint (acons dint anil))) anil)) dint) anil))))) (dlast (difS (tw (tor (tnot (tval (dcall O__law_are_fine (hr.mono (by decide)) (by rfl) (acons (dv 13) (acons (dv 9) anil))))) (tor1 (tnotN (dcall O_settled_after (hr.mono (by decide)) (by rfl) (acons (dv 13) anil)) dnon)))) (dlast (dret dbl)) dnil))))) (dseq (dforR PassesOwn.never rfl (by rfl) fr.range (acons dint anil) (gname 14 nd) (dseq (dset 15 nd (PD.v (dadd dint (dcall O__law_pick (hr.mono (by decide)) (by rfl) (acons (dv 1) (acons dint anil)))))) (dseq (dset 16 nd (PD.v (dcall O__law_drawn (hr.mono (by decide)) (by rfl) (acons (dv 1) (acons (dv 15) (acons dint (acons dint anil))))))) (dseq (dpar 7 8 rfl nd (PD.v (dcall O__law_near (hr.mono (by decide)) (by rfl) (acons (dv 1) (acons (dv 15) (acons (dv 16) anil))))) (PD.v (dcall O__law_near (hr.mono (by decide)) (by rfl) (acons (dv 1) (acons (dv 15) (acons (dv 16) anil))))) (by rfl)) (dlast (difS (tw (tor (tnot (tval (dcall O__law_are_fine (hr.mono (by decide)) (by rfl) (acons (dv 7) (acons (dv 8) anil))))) (tor1 (tnot (tval (dcall O__law_are_fine (hr.mono (by decide)) (by rfl) (acons (dv 7) (acons (dv 16) anil)))))))) (dlast (dret dbl)) dnil)))))) (dlast (dret dbl)))))))))) rfl hS hl hQ ?_
  refine ⟨by show 2 ≤ 100000; decide, rfl, by show 1 ≤ 100000; decide, rfl, by show 2 ≤ 100000; decide, rfl, by show 1 ≤ 100000; decide, rfl, by show 2 ≤ 100000; decide, rfl, by show 2 ≤ 100000; decide, rfl, by show 1 ≤ 100000; decide, rfl, by show 1 ≤ 100000; decide, rfl, by show 2 ≤ 100000; decide, rfl, by show 1 ≤ 100000; decide, rfl, by show 2 ≤ 100000; decide, rfl, by show 1 ≤ 100000; decide, rfl, by show 2 ≤ 100000; decide, rfl, by show 3 ≤ 100000; decide, rfl, dg3 rfl rfl rfl ?_⟩
  refine ⟨by show 2 ≤ 100000; decide, rfl, by show 1 ≤ 100000; decide, rfl, by show 2 ≤ 100000; decide, rfl, by show 1 ≤ 100000; decide, rfl, by show 2 ≤ 100000; decide, rfl, by show 1 ≤ 100000; decide, rfl, by show 2 ≤ 100000; decide, rfl, by show 1 ≤ 100000; decide, rfl, by show 2 ≤ 100000; decide, rfl, by show 1 ≤ 100000; decide, rfl, by show 5 ≤ 100000; decide, rfl, rfl, fun _ => ?_⟩
  refine ⟨by show 2 ≤ 100000; decide, rfl, by show 1 ≤ 100000; decide, rfl, by show 2 ≤ 100000; decide, rfl, by show 1 ≤ 100000; decide, rfl, by show 2 ≤ 100000; decide, rfl, by show 1 ≤ 100000; decide, rfl, by show 2 ≤ 100000; decide, rfl, by show 1 ≤ 100000; decide, rfl, by show 2 ≤ 100000; decide, rfl, by show 1 ≤ 100000; decide, rfl, by show 5 ≤ 100000; decide, rfl, rfl, fun _ => ?_⟩
  refine ⟨_, _, rfl, rfl, _, _, rfl, rfl, by show 2 ≤ 100000; decide, rfl, _, _, rfl, rfl, _, _, rfl, rfl, by show 2 ≤ 100000; decide, rfl, _, _, rfl, rfl, _, _, rfl, rfl, by show 2 ≤ 100000; decide, rfl, _, _, rfl, rfl, _, _, rfl, rfl, by show 2 ≤ 100000; decide, rfl, _, _, rfl, rfl, _, _, rfl, rfl, by show 2 ≤ 100000; decide, rfl, _, _, rfl, rfl, _, _, rfl, rfl, by show 2 ≤ 100000; decide, rfl, by show 6 ≤ 100000; decide, rfl, rfl, fun i τ => ∃ x7 x8, τ = [none, some (.d (.dict [])), some (.d (eM flipM)), some (.d (eM holdM)), some (.d (eM onceM)), some (.d (eM lateM)), some (.d (eM ringM)), x7, x8, none, none, none, none, none, none, none, none], ⟨none, none, rfl⟩, fun _ _ _ _ => trivial, fun i x τ' hx hw => ?_, fun τ' hw => ?_⟩
  · obtain ⟨x7, x8, rfl⟩ := hw
    have hp : ∃ m n : Mc, x = .tuple [eM m, eM n] ∧ Ok m 1 ∧ Ok n 1 := by
      match i, hx with
      | 0, hx => exact ⟨onceM, holdM, (Option.some.inj hx).symm, ok_once, ok_hold⟩
      | 1, hx => exact ⟨lateM, flipM, (Option.some.inj hx).symm, ok_late, ok_flip⟩
      | 2, hx => exact ⟨lateM, ringM, (Option.some.inj hx).symm, ok_late, ok_ring⟩
      | 3, hx => exact ⟨ringM, lateM, (Option.some.inj hx).symm, ok_ring, ok_late⟩
      | 4, hx => exact ⟨ringM, onceM, (Option.some.inj hx).symm, ok_ring, ok_once⟩
      | 5, hx => exact ⟨flipM, ringM, (Option.some.inj hx).symm, ok_flip, ok_ring⟩
      | i + 6, hx => exact absurd hx (by simp)
    obtain ⟨m, n, rfl, om, on⟩ := hp
    exact dg2 (noL_eM m) (noL_eM n) ⟨_, _, rfl, rfl, _, _, rfl, rfl, rfl, m, n, 1, rfl, om, on, _, rfl, some (.d (eM m)), some (.d (eM n)), rfl⟩
  · obtain ⟨x7, x8, rfl⟩ := hw
    refine ⟨by show 2 ≤ 100000; decide, rfl, by show 1 ≤ 100000; decide, rfl, _, rfl, rfl, by show 1 ≤ 100000; decide, rfl, rfl, fun _ => ⟨4, rfl, by omega, fun i τ => ∃ x10 x12 x13, τ = [none, some (.d (.dict [])), some (.d (eM flipM)), some (.d (eM holdM)), some (.d (eM onceM)), some (.d (eM lateM)), some (.d (eM ringM)), x7, x8, some (.d (eM calmM)), x10, none, x12, x13, none, none, none], ⟨none, none, none, rfl⟩, fun _ _ _ _ => trivial, fun i x τ' hx hw => ?_, fun τ' hw => ?_⟩⟩
    · obtain ⟨x10, x12, x13, rfl⟩ := hw
      have hil : i < 4 := by
        have := (List.getElem?_eq_some_iff.mp hx).1
        rw [rgD_len] at this
        exact this
      rw [rgD_at hil] at hx
      cases hx
      refine ⟨rfl, 4, rfl, by omega, ?_⟩
      rw [rgD_eI]
      refine dColl_one (zs := List.range 4) (enc := eI) (fun y => eP (if y = i then 0 else 1, 1)) (fun y hy R hR => ⟨rfl, _, _, rfl, rfl, _, _, rfl, rfl, rfl, rfl, shaped_eI y, shaped_eI i, _, rfl, ?_⟩) ⟨noLs_map _ _ fun _ _ => rfl, fun _ => ⟨_, _, rfl, rfl, by show 2 ≤ 100000; decide, rfl, by show 1 ≤ 100000; decide, rfl, _, rfl, rfl, by show 2 ≤ 100000; decide, rfl, rfl, fun _ => ?_⟩⟩
      · rw [show PyData.eqv (eI y) (.int ((i : Nat) : Int)) = decide (y = i) from eqv_eI y i]
        by_cases c : y = i
        · rw [decide_eq_true c]
          rw [if_pos c] at hR
          exact ⟨by show 2 ≤ 100000; decide, rfl, rfl, hR⟩
        · rw [decide_eq_false c]
          rw [if_neg c] at hR
          exact ⟨by show 2 ≤ 100000; decide, rfl, rfl, hR⟩
      · refine ⟨_, _, rfl, rfl, _, _, rfl, rfl, rfl, waitM i, calmM, 4, rfl, ok_wait i hil, ok_calm, _, rfl, _, _, rfl, rfl, rfl, waitM i, 4, rfl, ok_wait i hil, rfl, _, rfl, ?_⟩
        rw [wait_none i hil]
        exact ⟨_, _, _, rfl⟩
    · obtain ⟨x10, x12, x13, rfl⟩ := hw
      refine ⟨4, rfl, by omega, fun i τ => ∃ x7 x8 x14 x15 x16, τ = [none, some (.d (.dict [])), some (.d (eM flipM)), some (.d (eM holdM)), some (.d (eM onceM)), some (.d (eM lateM)), some (.d (eM ringM)), x7, x8, some (.d (eM calmM)), x10, none, x12, x13, x14, x15, x16], ⟨x7, x8, none, none, none, rfl⟩, fun _ _ _ _ => trivial, fun i x τ' hx hw => ?_, fun τ' hw => rfl⟩
      obtain ⟨y7, y8, x14, x15, x16, rfl⟩ := hw
      refine ⟨noL_rg (List.mem_of_getElem? hx), _, _, rfl, rfl, rfl, 4, rfl, by omega, by omega, fun r hr => ⟨_, _, rfl, rfl, rfl, fun _ => ?_⟩⟩
      have h1r : (1 : Int) + ((r : Nat) : Int) = ((1 + r : Nat) : Int) := by omega
      refine ⟨_, _, rfl, rfl, _, _, rfl, rfl, rfl, 1 + r, 3, 2, by show [PyData.dict [], PyData.int ((1 : Int) + ((r : Nat) : Int)), PyData.int 3, PyData.int 2] = _; rw [h1r]; rfl, by omega, by omega, by omega, by omega, by omega, by omega, fun core oc hcl => ⟨noL_eM core, fun _ => ?_⟩⟩
      refine ⟨_, _, rfl, rfl, _, _, rfl, rfl, _, _, rfl, rfl, rfl, core, 1 + r, by show [PyData.dict [], PyData.int ((1 : Int) + ((r : Nat) : Int)), eM core] = _; rw [h1r]; rfl, oc, hcl, fun m om => ⟨_, _, rfl, rfl, _, _, rfl, rfl, _, _, rfl, rfl, rfl, core, 1 + r, by show [PyData.dict [], PyData.int ((1 : Int) + ((r : Nat) : Int)), eM core] = _; rw [h1r]; rfl, oc, hcl, fun n on => ⟨noL_eM m, noL_eM n, fun _ _ => ?_⟩⟩⟩
      exact ⟨_, _, rfl, rfl, _, _, rfl, rfl, rfl, m, n, 1 + r, rfl, om, on, _, rfl, _, _, rfl, rfl, _, _, rfl, rfl, rfl, m, core, 1 + r, rfl, om, oc, _, rfl, some (.d (eM m)), some (.d (eM n)), some (.d x), _, _, rfl⟩
end
end Wk
end

set_option Elab.async false
set_option linter.all false
set_option maxRecDepth 100000
set_option maxHeartbeats 0
namespace Wk
open PySem PySem.Spec PyProof.Rows L2
def d_as_set : He.DefD := ⟨("as_set", none), "as_set", "as_set", defArgs s_as_set, defBody s_as_set, defScope s_as_set, [], []⟩
def d_all_standings : He.DefD := ⟨("all_standings", none), "all_standings", "all_standings", defArgs s_all_standings, defBody s_all_standings, defScope s_all_standings, [], []⟩
def d_left_by : He.DefD := ⟨("left_by", none), "left_by", "left_by", defArgs s_left_by, defBody s_left_by, defScope s_left_by, [], []⟩
def d_nexts_of : He.DefD := ⟨("nexts_of", none), "nexts_of", "nexts_of", defArgs s_nexts_of, defBody s_nexts_of, defScope s_nexts_of, [], []⟩
def d_after_by : He.DefD := ⟨("after_by", none), "after_by", "after_by", defArgs s_after_by, defBody s_after_by, defScope s_after_by, [], []⟩
def d_part_by : He.DefD := ⟨("part_by", none), "part_by", "part_by", defArgs s_part_by, defBody s_part_by, defScope s_part_by, [], []⟩
def d_marks_of : He.DefD := ⟨("marks_of", none), "marks_of", "marks_of", defArgs s_marks_of, defBody s_marks_of, defScope s_marks_of, [], []⟩
def d_marks_by : He.DefD := ⟨("marks_by", none), "marks_by", "marks_by", defArgs s_marks_by, defBody s_marks_by, defScope s_marks_by, [], []⟩
def d_merged_by : He.DefD := ⟨("merged_by", none), "merged_by", "merged_by", defArgs s_merged_by, defBody s_merged_by, defScope s_merged_by, [], []⟩
def d_led_from : He.DefD := ⟨("led_from", none), "led_from", "led_from", defArgs s_led_from, defBody s_led_from, defScope s_led_from, [], []⟩
def d_least_parts : He.DefD := ⟨("least_parts", none), "least_parts", "least_parts", defArgs s_least_parts, defBody s_least_parts, defScope s_least_parts, [], []⟩
def d_numbered_from : He.DefD := ⟨("numbered_from", none), "numbered_from", "numbered_from", defArgs s_numbered_from, defBody s_numbered_from, defScope s_numbered_from, [], []⟩
def d_core_by : He.DefD := ⟨("core_by", none), "core_by", "core_by", defArgs s_core_by, defBody s_core_by, defScope s_core_by, [], []⟩
def d_cores_by : He.DefD := ⟨("cores_by", none), "cores_by", "cores_by", defArgs s_cores_by, defBody s_cores_by, defScope s_cores_by, [], []⟩
def d_settled_by : He.DefD := ⟨("settled_by", none), "settled_by", "settled_by", defArgs s_settled_by, defBody s_settled_by, defScope s_settled_by, [], []⟩
def d_is_integer : He.DefD := ⟨("is_integer", none), "is_integer", "is_integer", defArgs s_is_integer, defBody s_is_integer, defScope s_is_integer, [], []⟩
def d_is_number : He.DefD := ⟨("is_number", none), "is_number", "is_number", defArgs s_is_number, defBody s_is_number, defScope s_is_number, [], []⟩
def d_is_pair : He.DefD := ⟨("is_pair", none), "is_pair", "is_pair", defArgs s_is_pair, defBody s_is_pair, defScope s_is_pair, [], []⟩
def d_is_by_form : He.DefD := ⟨("is_by_form", none), "is_by_form", "is_by_form", defArgs s_is_by_form, defBody s_is_by_form, defScope s_is_by_form, [], []⟩
def d_machine_fault : He.DefD := ⟨("machine_fault", none), "machine_fault", "machine_fault", defArgs s_machine_fault, defBody s_machine_fault, defScope s_machine_fault, [], []⟩
def d_is_machine : He.DefD := ⟨("is_machine", none), "is_machine", "is_machine", defArgs s_is_machine, defBody s_is_machine, defScope s_is_machine, [], []⟩
def d_want : He.DefD := ⟨("want", none), "want", "want", defArgs s_want, defBody s_want, defScope s_want, [.int (-1)], []⟩
def d_want_machine : He.DefD := ⟨("want_machine", none), "want_machine", "want_machine", defArgs s_want_machine, defBody s_want_machine, defScope s_want_machine, [.str "machine"], []⟩
def d_want_both : He.DefD := ⟨("want_both", none), "want_both", "want_both", defArgs s_want_both, defBody s_want_both, defScope s_want_both, [], []⟩
def d_want_case : He.DefD := ⟨("want_case", none), "want_case", "want_case", defArgs s_want_case, defBody s_want_case, defScope s_want_case, [], []⟩
def d_cores_of : He.DefD := ⟨("cores_of", none), "cores_of", "cores_of", defArgs s_cores_of, defBody s_cores_of, defScope s_cores_of, [], []⟩
def d_settled_after : He.DefD := ⟨("settled_after", none), "settled_after", "settled_after", defArgs s_settled_after, defBody s_settled_after, defScope s_settled_after, [], []⟩
def d_shares_cores : He.DefD := ⟨("shares_cores", none), "shares_cores", "shares_cores", defArgs s_shares_cores, defBody s_shares_cores, defScope s_shares_cores, [], []⟩
def d_goal_by : He.DefD := ⟨("goal_by", none), "goal_by", "goal_by", defArgs s_goal_by, defBody s_goal_by, defScope s_goal_by, [], []⟩
def d_states_behind : He.DefD := ⟨("states_behind", none), "states_behind", "states_behind", defArgs s_states_behind, defBody s_states_behind, defScope s_states_behind, [], []⟩
def d_states_begun : He.DefD := ⟨("states_begun", none), "states_begun", "states_begun", defArgs s_states_begun, defBody s_states_begun, defScope s_states_begun, [], []⟩
def d_failing_from : He.DefD := ⟨("failing_from", none), "failing_from", "failing_from", defArgs s_failing_from, defBody s_failing_from, defScope s_failing_from, [], []⟩
def d_failing_by : He.DefD := ⟨("failing_by", none), "failing_by", "failing_by", defArgs s_failing_by, defBody s_failing_by, defScope s_failing_by, [], []⟩
def d_may_by : He.DefD := ⟨("may_by", none), "may_by", "may_by", defArgs s_may_by, defBody s_may_by, defScope s_may_by, [], []⟩
def d_least_by : He.DefD := ⟨("least_by", none), "least_by", "least_by", defArgs s_least_by, defBody s_least_by, defScope s_least_by, [], []⟩
def d_may_replace : He.DefD := ⟨("may_replace", none), "may_replace", "may_replace", defArgs s_may_replace, defBody s_may_replace, defScope s_may_replace, [], [("beats", .int 0), ("guard", .non)]⟩
def d_least_beats : He.DefD := ⟨("least_beats", none), "least_beats", "least_beats", defArgs s_least_beats, defBody s_least_beats, defScope s_least_beats, [], [("guard", .non)]⟩
def d_are_alike : He.DefD := ⟨("are_alike", none), "are_alike", "are_alike", defArgs s_are_alike, defBody s_are_alike, defScope s_are_alike, [], []⟩
def d__law_feed : He.DefD := ⟨("_law_feed", none), "_law_feed", "_law_feed", defArgs s__law_feed, defBody s__law_feed, defScope s__law_feed, [], []⟩
def d__law_pick : He.DefD := ⟨("_law_pick", none), "_law_pick", "_law_pick", defArgs s__law_pick, defBody s__law_pick, defScope s__law_pick, [], []⟩
def d__law_names : He.DefD := ⟨("_law_names", none), "_law_names", "_law_names", defArgs s__law_names, defBody s__law_names, defScope s__law_names, [], []⟩
def d__law_drawn : He.DefD := ⟨("_law_drawn", none), "_law_drawn", "_law_drawn", defArgs s__law_drawn, defBody s__law_drawn, defScope s__law_drawn, [], []⟩
def d__law_called : He.DefD := ⟨("_law_called", none), "_law_called", "_law_called", defArgs s__law_called, defBody s__law_called, defScope s__law_called, [], []⟩
def d__law_joined : He.DefD := ⟨("_law_joined", none), "_law_joined", "_law_joined", defArgs s__law_joined, defBody s__law_joined, defScope s__law_joined, [], []⟩
def d__law_labels : He.DefD := ⟨("_law_labels", none), "_law_labels", "_law_labels", defArgs s__law_labels, defBody s__law_labels, defScope s__law_labels, [], []⟩
def d__law_merged : He.DefD := ⟨("_law_merged", none), "_law_merged", "_law_merged", defArgs s__law_merged, defBody s__law_merged, defScope s__law_merged, [], []⟩
def d__law_from : He.DefD := ⟨("_law_from", none), "_law_from", "_law_from", defArgs s__law_from, defBody s__law_from, defScope s__law_from, [], []⟩
def d__law_numbered : He.DefD := ⟨("_law_numbered", none), "_law_numbered", "_law_numbered", defArgs s__law_numbered, defBody s__law_numbered, defScope s__law_numbered, [], []⟩
def d__law_core_at : He.DefD := ⟨("_law_core_at", none), "_law_core_at", "_law_core_at", defArgs s__law_core_at, defBody s__law_core_at, defScope s__law_core_at, [], []⟩
def d__law_shares : He.DefD := ⟨("_law_shares", none), "_law_shares", "_law_shares", defArgs s__law_shares, defBody s__law_shares, defScope s__law_shares, [], []⟩
def d__law_behind : He.DefD := ⟨("_law_behind", none), "_law_behind", "_law_behind", defArgs s__law_behind, defBody s__law_behind, defScope s__law_behind, [], []⟩
def d__law_settled : He.DefD := ⟨("_law_settled", none), "_law_settled", "_law_settled", defArgs s__law_settled, defBody s__law_settled, defScope s__law_settled, [], []⟩
def d__law_may : He.DefD := ⟨("_law_may", none), "_law_may", "_law_may", defArgs s__law_may, defBody s__law_may, defScope s__law_may, [], []⟩
def d__law_same : He.DefD := ⟨("_law_same", none), "_law_same", "_law_same", defArgs s__law_same, defBody s__law_same, defScope s__law_same, [], []⟩
def d__law_led : He.DefD := ⟨("_law_led", none), "_law_led", "_law_led", defArgs s__law_led, defBody s__law_led, defScope s__law_led, [], []⟩
def d__law_near : He.DefD := ⟨("_law_near", none), "_law_near", "_law_near", defArgs s__law_near, defBody s__law_near, defScope s__law_near, [], []⟩
def d__law_is_fine : He.DefD := ⟨("_law_is_fine", none), "_law_is_fine", "_law_is_fine", defArgs s__law_is_fine, defBody s__law_is_fine, defScope s__law_is_fine, [], []⟩
def d__law_are_fine : He.DefD := ⟨("_law_are_fine", none), "_law_are_fine", "_law_are_fine", defArgs s__law_are_fine, defBody s__law_are_fine, defScope s__law_are_fine, [], []⟩
def d_law : He.DefD := ⟨("law", none), "law", "law", defArgs s_law, defBody s_law, defScope s_law, [], []⟩
def fn : List He.DefD := ([d_as_set, d_all_standings, d_left_by, d_nexts_of, d_after_by, d_part_by, d_marks_of, d_marks_by, d_merged_by, d_led_from, d_least_parts, d_numbered_from, d_core_by, d_cores_by, d_settled_by, d_is_integer, d_is_number, d_is_pair, d_is_by_form, d_machine_fault, d_is_machine, d_want, d_want_machine, d_want_both, d_want_case, d_cores_of, d_settled_after, d_shares_cores, d_goal_by, d_states_behind] : List He.DefD) ++ ([d_states_begun, d_failing_from, d_failing_by, d_may_by, d_least_by, d_may_replace, d_least_beats, d_are_alike, d__law_feed, d__law_pick, d__law_names, d__law_drawn, d__law_called, d__law_joined, d__law_labels, d__law_merged, d__law_from, d__law_numbered, d__law_core_at, d__law_shares, d__law_behind, d__law_settled, d__law_may, d__law_same, d__law_led, d__law_near, d__law_is_fine, d__law_are_fine, d_law] : List He.DefD)
def fa : List He.Fa := ([.glo "as_set", .glo "all_standings", .glo "left_by", .glo "nexts_of", .glo "after_by", .glo "part_by", .glo "marks_of", .glo "marks_by", .glo "merged_by", .glo "led_from", .glo "least_parts", .glo "numbered_from", .glo "core_by", .glo "cores_by", .glo "settled_by", .glo "is_integer", .glo "is_number", .glo "is_pair", .glo "is_by_form", .glo "machine_fault", .glo "is_machine", .glo "want", .glo "want_machine", .glo "want_both", .glo "want_case", .glo "cores_of", .glo "settled_after", .glo "shares_cores", .glo "goal_by", .glo "states_behind"] : List He.Fa) ++ ([.glo "states_begun", .glo "failing_from", .glo "failing_by", .glo "may_by", .glo "least_by", .glo "may_replace", .glo "least_beats", .glo "are_alike", .glo "_law_feed", .glo "_law_pick", .glo "_law_names", .glo "_law_drawn", .glo "_law_called", .glo "_law_joined", .glo "_law_labels", .glo "_law_merged", .glo "_law_from", .glo "_law_numbered", .glo "_law_core_at", .glo "_law_shares", .glo "_law_behind", .glo "_law_settled", .glo "_law_may", .glo "_law_same", .glo "_law_led", .glo "_law_near", .glo "_law_is_fine", .glo "_law_are_fine", .glo "law", .free "len"] : List He.Fa) ++ ([.free "tuple", .free "sorted", .free "set", .free "range", .free "min", .free "max", .free "all", .free "list", .free "isinstance", .free "int", .free "enumerate", .free "bool", .free "str"] : List He.Fa)
abbrev R : PySem.W.OpenRow := PySem.W.OpenLaw.row PySem.Challenge.rw_wokeas_k96_whole_settled_machines_replac
abbrev hk : PySem.W.Hook := He.hookD 4 fa fn
def ob (s : PySem.W.SharedT) : He.AlD := He.obsDG 4 fa fn (HandSHeadRun.getT s)
theorem ob_eq (s : PySem.W.SharedT) : ob s = hk.obs s.abs := He.obsDG_eq (HandSHeadRun.getT_eq s)
def loose : List PySem.Str := (["__name__", "as_set", "all_standings", "left_by", "nexts_of", "after_by", "part_by", "marks_of", "marks_by", "merged_by", "led_from", "least_parts", "numbered_from", "core_by", "cores_by", "settled_by", "WakeError", "MachineError", "NotUsable", "is_integer", "is_number", "is_pair", "is_by_form", "machine_fault", "is_machine", "want", "want_machine", "is_place_by_form", "guard_fault", "want_many"] : List PySem.Str) ++ (["is_guard", "want_both", "want_case", "cores_of", "settled_after", "shares_cores", "goal_by", "states_behind", "states_begun", "failing_from", "failing_by", "may_by", "least_by", "may_replace", "least_beats", "are_alike", "_law_feed", "_law_pick", "_law_names", "_law_drawn", "_law_called", "_law_joined", "_law_labels", "_law_merged", "_law_from", "_law_numbered", "_law_core_at", "_law_shares", "_law_behind", "_law_settled"] : List PySem.Str) ++ (["_law_may", "_law_same", "_law_led", "_law_near", "_law_is_fine", "_law_are_fine"] : List PySem.Str)
theorem run (w : World) : HandSHeadRun.RunEq R (PySem.W.view R.prog [78]) hk ob 3000 loose w := by
  intro os
  kernel_rfl

theorem facts {P : Program} {w : World} {K : PySem.W.Frag} {h : Heap} {mg : Str → Option Value} {f : Addr} (X : K.In h) (G : h.Ns mainGlobals mg) (hfa : mg ("law" : Str) = some (.ref f)) (c : He.SaysD fa fn K) :
    ∃ fd : FuncData, (∀ (s : Shared) (v : Value), BindsTo s fd ⟨[v], []⟩ [("_law_script", v)]) ∧ ∀ base : Heap, K.In base → base.Ns mainGlobals mg → FnOk P w K mg base CX0 12 f fd ["_law_script"] (spLaw K) := by
  obtain ⟨fd_as_set, F_as_set⟩ := c.def_ 0 (d := d_as_set) rfl
  have g_as_set := He.glo_ok X G (c.fact 0 (f := .glo "as_set") rfl)
  obtain ⟨fd_all_standings, F_all_standings⟩ := c.def_ 1 (d := d_all_standings) rfl
  have g_all_standings := He.glo_ok X G (c.fact 1 (f := .glo "all_standings") rfl)
  obtain ⟨fd_left_by, F_left_by⟩ := c.def_ 2 (d := d_left_by) rfl
  have g_left_by := He.glo_ok X G (c.fact 2 (f := .glo "left_by") rfl)
  obtain ⟨fd_nexts_of, F_nexts_of⟩ := c.def_ 3 (d := d_nexts_of) rfl
  have g_nexts_of := He.glo_ok X G (c.fact 3 (f := .glo "nexts_of") rfl)
  obtain ⟨fd_after_by, F_after_by⟩ := c.def_ 4 (d := d_after_by) rfl
  have g_after_by := He.glo_ok X G (c.fact 4 (f := .glo "after_by") rfl)
  obtain ⟨fd_part_by, F_part_by⟩ := c.def_ 5 (d := d_part_by) rfl
  have g_part_by := He.glo_ok X G (c.fact 5 (f := .glo "part_by") rfl)
  obtain ⟨fd_marks_of, F_marks_of⟩ := c.def_ 6 (d := d_marks_of) rfl
  have g_marks_of := He.glo_ok X G (c.fact 6 (f := .glo "marks_of") rfl)
  obtain ⟨fd_marks_by, F_marks_by⟩ := c.def_ 7 (d := d_marks_by) rfl
  have g_marks_by := He.glo_ok X G (c.fact 7 (f := .glo "marks_by") rfl)
  obtain ⟨fd_merged_by, F_merged_by⟩ := c.def_ 8 (d := d_merged_by) rfl
  have g_merged_by := He.glo_ok X G (c.fact 8 (f := .glo "merged_by") rfl)
  obtain ⟨fd_led_from, F_led_from⟩ := c.def_ 9 (d := d_led_from) rfl
  have g_led_from := He.glo_ok X G (c.fact 9 (f := .glo "led_from") rfl)
  obtain ⟨fd_least_parts, F_least_parts⟩ := c.def_ 10 (d := d_least_parts) rfl
  have g_least_parts := He.glo_ok X G (c.fact 10 (f := .glo "least_parts") rfl)
  obtain ⟨fd_numbered_from, F_numbered_from⟩ := c.def_ 11 (d := d_numbered_from) rfl
  have g_numbered_from := He.glo_ok X G (c.fact 11 (f := .glo "numbered_from") rfl)
  obtain ⟨fd_core_by, F_core_by⟩ := c.def_ 12 (d := d_core_by) rfl
  have g_core_by := He.glo_ok X G (c.fact 12 (f := .glo "core_by") rfl)
  obtain ⟨fd_cores_by, F_cores_by⟩ := c.def_ 13 (d := d_cores_by) rfl
  have g_cores_by := He.glo_ok X G (c.fact 13 (f := .glo "cores_by") rfl)
  obtain ⟨fd_settled_by, F_settled_by⟩ := c.def_ 14 (d := d_settled_by) rfl
  have g_settled_by := He.glo_ok X G (c.fact 14 (f := .glo "settled_by") rfl)
  obtain ⟨fd_is_integer, F_is_integer⟩ := c.def_ 15 (d := d_is_integer) rfl
  have g_is_integer := He.glo_ok X G (c.fact 15 (f := .glo "is_integer") rfl)
  obtain ⟨fd_is_number, F_is_number⟩ := c.def_ 16 (d := d_is_number) rfl
  have g_is_number := He.glo_ok X G (c.fact 16 (f := .glo "is_number") rfl)
  obtain ⟨fd_is_pair, F_is_pair⟩ := c.def_ 17 (d := d_is_pair) rfl
  have g_is_pair := He.glo_ok X G (c.fact 17 (f := .glo "is_pair") rfl)
  obtain ⟨fd_is_by_form, F_is_by_form⟩ := c.def_ 18 (d := d_is_by_form) rfl
  have g_is_by_form := He.glo_ok X G (c.fact 18 (f := .glo "is_by_form") rfl)
  obtain ⟨fd_machine_fault, F_machine_fault⟩ := c.def_ 19 (d := d_machine_fault) rfl
  have g_machine_fault := He.glo_ok X G (c.fact 19 (f := .glo "machine_fault") rfl)
  obtain ⟨fd_is_machine, F_is_machine⟩ := c.def_ 20 (d := d_is_machine) rfl
  have g_is_machine := He.glo_ok X G (c.fact 20 (f := .glo "is_machine") rfl)
  obtain ⟨fd_want, F_want⟩ := c.def_ 21 (d := d_want) rfl
  have g_want := He.glo_ok X G (c.fact 21 (f := .glo "want") rfl)
  obtain ⟨fd_want_machine, F_want_machine⟩ := c.def_ 22 (d := d_want_machine) rfl
  have g_want_machine := He.glo_ok X G (c.fact 22 (f := .glo "want_machine") rfl)
  obtain ⟨fd_want_both, F_want_both⟩ := c.def_ 23 (d := d_want_both) rfl
  have g_want_both := He.glo_ok X G (c.fact 23 (f := .glo "want_both") rfl)
  obtain ⟨fd_want_case, F_want_case⟩ := c.def_ 24 (d := d_want_case) rfl
  have g_want_case := He.glo_ok X G (c.fact 24 (f := .glo "want_case") rfl)
  obtain ⟨fd_cores_of, F_cores_of⟩ := c.def_ 25 (d := d_cores_of) rfl
  have g_cores_of := He.glo_ok X G (c.fact 25 (f := .glo "cores_of") rfl)
  obtain ⟨fd_settled_after, F_settled_after⟩ := c.def_ 26 (d := d_settled_after) rfl
  have g_settled_after := He.glo_ok X G (c.fact 26 (f := .glo "settled_after") rfl)
  obtain ⟨fd_shares_cores, F_shares_cores⟩ := c.def_ 27 (d := d_shares_cores) rfl
  have g_shares_cores := He.glo_ok X G (c.fact 27 (f := .glo "shares_cores") rfl)
  obtain ⟨fd_goal_by, F_goal_by⟩ := c.def_ 28 (d := d_goal_by) rfl
  have g_goal_by := He.glo_ok X G (c.fact 28 (f := .glo "goal_by") rfl)
  obtain ⟨fd_states_behind, F_states_behind⟩ := c.def_ 29 (d := d_states_behind) rfl
  have g_states_behind := He.glo_ok X G (c.fact 29 (f := .glo "states_behind") rfl)
  obtain ⟨fd_states_begun, F_states_begun⟩ := c.def_ 30 (d := d_states_begun) rfl
  have g_states_begun := He.glo_ok X G (c.fact 30 (f := .glo "states_begun") rfl)
  obtain ⟨fd_failing_from, F_failing_from⟩ := c.def_ 31 (d := d_failing_from) rfl
  have g_failing_from := He.glo_ok X G (c.fact 31 (f := .glo "failing_from") rfl)
  obtain ⟨fd_failing_by, F_failing_by⟩ := c.def_ 32 (d := d_failing_by) rfl
  have g_failing_by := He.glo_ok X G (c.fact 32 (f := .glo "failing_by") rfl)
  obtain ⟨fd_may_by, F_may_by⟩ := c.def_ 33 (d := d_may_by) rfl
  have g_may_by := He.glo_ok X G (c.fact 33 (f := .glo "may_by") rfl)
  obtain ⟨fd_least_by, F_least_by⟩ := c.def_ 34 (d := d_least_by) rfl
  have g_least_by := He.glo_ok X G (c.fact 34 (f := .glo "least_by") rfl)
  obtain ⟨fd_may_replace, F_may_replace⟩ := c.def_ 35 (d := d_may_replace) rfl
  have g_may_replace := He.glo_ok X G (c.fact 35 (f := .glo "may_replace") rfl)
  obtain ⟨fd_least_beats, F_least_beats⟩ := c.def_ 36 (d := d_least_beats) rfl
  have g_least_beats := He.glo_ok X G (c.fact 36 (f := .glo "least_beats") rfl)
  obtain ⟨fd_are_alike, F_are_alike⟩ := c.def_ 37 (d := d_are_alike) rfl
  have g_are_alike := He.glo_ok X G (c.fact 37 (f := .glo "are_alike") rfl)
  obtain ⟨fd__law_feed, F__law_feed⟩ := c.def_ 38 (d := d__law_feed) rfl
  have g__law_feed := He.glo_ok X G (c.fact 38 (f := .glo "_law_feed") rfl)
  obtain ⟨fd__law_pick, F__law_pick⟩ := c.def_ 39 (d := d__law_pick) rfl
  have g__law_pick := He.glo_ok X G (c.fact 39 (f := .glo "_law_pick") rfl)
  obtain ⟨fd__law_names, F__law_names⟩ := c.def_ 40 (d := d__law_names) rfl
  have g__law_names := He.glo_ok X G (c.fact 40 (f := .glo "_law_names") rfl)
  obtain ⟨fd__law_drawn, F__law_drawn⟩ := c.def_ 41 (d := d__law_drawn) rfl
  have g__law_drawn := He.glo_ok X G (c.fact 41 (f := .glo "_law_drawn") rfl)
  obtain ⟨fd__law_called, F__law_called⟩ := c.def_ 42 (d := d__law_called) rfl
  have g__law_called := He.glo_ok X G (c.fact 42 (f := .glo "_law_called") rfl)
  obtain ⟨fd__law_joined, F__law_joined⟩ := c.def_ 43 (d := d__law_joined) rfl
  have g__law_joined := He.glo_ok X G (c.fact 43 (f := .glo "_law_joined") rfl)
  obtain ⟨fd__law_labels, F__law_labels⟩ := c.def_ 44 (d := d__law_labels) rfl
  have g__law_labels := He.glo_ok X G (c.fact 44 (f := .glo "_law_labels") rfl)
  obtain ⟨fd__law_merged, F__law_merged⟩ := c.def_ 45 (d := d__law_merged) rfl
  have g__law_merged := He.glo_ok X G (c.fact 45 (f := .glo "_law_merged") rfl)
  obtain ⟨fd__law_from, F__law_from⟩ := c.def_ 46 (d := d__law_from) rfl
  have g__law_from := He.glo_ok X G (c.fact 46 (f := .glo "_law_from") rfl)
  obtain ⟨fd__law_numbered, F__law_numbered⟩ := c.def_ 47 (d := d__law_numbered) rfl
  have g__law_numbered := He.glo_ok X G (c.fact 47 (f := .glo "_law_numbered") rfl)
  obtain ⟨fd__law_core_at, F__law_core_at⟩ := c.def_ 48 (d := d__law_core_at) rfl
  have g__law_core_at := He.glo_ok X G (c.fact 48 (f := .glo "_law_core_at") rfl)
  obtain ⟨fd__law_shares, F__law_shares⟩ := c.def_ 49 (d := d__law_shares) rfl
  have g__law_shares := He.glo_ok X G (c.fact 49 (f := .glo "_law_shares") rfl)
  obtain ⟨fd__law_behind, F__law_behind⟩ := c.def_ 50 (d := d__law_behind) rfl
  have g__law_behind := He.glo_ok X G (c.fact 50 (f := .glo "_law_behind") rfl)
  obtain ⟨fd__law_settled, F__law_settled⟩ := c.def_ 51 (d := d__law_settled) rfl
  have g__law_settled := He.glo_ok X G (c.fact 51 (f := .glo "_law_settled") rfl)
  obtain ⟨fd__law_may, F__law_may⟩ := c.def_ 52 (d := d__law_may) rfl
  have g__law_may := He.glo_ok X G (c.fact 52 (f := .glo "_law_may") rfl)
  obtain ⟨fd__law_same, F__law_same⟩ := c.def_ 53 (d := d__law_same) rfl
  have g__law_same := He.glo_ok X G (c.fact 53 (f := .glo "_law_same") rfl)
  obtain ⟨fd__law_led, F__law_led⟩ := c.def_ 54 (d := d__law_led) rfl
  have g__law_led := He.glo_ok X G (c.fact 54 (f := .glo "_law_led") rfl)
  obtain ⟨fd__law_near, F__law_near⟩ := c.def_ 55 (d := d__law_near) rfl
  have g__law_near := He.glo_ok X G (c.fact 55 (f := .glo "_law_near") rfl)
  obtain ⟨fd__law_is_fine, F__law_is_fine⟩ := c.def_ 56 (d := d__law_is_fine) rfl
  have g__law_is_fine := He.glo_ok X G (c.fact 56 (f := .glo "_law_is_fine") rfl)
  obtain ⟨fd__law_are_fine, F__law_are_fine⟩ := c.def_ 57 (d := d__law_are_fine) rfl
  have g__law_are_fine := He.glo_ok X G (c.fact 57 (f := .glo "_law_are_fine") rfl)
  obtain ⟨fd_law, F_law⟩ := c.def_ 58 (d := d_law) rfl
  have g_law := He.glo_ok X G (c.fact 58 (f := .glo "law") rfl)
  have e := hfa.symm.trans g_law
  cases e
  have b := FunD.bindsA (ps := ["_law_script"]) F_law fun _ _ _ _ _ _ us hl => match us, hl with | [_], _ => rfl
  have fr : Fre mg := ⟨He.free_ok X G (c.fact 59 (f := .free "len") rfl), He.free_ok X G (c.fact 60 (f := .free "tuple") rfl), He.free_ok X G (c.fact 61 (f := .free "sorted") rfl), He.free_ok X G (c.fact 62 (f := .free "set") rfl), He.free_ok X G (c.fact 63 (f := .free "range") rfl), He.free_ok X G (c.fact 64 (f := .free "min") rfl), He.free_ok X G (c.fact 65 (f := .free "max") rfl), He.free_ok X G (c.fact 66 (f := .free "all") rfl), He.free_ok X G (c.fact 67 (f := .free "list") rfl), He.free_ok X G (c.fact 68 (f := .free "isinstance") rfl), He.free_ok X G (c.fact 69 (f := .free "int") rfl), He.free_ok X G (c.fact 70 (f := .free "enumerate") rfl), He.free_ok X G (c.fact 71 (f := .free "bool") rfl), He.free_ok X G (c.fact 72 (f := .free "str") rfl)⟩
  refine ⟨fd_law, fun s v => b s [v] rfl, fun base _ _ => ?_⟩
  have r_o_goal := o_goal (P := P) (w := w) (base := base) fr ⟨_, fd_goal_by, F_goal_by, g_goal_by⟩
  have r_o_setI := o_setI (P := P) (w := w) (base := base) fr ⟨_, fd_as_set, F_as_set, g_as_set⟩
  have r_o_allS := o_allS (P := P) (w := w) (base := base) fr ⟨_, fd_all_standings, F_all_standings, g_all_standings⟩
  have r_o_left := o_left (P := P) (w := w) (base := base) fr ⟨_, fd_left_by, F_left_by, g_left_by⟩ r_o_setI
  have r_o_nexts := o_nexts (P := P) (w := w) (base := base) fr ⟨_, fd_nexts_of, F_nexts_of, g_nexts_of⟩ r_o_setI
  have r_o_led := o_led (P := P) (w := w) (base := base) fr ⟨_, fd_led_from, F_led_from, g_led_from⟩ r_o_setI r_o_nexts
  have r_o_want2 := o_want2 (P := P) (w := w) (base := base) fr ⟨_, fd_want, F_want, g_want⟩
  have r_o_setD := o_setD (P := P) (w := w) (base := base) fr ⟨_, fd_as_set, F_as_set, g_as_set⟩
  have r_o_marksOf := o_marksOf (P := P) (w := w) (base := base) fr ⟨_, fd_marks_of, F_marks_of, g_marks_of⟩
  have r_o_marks := o_marks (P := P) (w := w) (base := base) fr ⟨_, fd_marks_by, F_marks_by, g_marks_by⟩ r_o_marksOf
  have r_o_after := o_after (P := P) (w := w) (base := base) fr ⟨_, fd_after_by, F_after_by, g_after_by⟩ r_o_allS r_o_nexts
  have r_o_part := o_part (P := P) (w := w) (base := base) fr ⟨_, fd_part_by, F_part_by, g_part_by⟩
  have r_o_numbered := o_numbered (P := P) (w := w) (base := base) fr ⟨_, fd_numbered_from, F_numbered_from, g_numbered_from⟩ r_o_part
  have r_o_isint := o_isint (P := P) (w := w) (base := base) fr ⟨_, fd_is_integer, F_is_integer, g_is_integer⟩
  have r_o_isnum := o_isnum (P := P) (w := w) (base := base) fr ⟨_, fd_is_number, F_is_number, g_is_number⟩ r_o_isint
  have r_o_ispair := o_ispair (P := P) (w := w) (base := base) fr ⟨_, fd_is_pair, F_is_pair, g_is_pair⟩
  have r_o_isform := o_isform (P := P) (w := w) (base := base) fr ⟨_, fd_is_by_form, F_is_by_form, g_is_by_form⟩ r_o_ispair r_o_isnum
  have r_o_fault := o_fault (P := P) (w := w) (base := base) fr ⟨_, fd_machine_fault, F_machine_fault, g_machine_fault⟩ r_o_isform
  have r_o_ismach := o_ismach (P := P) (w := w) (base := base) fr ⟨_, fd_is_machine, F_is_machine, g_is_machine⟩ r_o_fault
  have r_o_lbehind := o_lbehind (P := P) (w := w) (base := base) fr ⟨_, fd__law_behind, F__law_behind, g__law_behind⟩
  have r_o_lsettled := o_lsettled (P := P) (w := w) (base := base) fr ⟨_, fd__law_settled, F__law_settled, g__law_settled⟩ r_o_lbehind
  have r_o_pick := o_pick (P := P) (w := w) (base := base) fr ⟨_, fd__law_pick, F__law_pick, g__law_pick⟩
  have r_o_labels := o_labels (P := P) (w := w) (base := base) fr ⟨_, fd__law_labels, F__law_labels, g__law_labels⟩
  have r_o_lmerged := o_lmerged (P := P) (w := w) (base := base) fr ⟨_, fd__law_merged, F__law_merged, g__law_merged⟩
  have r_o_names := o_names (P := P) (w := w) (base := base) fr ⟨_, fd__law_names, F__law_names, g__law_names⟩ r_o_pick
  have r_o_drawn := o_drawn (P := P) (w := w) (base := base) fr ⟨_, fd__law_drawn, F__law_drawn, g__law_drawn⟩ r_o_pick
  have r_o_lled := o_lled (P := P) (w := w) (base := base) fr ⟨_, fd__law_led, F__law_led, g__law_led⟩ r_o_pick
  have r_o_from := o_from (P := P) (w := w) (base := base) fr ⟨_, fd__law_from, F__law_from, g__law_from⟩
  have r_o_lnumb := o_lnumb (P := P) (w := w) (base := base) fr ⟨_, fd__law_numbered, F__law_numbered, g__law_numbered⟩
  have r_o_coreAt := o_coreAt (P := P) (w := w) (base := base) fr ⟨_, fd__law_core_at, F__law_core_at, g__law_core_at⟩ r_o_labels r_o_lmerged r_o_from r_o_lnumb
  have r_o_same0 := o_same0 (P := P) (w := w) (base := base) fr ⟨_, fd__law_same, F__law_same, g__law_same⟩
  have r_o_same := o_same (P := P) (w := w) (base := base) fr ⟨_, fd__law_same, F__law_same, g__law_same⟩ r_o_same0
  have r_o_called := o_called (P := P) (w := w) (base := base) fr ⟨_, fd__law_called, F__law_called, g__law_called⟩
  have r_o_joined := o_joined (P := P) (w := w) (base := base) fr ⟨_, fd__law_joined, F__law_joined, g__law_joined⟩
  have r_o_lmay := o_lmay (P := P) (w := w) (base := base) fr ⟨_, fd__law_may, F__law_may, g__law_may⟩
  have r_o_behind := o_behind (P := P) (w := w) (base := base) fr ⟨_, fd_states_behind, F_states_behind, g_states_behind⟩ r_o_goal r_o_left
  have r_o_begun := o_begun (P := P) (w := w) (base := base) fr ⟨_, fd_states_begun, F_states_begun, g_states_begun⟩ r_o_after r_o_allS
  have r_o_fail := o_fail (P := P) (w := w) (base := base) fr ⟨_, fd_failing_from, F_failing_from, g_failing_from⟩ r_o_behind r_o_setD
  have r_o_least := o_least (P := P) (w := w) (base := base) fr ⟨_, fd_least_parts, F_least_parts, g_least_parts⟩ r_o_allS r_o_led
  have r_o_wantm1 := o_wantm1 (P := P) (w := w) (base := base) fr ⟨_, fd_want_machine, F_want_machine, g_want_machine⟩ r_o_want2 r_o_ismach
  have r_o_wantm2 := o_wantm2 (P := P) (w := w) (base := base) fr ⟨_, fd_want_machine, F_want_machine, g_want_machine⟩ r_o_want2 r_o_ismach
  have r_o_wantb := o_wantb (P := P) (w := w) (base := base) fr ⟨_, fd_want_both, F_want_both, g_want_both⟩ r_o_wantm2 r_o_want2 r_o_ismach
  have r_o_wantc := o_wantc (P := P) (w := w) (base := base) fr ⟨_, fd_want_case, F_want_case, g_want_case⟩ r_o_wantb r_o_want2 r_o_isnum
  have r_o_merged := o_merged (P := P) (w := w) (base := base) fr ⟨_, fd_merged_by, F_merged_by, g_merged_by⟩ r_o_marks r_o_setI
  have r_o_core := o_core (P := P) (w := w) (base := base) fr ⟨_, fd_core_by, F_core_by, g_core_by⟩ r_o_numbered
  have r_o_cores := o_cores (P := P) (w := w) (base := base) fr ⟨_, fd_cores_by, F_cores_by, g_cores_by⟩ r_o_merged r_o_setD r_o_least r_o_core
  have r_o_settled := o_settled (P := P) (w := w) (base := base) fr ⟨_, fd_settled_by, F_settled_by, g_settled_by⟩ r_o_marks r_o_merged r_o_least r_o_allS r_o_nexts
  have r_o_failBy := o_failBy (P := P) (w := w) (base := base) fr ⟨_, fd_failing_by, F_failing_by, g_failing_by⟩ r_o_fail r_o_begun
  have r_o_may := o_may (P := P) (w := w) (base := base) fr ⟨_, fd_may_by, F_may_by, g_may_by⟩ r_o_failBy
  have r_o_leastBy := o_leastBy (P := P) (w := w) (base := base) fr ⟨_, fd_least_by, F_least_by, g_least_by⟩ r_o_may
  have r_o_mayRep := o_mayRep (P := P) (w := w) (base := base) fr ⟨_, fd_may_replace, F_may_replace, g_may_replace⟩ r_o_wantc r_o_may
  have r_o_leastBeats := o_leastBeats (P := P) (w := w) (base := base) fr ⟨_, fd_least_beats, F_least_beats, g_least_beats⟩ r_o_wantc r_o_leastBy
  have r_o_alike := o_alike (P := P) (w := w) (base := base) fr ⟨_, fd_are_alike, F_are_alike, g_are_alike⟩ r_o_wantb r_o_may
  have r_o_lshares := o_lshares (P := P) (w := w) (base := base) fr ⟨_, fd__law_shares, F__law_shares, g__law_shares⟩ r_o_coreAt
  have r_o_near := o_near (P := P) (w := w) (base := base) fr ⟨_, fd__law_near, F__law_near, g__law_near⟩ r_o_pick r_o_names r_o_drawn r_o_lled r_o_called r_o_joined
  have r_o_coresOf := o_coresOf (P := P) (w := w) (base := base) fr ⟨_, fd_cores_of, F_cores_of, g_cores_of⟩ r_o_wantm1 r_o_cores
  have r_o_settledAfter := o_settledAfter (P := P) (w := w) (base := base) fr ⟨_, fd_settled_after, F_settled_after, g_settled_after⟩ r_o_wantm1 r_o_settled
  have r_o_shares := o_shares (P := P) (w := w) (base := base) fr ⟨_, fd_shares_cores, F_shares_cores, g_shares_cores⟩ r_o_wantb r_o_cores
  have r_o_fine := o_fine (P := P) (w := w) (base := base) fr ⟨_, fd__law_is_fine, F__law_is_fine, g__law_is_fine⟩ r_o_coreAt r_o_lsettled r_o_lshares r_o_same r_o_lmay r_o_lbehind r_o_settledAfter r_o_shares r_o_mayRep r_o_leastBeats
  have r_o_areFine := o_areFine (P := P) (w := w) (base := base) fr ⟨_, fd__law_are_fine, F__law_are_fine, g__law_are_fine⟩ r_o_fine r_o_same r_o_settledAfter r_o_coresOf r_o_alike
  exact ok_lawR fr F_law F__law_feed g__law_feed r_o_pick r_o_drawn r_o_near r_o_areFine r_o_settledAfter
end Wk
open PySem PySem.W PySem.Calls PyProof.Rows
theorem PySem.Challenge.cw_wokeas_k96_whole_settled_machines_replac_holds : PySem.Challenge.rw_wokeas_k96_whole_settled_machines_replac.Holds := by
  w_on; o_law
  refine HandSHeadRun.head_any (r := OpenLaw.row PySem.Challenge.rw_wokeas_k96_whole_settled_machines_replac) (q := view (OpenLaw.row PySem.Challenge.rw_wokeas_k96_whole_settled_machines_replac).prog [78]) (H := Wk.hk) (ob := Wk.ob) (M := 3000) (loose := Wk.loose) (d := HandSHeadRun.topDef (OpenLaw.row PySem.Challenge.rw_wokeas_k96_whole_settled_machines_replac).prog 78) (kwd := []) Wk.ob_eq
    (by kernel_rfl) (fun s => by kernel_rfl) Wk.run (by kernel_rfl) (by kernel_rfl) (by kernel_rfl) (by rfl) (by first | assumption | decide +kernel) (by decide +kernel) ⟨rfl, rfl, rfl, rfl, rfl, by decide +kernel⟩ ?hw ?hc
  case hw => w_witness2
  case hc =>
    refine L2.walk_ofE (l := PySem.Challenge.rw_wokeas_k96_whole_settled_machines_replac) (n := 63) (k := 12) (x := "_law_script") (CX := L2.CX0) rfl (by decide) (by kernel_rfl) ⟨rfl, by decide, by decide⟩ ?F (fun _ _ _ _ z => z)
    intro w mg fa h Y G hmg0
    obtain ⟨K, KX, c⟩ := Y
    have hmg : mg ("law" : PySem.Str) = some (.ref fa) := by
      have e : (HandSHeadRun.topDef (OpenLaw.row PySem.Challenge.rw_wokeas_k96_whole_settled_machines_replac).prog 78).name = ("law" : PySem.Str) := by kernel_rfl
      rw [← e]
      exact hmg0
    obtain ⟨fd, hb, hF⟩ := Wk.facts (P := (PySem.Challenge.rw_wokeas_k96_whole_settled_machines_replac).prog) (w := w) KX G hmg c
    exact ⟨K, fd, Wk.spLaw K, KX, hb, fun H a ns hl _ hS => ⟨a, ns, rfl, hS, hl, fun _ => rfl⟩, hF⟩

