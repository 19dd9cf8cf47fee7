import PyProof.Rows.All
import Wide.All
import OpenK.AllK
import Wide.FinOn
import Open.SpecLaws
import KE.OsGo
import HandS.ForSpec
import HandS.ForMost
import HandS.Conv
import HandS.Deep
import HandS.Wide
import HandS.SetFor
import HandS.Walk
import PySem.Challenge.RW_wishgiving_s01_answers
set_option Elab.async false
set_option linter.all false
set_option maxRecDepth 100000
set_option maxHeartbeats 4000000
/-! The mathematics of lists: permutations, the dearest, gifts, orders. -/
namespace Wg
open Rc57

/-! ### each number once -/
theorem perm_range : ∀ (n : Nat) (l : List Nat), l.length = n → (∀ x, x < n → x ∈ l) → l.Perm (List.range n)
  | 0, l, h, _ => by
    rw [List.length_eq_zero_iff] at h
    subst h
    exact List.Perm.refl _
  | n + 1, l, h, hx => by
    have hm : n ∈ l := hx n (by omega)
    have e : (l.erase n).Perm (List.range n) := perm_range n _ (by rw [List.length_erase_of_mem hm]; omega)
      (fun x lt => (List.mem_erase_of_ne (by omega)).mpr (hx x (by omega)))
    rw [List.range_succ]
    exact (List.perm_cons_erase hm).trans ((e.cons n).trans (List.perm_append_comm (l₁ := [n])))
theorem each_iff {n : Nat} {l : List Nat} : each n l = true ↔ l.Perm (List.range n) := by
  unfold each
  rw [Bool.and_eq_true, beq_iff_eq, List.all_eq_true]
  constructor
  · intro ⟨h1, h2⟩
    exact perm_range n l h1 fun x hx => List.contains_iff_mem.mp (h2 x (List.mem_range.mpr hx))
  · intro h
    refine ⟨by rw [h.length_eq, List.length_range], fun x hx => List.contains_iff_mem.mpr (h.mem_iff.mpr hx)⟩
theorem each_len {n : Nat} {l : List Nat} (h : each n l = true) : l.length = n := by
  rw [(each_iff.mp h).length_eq, List.length_range]
theorem each_mem {n : Nat} {l : List Nat} (h : each n l = true) {x : Nat} : x ∈ l ↔ x < n := by
  rw [(each_iff.mp h).mem_iff, List.mem_range]
theorem each_nodup {n : Nat} {l : List Nat} (h : each n l = true) : l.Nodup :=
  (each_iff.mp h).nodup_iff.mpr List.nodup_range
theorem each_range (n : Nat) : each n (List.range n) = true := each_iff.mpr (List.Perm.refl _)

/-- what sorted gives, against the numbers in order -/
theorem sorted_iff {n : Nat} {l : List Nat} {ms : List Int} (p : ms.Perm (l.map fun (x : Nat) => (x : Int))) (s : ms.Pairwise (· ≤ ·)) :
    (ms = (List.range n).map fun (x : Nat) => (x : Int)) ↔ each n l = true := by
  have inj : ∀ a b : Nat, (a : Int) = (b : Int) → a = b := fun a b h => by omega
  constructor
  · intro e
    subst e
    refine each_iff.mpr ?_
    have q := p.symm
    have q2 := q.map Int.toNat
    rw [List.map_map, List.map_map] at q2
    have e : (Int.toNat ∘ fun (x : Nat) => (x : Int)) = id := by
      funext x
      rfl
    rw [e, List.map_id, List.map_id] at q2
    exact q2
  · intro h
    have q : ms.Perm ((List.range n).map fun (x : Nat) => (x : Int)) := p.trans ((each_iff.mp h).map _)
    refine List.Perm.eq_of_pairwise (le := (· ≤ ·)) (fun a b _ _ h1 h2 => Int.le_antisymm h1 h2) s ?_ q
    rw [List.pairwise_map]
    refine List.Pairwise.imp ?_ (List.pairwise_lt_range (n := n))
    intro a b hab
    omega

/-! ### ranks, the dearest -/
theorem rank_eq (w : Wishes) (i x : Nat) : rank w i x = (orderOf w i).idxOf x := rfl
def argmin (f : Nat → Nat) (l : List Nat) (b : Nat) : Nat := l.foldl (fun best t => if f t < f best then t else best) b
theorem argmin_spec (f : Nat → Nat) : ∀ (l : List Nat) (b : Nat), (argmin f l b = b ∨ argmin f l b ∈ l) ∧ f (argmin f l b) ≤ f b ∧ ∀ t ∈ l, f (argmin f l b) ≤ f t
  | [], b => ⟨.inl rfl, Nat.le_refl _, fun t h => absurd h (by simp)⟩
  | t :: l, b => by
    have e : argmin f (t :: l) b = argmin f l (if f t < f b then t else b) := rfl
    rw [e]
    by_cases c : f t < f b
    · rw [if_pos c]
      obtain ⟨h1, h2, h3⟩ := argmin_spec f l t
      refine ⟨.inr ?_, by omega, fun u hu => ?_⟩
      · rcases h1 with h1 | h1
        · rw [h1]; exact List.mem_cons_self
        · exact List.mem_cons_of_mem _ h1
      · rcases List.mem_cons.mp hu with rfl | hu
        · exact h2
        · exact h3 u hu
    · rw [if_neg c]
      obtain ⟨h1, h2, h3⟩ := argmin_spec f l b
      refine ⟨?_, h2, fun u hu => ?_⟩
      · rcases h1 with h1 | h1
        · exact .inl h1
        · exact .inr (List.mem_cons_of_mem _ h1)
      · rcases List.mem_cons.mp hu with rfl | hu
        · omega
        · exact h3 u hu
/-- the dearest thing, as the program looks for it -/
def dearM (row things : List Nat) : Nat := argmin (fun t => row.idxOf t) things (things.headD 0)
theorem find_first : ∀ (row : List Nat) (p : Nat → Bool) (t : Nat), t ∈ row → p t = true →
    ∃ x, row.find? p = some x ∧ p x = true ∧ x ∈ row ∧ ∀ u, p u = true → row.idxOf x ≤ row.idxOf u
  | [], _, t, h, _ => absurd h (by simp)
  | y :: r, p, t, h, ht => by
    by_cases c : p y = true
    · refine ⟨y, by rw [List.find?_cons_of_pos c], c, List.mem_cons_self, fun u _ => by rw [List.idxOf_cons_self]; exact Nat.zero_le _⟩
    · have hy : t ≠ y := by
        rintro rfl
        exact c ht
      have hr : t ∈ r := (List.mem_cons.mp h).resolve_left hy
      obtain ⟨x, e, px, mx, le⟩ := find_first r p t hr ht
      refine ⟨x, by rw [List.find?_cons_of_neg c]; exact e, px, List.mem_cons_of_mem _ mx, fun u hu => ?_⟩
      have nx : ¬ y = x := by rintro rfl; exact c px
      have nu : ¬ y = u := by rintro rfl; exact c hu
      have l := le u hu
      rw [List.idxOf_cons, List.idxOf_cons]
      have b1 : (y == x) = false := by simpa using nx
      have b2 : (y == u) = false := by simpa using nu
      rw [b1, b2]
      simpa using l
theorem idxOf_inj {l : List Nat} {x y : Nat} (hx : x ∈ l) (hy : y ∈ l) (e : l.idxOf x = l.idxOf y) : x = y := by
  have h1 := List.idxOf_lt_length_of_mem hx
  have h2 := List.idxOf_lt_length_of_mem hy
  have e1 : l[l.idxOf x]'h1 = x := List.getElem_idxOf h1
  have e2 : l[l.idxOf y]'h2 = y := List.getElem_idxOf h2
  rw [← e1, ← e2]
  congr 1
theorem dearM_mem {row things : List Nat} (h : things ≠ []) : dearM row things ∈ things := by
  cases things with
  | nil => exact absurd rfl h
  | cons t r =>
    rcases (argmin_spec (fun u => row.idxOf u) (t :: r) t).1 with e | e
    · show argmin _ _ _ ∈ _
      rw [show (t :: r).headD 0 = t from rfl, e]
      exact List.mem_cons_self
    · exact e
theorem dearM_is {w : Wishes} {i : Nat} {things : List Nat} (h : things ≠ []) (hs : ∀ t ∈ things, t ∈ orderOf w i) :
    dearM (orderOf w i) things = Rc57.dearest w i things := by
  have hm := dearM_mem (row := orderOf w i) h
  have hle := (argmin_spec (fun t => (orderOf w i).idxOf t) things (things.headD 0)).2.2
  obtain ⟨x, e, px, mx, le⟩ := find_first (orderOf w i) (fun y => things.contains y) _ (hs _ hm) (List.contains_iff_mem.mpr hm)
  unfold Rc57.dearest
  rw [e]
  show dearM (orderOf w i) things = x
  have hx : x ∈ things := List.contains_iff_mem.mp px
  refine idxOf_inj (hs _ hm) mx (Nat.le_antisymm (hle x hx) (le _ (List.contains_iff_mem.mpr hm)))
theorem dearest_mem {w : Wishes} {i : Nat} {things : List Nat} (h : things ≠ []) (hs : ∀ t ∈ things, t ∈ orderOf w i) : Rc57.dearest w i things ∈ things := by
  rw [← dearM_is h hs]
  exact dearM_mem h

/-! ### gifts written one by one -/
def setAll (g : List Nat) (ps : List (Nat × Nat)) : List Nat := ps.foldl (fun g p => g.set p.1 p.2) g
theorem setAll_len : ∀ (ps : List (Nat × Nat)) (g : List Nat), (setAll g ps).length = g.length
  | [], g => rfl
  | p :: ps, g => by
    show (setAll (g.set p.1 p.2) ps).length = g.length
    rw [setAll_len ps, List.length_set]
theorem setAll_append (g : List Nat) (ps qs : List (Nat × Nat)) : setAll g (ps ++ qs) = setAll (setAll g ps) qs := List.foldl_append ..
/-- one value for a key -/
def Fnl (ps : List (Nat × Nat)) : Prop := ∀ p ∈ ps, ∀ q ∈ ps, p.1 = q.1 → p.2 = q.2
theorem Fnl.tail {p : Nat × Nat} {ps : List (Nat × Nat)} (h : Fnl (p :: ps)) : Fnl ps := fun a ha b hb => h a (List.mem_cons_of_mem _ ha) b (List.mem_cons_of_mem _ hb)
theorem lookup_mem : ∀ {ps : List (Nat × Nat)} {i x : Nat}, ps.lookup i = some x → (i, x) ∈ ps
  | [], _, _, h => by simp at h
  | (j, y) :: r, i, x, h => by
    rw [List.lookup_cons] at h
    by_cases c : i = j
    · subst c
      rw [beq_self_eq_true] at h
      have e : y = x := Option.some.inj h
      subst e
      exact List.mem_cons_self
    · have b : (i == j) = false := by simpa using c
      rw [b] at h
      exact List.mem_cons_of_mem _ (lookup_mem h)
theorem setAll_get : ∀ (ps : List (Nat × Nat)) (g : List Nat) (i : Nat), Fnl ps → i < g.length → (setAll g ps)[i]? = some ((ps.lookup i).getD (g.getD i 0))
  | [], g, i, _, hi => by
    show g[i]? = _
    rw [List.getElem?_eq_getElem hi]
    show some g[i] = some (g.getD i 0)
    rw [List.getD_eq_getElem?_getD, List.getElem?_eq_getElem hi]
    rfl
  | (j, y) :: ps, g, i, hf, hi => by
    show (setAll (g.set j y) ps)[i]? = _
    rw [setAll_get ps (g.set j y) i hf.tail (by rw [List.length_set]; exact hi)]
    congr 1
    rw [List.lookup_cons]
    by_cases c : i = j
    · subst c
      rw [beq_self_eq_true]
      show _ = y
      cases e : ps.lookup i with
      | none =>
        show (g.set i y).getD i 0 = y
        rw [List.getD_eq_getElem?_getD, List.getElem?_set_self hi]
        rfl
      | some x =>
        show x = y
        exact hf (i, x) (List.mem_cons_of_mem _ (lookup_mem e)) (i, y) List.mem_cons_self rfl
    · have b : (i == j) = false := by simpa using c
      rw [b]
      show _ = (ps.lookup i).getD (g.getD i 0)
      rw [List.getD_eq_getElem?_getD (l := g.set j y), List.getElem?_set_ne (fun z => c z.symm), ← List.getD_eq_getElem?_getD]
/-- the gift, where every person has a pair, or where nothing stood before -/
theorem setAll_gift {n : Nat} {ps : List (Nat × Nat)} {g : List Nat} (hf : Fnl ps) (hn : g.length = n) (h : ∀ i, i < n → ps.lookup i = none → g.getD i 0 = 0) : setAll g ps = giftOf n ps := by
  apply List.ext_getElem?
  intro i
  unfold giftOf
  by_cases c : i < n
  · rw [setAll_get ps g i hf (by omega), List.getElem?_map, List.getElem?_range c]
    show some ((ps.lookup i).getD (g.getD i 0)) = some ((ps.lookup i).getD 0)
    congr 1
    cases e : ps.lookup i with
    | none => exact h i c e
    | some x => rfl
  · rw [List.getElem?_eq_none (by rw [setAll_len]; omega), List.getElem?_eq_none (by rw [List.length_map, List.length_range]; omega)]

/-! ### in turn -/
/-- the program's loop: what's left, the gift -/
def turnM (w : Wishes) (s : List Nat × List Nat) (i : Nat) : List Nat × List Nat :=
  (s.1.erase (dearM (orderOf w i) s.1), s.2.set i (dearM (orderOf w i) s.1))
def inTurnM (w : Wishes) (order : List Nat) : List Nat := (order.foldl (turnM w) (List.range w.length, List.replicate order.length 0)).2
theorem turn_fold (w : Wishes) (n : Nat) (hw : ∀ i, i < n → each n (orderOf w i) = true) : ∀ (o left g : List Nat), left.Nodup → (∀ x ∈ left, x < n) → (∀ i ∈ o, i < n) → o.length ≤ left.length →
    (o.foldl (turnM w) (left, g)).2 = setAll g (taken w o left)
  | [], _, _, _, _, _, _ => rfl
  | i :: o, left, g, hd, hl, ho, hc => by
    have hi : i < n := ho i List.mem_cons_self
    have hne : left ≠ [] := by
      rintro rfl
      simp at hc
    have e := dearM_is (w := w) (i := i) hne fun t ht => (each_mem (hw i hi)).mpr (hl t ht)
    have hm := dearM_mem (row := orderOf w i) hne
    show (o.foldl (turnM w) (left.erase (dearM (orderOf w i) left), g.set i (dearM (orderOf w i) left))).2 = setAll (g.set i (Rc57.dearest w i left)) (taken w o (left.filter fun y => y != Rc57.dearest w i left))
    have er : left.erase (dearM (orderOf w i) left) = left.filter fun y => y != Rc57.dearest w i left := by
      rw [hd.erase_eq_filter, e]
    have hlen : (left.erase (dearM (orderOf w i) left)).length = left.length - 1 := List.length_erase_of_mem hm
    rw [← er, turn_fold w n hw o _ _ (hd.erase _) (fun x hx => hl x (List.mem_of_mem_erase hx)) (fun j hj => ho j (List.mem_cons_of_mem _ hj)) (by
      rw [hlen]
      have : (i :: o).length = o.length + 1 := rfl
      omega), e]
theorem taken_keys (w : Wishes) : ∀ (o left : List Nat), (taken w o left).map Prod.fst = o
  | [], _ => rfl
  | i :: o, left => by
    show i :: (taken w o _).map Prod.fst = i :: o
    rw [taken_keys w o]
theorem fnl_of_nodup : ∀ {ps : List (Nat × Nat)}, (ps.map Prod.fst).Nodup → Fnl ps
  | [], _ => fun p hp => absurd hp (by simp)
  | a :: ps, h => by
    rw [List.map_cons, List.nodup_cons] at h
    have ih := fnl_of_nodup h.2
    have no : ∀ q ∈ ps, q.1 ≠ a.1 := fun q hq z => h.1 (by rw [← z]; exact List.mem_map_of_mem hq)
    intro p hp q hq e
    rcases List.mem_cons.mp hp with h1 | h1
    · rcases List.mem_cons.mp hq with h2 | h2
      · rw [h1, h2]
      · exact absurd (e.symm.trans (by rw [h1])) (no q h2)
    · rcases List.mem_cons.mp hq with h2 | h2
      · exact absurd (e.trans (by rw [h2])) (no p h1)
      · exact ih p h1 q h2 e
theorem getD_replicate (n i : Nat) : (List.replicate n 0).getD i 0 = 0 := by
  rw [List.getD_eq_getElem?_getD, List.getElem?_replicate]
  split <;> rfl
theorem inTurn_is {w : Wishes} {n : Nat} {o : List Nat} (hn : w.length = n) (hw : ∀ i, i < n → each n (orderOf w i) = true) (ho : each n o = true) : inTurnM w o = turns n w o := by
  unfold inTurnM turns
  have hl := each_len ho
  rw [turn_fold w n hw o _ _ List.nodup_range (fun x hx => by rw [← hn]; exact List.mem_range.mp hx) (fun i hi => (each_mem ho).mp hi) (by rw [List.length_range]; omega), hn]
  exact setAll_gift (fnl_of_nodup (by rw [taken_keys]; exact each_nodup ho)) (by rw [List.length_replicate]; exact hl) fun i _ _ => getD_replicate _ _
theorem inTurn_len (w : Wishes) (o : List Nat) : (inTurnM w o).length = o.length := by
  have h : ∀ (l : List Nat) (s : List Nat × List Nat), (l.foldl (turnM w) s).2.length = s.2.length := by
    intro l
    induction l with
    | nil => intro s; rfl
    | cons i l ih =>
      intro s
      show (l.foldl (turnM w) (turnM w s i)).2.length = _
      rw [ih]
      exact List.length_set ..
  unfold inTurnM
  rw [h, List.length_replicate]
end Wg

/-! The mathematics of rings. -/
namespace Wg
open Rc57

/-- wishes that are whole -/
structure Gd (n : Nat) (w : Wishes) : Prop where
  len : w.length = n
  all : ∀ row ∈ w, each n row = true
theorem Gd.row {n : Nat} {w : Wishes} (g : Gd n w) {i : Nat} (h : i < n) : each n (orderOf w i) = true := by
  unfold orderOf
  rw [List.getD_eq_getElem?_getD, List.getElem?_eq_getElem (by rw [g.len]; exact h)]
  exact g.all _ (List.getElem_mem _)
theorem Gd.mem {n : Nat} {w : Wishes} (g : Gd n w) {i x : Nat} (h : i < n) : x ∈ orderOf w i ↔ x < n := each_mem (g.row h)

theorem getD_mem {l : List Nat} {i : Nat} (h : i < l.length) : l.getD i 0 ∈ l := by
  rw [List.getD_eq_getElem?_getD, List.getElem?_eq_getElem h]
  exact List.getElem_mem _
theorem getD_lt {n : Nat} {l : List Nat} (h : each n l = true) {i : Nat} (hi : i < n) : l.getD i 0 < n :=
  (each_mem h).mp (getD_mem (by rw [each_len h]; exact hi))
theorem idxOf_getD {l : List Nat} (hd : l.Nodup) {i : Nat} (h : i < l.length) : l.idxOf (l.getD i 0) = i := by
  rw [List.getD_eq_getElem?_getD, List.getElem?_eq_getElem h]
  exact hd.idxOf_getElem i h
theorem getD_idxOf {l : List Nat} {x : Nat} (h : x ∈ l) : l.getD (l.idxOf x) 0 = x := by
  have h1 := List.idxOf_lt_length_of_mem h
  rw [List.getD_eq_getElem?_getD, List.getElem?_eq_getElem h1]
  exact List.getElem_idxOf h1

/-! ### whom one looks at -/
def looksM (w : Wishes) (own l : List Nat) (i : Nat) : Nat := own.idxOf (dearM (orderOf w i) (l.map fun j => own.getD j 0))
theorem looksM_is {n : Nat} {w : Wishes} (g : Gd n w) {own l : List Nat} (ho : each n own = true) (hl : ∀ j ∈ l, j < n) (hne : l ≠ []) {i : Nat} (hi : i < n) : looksM w own l i = looks w own l i := by
  unfold looksM looks holder
  rw [dearM_is (w := w) (i := i) (by simpa using hne) (fun t ht => by
    obtain ⟨j, hj, rfl⟩ := List.mem_map.mp ht
    exact (g.mem hi).mpr (getD_lt ho (hl j hj)))]
  rfl
theorem looks_mem {n : Nat} {w : Wishes} (g : Gd n w) {own l : List Nat} (ho : each n own = true) (hl : ∀ j ∈ l, j < n) (hne : l ≠ []) {i : Nat} (hi : i < n) : looks w own l i ∈ l := by
  have h := dearest_mem (w := w) (i := i) (things := l.map fun j => own.getD j 0) (by simpa using hne) (fun t ht => by
    obtain ⟨j, hj, rfl⟩ := List.mem_map.mp ht
    exact (g.mem hi).mpr (getD_lt ho (hl j hj)))
  obtain ⟨j, hj, e⟩ := List.mem_map.mp h
  have e2 : looks w own l i = own.idxOf (Rc57.dearest w i (l.map fun j => own.getD j 0)) := rfl
  rw [e2, ← e, idxOf_getD (each_nodup ho) (by rw [each_len ho]; exact hl j hj)]
  exact hj

/-! ### going round -/
def iter (f : Nat → Nat) : Nat → Nat → Nat
  | 0, i => i
  | k + 1, i => iter f k (f i)
theorem iter_add (f : Nat → Nat) : ∀ (a b i : Nat), iter f (a + b) i = iter f b (iter f a i)
  | 0, b, i => by rw [Nat.zero_add]; rfl
  | a + 1, b, i => by
    rw [show a + 1 + b = (a + b) + 1 by omega]
    show iter f (a + b) (f i) = iter f b (iter f a (f i))
    exact iter_add f a b (f i)
theorem iter_mem {f : Nat → Nat} {l : List Nat} (hf : ∀ i ∈ l, f i ∈ l) : ∀ (k i : Nat), i ∈ l → iter f k i ∈ l
  | 0, _, h => h
  | k + 1, i, h => iter_mem hf k (f i) (hf i h)
/-- of more goes than there are people two come to the same -/
theorem pigeon {f : Nat → Nat} {l : List Nat} (hf : ∀ i ∈ l, f i ∈ l) {a : Nat} (ha : a ∈ l) : ∃ i j, i < j ∧ j ≤ l.length ∧ iter f i a = iter f j a := by
  false_or_by_contra
  rename_i no
  have hd : ((List.range (l.length + 1)).map fun k => iter f k a).Nodup := by
    rw [List.nodup_iff_pairwise_ne, List.pairwise_map]
    have hp := List.pairwise_lt_range (n := l.length + 1)
    refine List.Pairwise.imp_of_mem ?_ hp
    intro i j hi hj lt e
    exact no ⟨i, j, lt, by have := List.mem_range.mp hj; omega, e⟩
  have hs : ((List.range (l.length + 1)).map fun k => iter f k a) ⊆ l := by
    intro x hx
    obtain ⟨k, _, rfl⟩ := List.mem_map.mp hx
    exact iter_mem hf k a ha
  have := hd.length_le_of_subset hs
  rw [List.length_map, List.length_range] at this
  omega
theorem comes_back {f : Nat → Nat} {l : List Nat} (hf : ∀ i ∈ l, f i ∈ l) {a : Nat} (ha : a ∈ l) : ∃ p, 0 < p ∧ p ≤ l.length ∧ iter f p (iter f l.length a) = iter f l.length a := by
  obtain ⟨i, j, lt, le, e⟩ := pigeon hf ha
  refine ⟨j - i, by omega, by omega, ?_⟩
  -- f^len a = f^(len - i) (f^i a) = f^(len - i) (f^j a)
  have h1 : iter f l.length a = iter f (l.length - i) (iter f i a) := by
    rw [← iter_add]
    congr 1
    omega
  have h2 : iter f (l.length - i) (iter f j a) = iter f (j - i) (iter f l.length a) := by
    rw [← iter_add, ← iter_add]
    congr 1
    omega
  rw [← h2, ← e, ← h1]
/-- the ring's loop -/
inductive RingRun (f : Nat → Nat) (s : Nat) : Nat → List Nat → Prop where
  | stop : RingRun f s s []
  | go {q : Nat} {r : List Nat} : q ≠ s → RingRun f s (f q) r → RingRun f s q (q :: r)
theorem ringRun_of (f : Nat → Nat) (s : Nat) : ∀ (p q : Nat), iter f p q = s → ∃ r, RingRun f s q r ∧ r.length ≤ p
  | 0, q, h => by
    have e : q = s := h
    subst e
    exact ⟨[], .stop, Nat.le_refl _⟩
  | p + 1, q, h => by
    by_cases c : q = s
    · subst c
      exact ⟨[], .stop, Nat.zero_le _⟩
    · obtain ⟨r, hr, le⟩ := ringRun_of f s p (f q) h
      exact ⟨q :: r, .go c hr, by rw [List.length_cons]; omega⟩
/-- the specification's ring is it -/
theorem ring_is (w : Wishes) (own l : List Nat) (s : Nat) : ∀ (r : List Nat) (i k : Nat), RingRun (looks w own l) s (looks w own l i) r → r.length < k → Rc57.ring w own l k s i = i :: r
  | r, i, 0, _, h => absurd h (by omega)
  | [], i, k + 1, h, _ => by
    have e : looks w own l i = s := by
      generalize hq : looks w own l i = q at h
      cases h
      rfl
    show i :: (if looks w own l i = s then [] else _) = _
    rw [if_pos e]
  | q :: r, i, k + 1, h, hk => by
    generalize hq : looks w own l i = p at h
    cases h with
    | go c h2 =>
      show i :: (if looks w own l i = s then [] else _) = _
      rw [if_neg (by rw [hq]; exact c), hq]
      rw [ring_is w own l s r q k h2 (by rw [List.length_cons] at hk; omega)]
theorem ringRun_mem {f : Nat → Nat} {l : List Nat} {s : Nat} (hf : ∀ i ∈ l, f i ∈ l) : ∀ {q : Nat} {r : List Nat}, RingRun f s q r → q ∈ l → ∀ i ∈ r, i ∈ l
  | _, _, .stop, _, i, h => absurd h (by simp)
  | _, _, .go _ h2, hq, i, h => by
    rcases List.mem_cons.mp h with rfl | h
    · exact hq
    · exact ringRun_mem hf h2 (hf _ hq) i h
theorem follow_is (w : Wishes) (own l : List Nat) : ∀ (k i : Nat), Rc57.follow w own l k i = iter (looks w own l) k i
  | 0, _ => rfl
  | k + 1, i => follow_is w own l k _
theorem fold_iter (f : Nat → Nat) : ∀ (l : List Nat) (i : Nat), l.foldl (fun p _ => f p) i = iter f l.length i
  | [], _ => rfl
  | _ :: l, i => fold_iter f l (f i)

/-! ### exchanged -/
/-- one ring of those there: its first, the rest -/
structure RingAt (w : Wishes) (own l : List Nat) (s : Nat) (r : List Nat) : Prop where
  head : s = iter (looks w own l) l.length (l.headD 0)
  run : RingRun (looks w own l) s (looks w own l s) r
  short : r.length ≤ l.length
def without (l r : List Nat) : List Nat := l.filter fun i => !r.contains i
def pairsOf (w : Wishes) (own l r : List Nat) : List (Nat × Nat) := r.map fun i => (i, own.getD (looks w own l i) 0)
inductive ExRun (n : Nat) (w : Wishes) (own : List Nat) : Nat → List Nat → List Nat → List Nat → Prop where
  | stop {k : Nat} {g : List Nat} : ExRun n w own k [] g g
  | go {k : Nat} {l g g' : List Nat} {s : Nat} {r : List Nat} : l ≠ [] → (∀ j ∈ l, j < n) → RingAt w own l s r → (∀ i ∈ s :: r, i ∈ l) → ExRun n w own k (without l (s :: r)) (setAll g (pairsOf w own l (s :: r))) g' → ExRun n w own (k + 1) l g g'
theorem ringAt_of {n : Nat} {w : Wishes} (g : Gd n w) {own l : List Nat} (ho : each n own = true) (hl : ∀ j ∈ l, j < n) (hne : l ≠ []) :
    ∃ s r, RingAt w own l s r ∧ (∀ i ∈ s :: r, i ∈ l) ∧ ∀ a l', l = a :: l' → Rc57.ring w own l l.length (Rc57.follow w own l l.length a) (Rc57.follow w own l l.length a) = s :: r := by
  have hf : ∀ i ∈ l, looks w own l i ∈ l := fun i hi => looks_mem g ho hl hne (hl i hi)
  have ha : l.headD 0 ∈ l := by
    cases l with
    | nil => exact absurd rfl hne
    | cons a l => exact List.mem_cons_self
  obtain ⟨p, h0, hp, e⟩ := comes_back hf ha
  have hs := iter_mem hf l.length _ ha
  obtain ⟨q, rfl⟩ : ∃ q, p = q + 1 := ⟨p - 1, by omega⟩
  obtain ⟨r, hr, le⟩ := ringRun_of (looks w own l) (iter (looks w own l) l.length (l.headD 0)) q (looks w own l (iter (looks w own l) l.length (l.headD 0))) e
  refine ⟨_, r, ⟨rfl, hr, by omega⟩, fun i hi => ?_, fun a l' el => ?_⟩
  · rcases List.mem_cons.mp hi with rfl | hi
    · exact hs
    · exact ringRun_mem hf hr (hf _ hs) i hi
  · have ea : l.headD 0 = a := by
      rw [el]
      rfl
    rw [follow_is, ← ea]
    exact ring_is w own l _ r _ l.length hr (by omega)
theorem lookup_map_some {f : Nat → Nat} : ∀ {r : List Nat} {i : Nat}, i ∈ r → (r.map fun i => (i, f i)).lookup i = some (f i)
  | [], _, h => absurd h (by simp)
  | j :: r, i, h => by
    rw [List.map_cons, List.lookup_cons]
    by_cases c : i = j
    · subst c
      rw [beq_self_eq_true]
    · have b : (i == j) = false := by simpa using c
      rw [b]
      exact lookup_map_some ((List.mem_cons.mp h).resolve_left c)
theorem lookup_append_none : ∀ {a b : List (Nat × Nat)} {i : Nat}, (a ++ b).lookup i = none → a.lookup i = none ∧ b.lookup i = none
  | [], b, i, h => ⟨rfl, h⟩
  | (j, y) :: a, b, i, h => by
    rw [List.cons_append, List.lookup_cons] at h
    by_cases c : i = j
    · subst c
      rw [beq_self_eq_true] at h
      exact absurd h (by simp)
    · have e : (i == j) = false := by simpa using c
      rw [e] at h
      rw [List.lookup_cons, e]
      exact lookup_append_none h
theorem mem_without {l r : List Nat} {i : Nat} : i ∈ without l r ↔ i ∈ l ∧ i ∉ r := by
  unfold without
  rw [List.mem_filter]
  simp
/-- the program's loop, against the specification's rings -/
theorem exRun_of {n : Nat} {w : Wishes} (g : Gd n w) {own : List Nat} (ho : each n own = true) : ∀ (k : Nat) (l gv : List Nat), (∀ j ∈ l, j < n) → l.length ≤ k →
    ExRun n w own k l gv (setAll gv (rings w own k l)) ∧ Fnl (rings w own k l) ∧ (∀ p ∈ rings w own k l, p.1 ∈ l) ∧ ∀ i ∈ l, (rings w own k l).lookup i ≠ none
  | 0, l, gv, _, h => by
    have e : l = [] := List.length_eq_zero_iff.mp (by omega)
    subst e
    exact ⟨.stop, fun p hp => absurd hp (by simp [rings]), fun p hp => absurd hp (by simp [rings]), fun i hi => absurd hi (by simp)⟩
  | k + 1, [], gv, _, _ => ⟨.stop, fun p hp => absurd hp (by simp [rings]), fun p hp => absurd hp (by simp [rings]), fun i hi => absurd hi (by simp)⟩
  | k + 1, a :: l', gv, hl, hk => by
    obtain ⟨s, r, ra, rm, re⟩ := ringAt_of g ho hl (List.cons_ne_nil a l')
    have er := re a l' rfl
    have e : rings w own (k + 1) (a :: l') = pairsOf w own (a :: l') (s :: r) ++ rings w own k (without (a :: l') (s :: r)) := by
      show ((Rc57.ring w own (a :: l') (a :: l').length (Rc57.follow w own (a :: l') (a :: l').length a) (Rc57.follow w own (a :: l') (a :: l').length a)).map (fun i => (i, own.getD (looks w own (a :: l') i) 0)) ++ rings w own k ((a :: l').filter fun i => !(Rc57.ring w own (a :: l') (a :: l').length (Rc57.follow w own (a :: l') (a :: l').length a) (Rc57.follow w own (a :: l') (a :: l').length a)).contains i)) = _
      rw [er]
      rfl
    have hlen : (without (a :: l') (s :: r)).length ≤ k := by
      have hs : s ∈ a :: l' := rm s List.mem_cons_self
      have : (without (a :: l') (s :: r)).length < (a :: l').length := by
        unfold without
        refine List.length_filter_lt_length_iff_exists.mpr ⟨s, hs, by simp⟩
      omega
    obtain ⟨h1, h2, h3, h4⟩ := exRun_of g ho k (without (a :: l') (s :: r)) (setAll gv (pairsOf w own (a :: l') (s :: r))) (fun j hj => hl j (mem_without.mp hj).1) hlen
    rw [e, setAll_append]
    have key : ∀ p ∈ pairsOf w own (a :: l') (s :: r), p.1 ∈ s :: r ∧ p.2 = own.getD (looks w own (a :: l') p.1) 0 := fun p hp => by
      obtain ⟨i, hi, rfl⟩ := List.mem_map.mp hp
      exact ⟨hi, rfl⟩
    refine ⟨.go (List.cons_ne_nil a l') hl ra rm h1, ?_, ?_, ?_⟩
    · intro p hp q hq eq
      rcases List.mem_append.mp hp with hp | hp <;> rcases List.mem_append.mp hq with hq | hq
      · rw [(key p hp).2, (key q hq).2, eq]
      · exact absurd (eq ▸ (key p hp).1) (mem_without.mp (h3 q hq)).2
      · exact absurd (eq.symm ▸ (key q hq).1) (mem_without.mp (h3 p hp)).2
      · exact h2 p hp q hq eq
    · intro p hp
      rcases List.mem_append.mp hp with hp | hp
      · exact rm _ (key p hp).1
      · exact (mem_without.mp (h3 p hp)).1
    · intro i hi z
      obtain ⟨z1, z2⟩ := lookup_append_none z
      by_cases c : i ∈ s :: r
      · rw [show pairsOf w own (a :: l') (s :: r) = (s :: r).map fun i => (i, (fun i => own.getD (looks w own (a :: l') i) 0) i) from rfl, lookup_map_some c] at z1
        cases z1
      · exact h4 i (mem_without.mpr ⟨hi, c⟩) z2
theorem exchanged_is {n : Nat} {w : Wishes} (g : Gd n w) {own : List Nat} (ho : each n own = true) : ExRun n w own n (List.range n) own (traded n w own) := by
  obtain ⟨h1, h2, _, h4⟩ := exRun_of g ho n (List.range n) own (fun j hj => List.mem_range.mp hj) (by rw [List.length_range]; exact Nat.le_refl _)
  have e : setAll own (rings w own n (List.range n)) = traded n w own := setAll_gift h2 (each_len ho) fun i hi z => absurd z (h4 i (List.mem_range.mpr hi))
  rw [e] at h1
  exact h1
theorem traded_len (n : Nat) (w : Wishes) (own : List Nat) : (traded n w own).length = n := by
  show ((List.range n).map _).length = n
  rw [List.length_map, List.length_range]
theorem turns_len (n : Nat) (w : Wishes) (o : List Nat) : (turns n w o).length = n := by
  show ((List.range n).map _).length = n
  rw [List.length_map, List.length_range]
end Wg

/-! The mathematics of orders, of better gifts, of groups. -/
namespace Wg
open Rc57

/-! ### orders -/
def longerM (many : Nat) (row : List Nat) : List (List Nat) := ((List.range many).filter fun o => !row.contains o).map fun o => row ++ [o]
def orderStep (many : Nat) (found : List (List Nat)) : List (List Nat) := found.flatMap (longerM many)
def ordersUpTo (many : Nat) : Nat → List (List Nat)
  | 0 => [[]]
  | k + 1 => orderStep many (ordersUpTo many k)
def ordersM (many : Nat) : List (List Nat) := ordersUpTo many many
theorem orders_is : ∀ n, n ≤ 5 → ordersM n = orders n (List.range n) := by
  have h : ∀ n : Fin 6, ordersM n.1 = orders n.1 (List.range n.1) := by decide +kernel
  exact fun n hn => h ⟨n, by omega⟩
theorem orders_each : ∀ n, n ≤ 5 → ∀ o ∈ ordersM n, each n o = true := by
  have h : ∀ n : Fin 6, ((ordersM n.1).all fun o => each n.1 o) = true := by decide +kernel
  exact fun n hn o ho => List.all_eq_true.mp (h ⟨n, by omega⟩) o ho
theorem longerM_len (many : Nat) (row : List Nat) : (longerM many row).length ≤ many := by
  unfold longerM
  rw [List.length_map]
  refine Nat.le_trans (List.length_filter_le ..) ?_
  rw [List.length_range]
  exact Nat.le_refl _
theorem flatMap_len (many : Nat) : ∀ l : List (List Nat), (l.flatMap (longerM many)).length ≤ l.length * many
  | [] => Nat.zero_le _
  | r :: l => by
    rw [List.flatMap_cons, List.length_append, List.length_cons, Nat.succ_mul]
    have h1 := longerM_len many r
    have h2 := flatMap_len many l
    omega
theorem ordersUpTo_len (many : Nat) : ∀ k, (ordersUpTo many k).length ≤ many ^ k
  | 0 => Nat.le_refl _
  | k + 1 => by
    refine Nat.le_trans (flatMap_len many _) ?_
    rw [Nat.pow_succ]
    exact Nat.mul_le_mul_right many (ordersUpTo_len many k)

/-! ### better -/
def suitsM (w : Wishes) (g o : List Nat) : Bool → List Nat → Bool
  | d, [] => d
  | d, p :: ps =>
    if (orderOf w p).idxOf (o.getD p 0) < (orderOf w p).idxOf (g.getD p 0) then false
    else suitsM w g o (d || decide ((orderOf w p).idxOf (g.getD p 0) < (orderOf w p).idxOf (o.getD p 0))) ps
theorem suitsM_is (w : Wishes) (g o : List Nat) : ∀ (d : Bool) (ps : List Nat), suitsM w g o d ps =
    ((ps.all fun i => decide (rank w i (g.getD i 0) ≤ rank w i (o.getD i 0))) && (d || ps.any fun i => decide (rank w i (g.getD i 0) < rank w i (o.getD i 0))))
  | d, [] => by
    show d = (true && (d || false))
    cases d <;> rfl
  | d, p :: ps => by
    rw [List.all_cons, List.any_cons]
    unfold suitsM
    rw [← rank_eq, ← rank_eq]
    by_cases c : rank w p (o.getD p 0) < rank w p (g.getD p 0)
    · rw [if_pos c, decide_eq_false (show ¬ rank w p (g.getD p 0) ≤ rank w p (o.getD p 0) by omega)]
      rfl
    · rw [if_neg c, decide_eq_true (show rank w p (g.getD p 0) ≤ rank w p (o.getD p 0) by omega), suitsM_is w g o _ ps, Bool.true_and, Bool.or_assoc]
def goodM (w : Wishes) (given : List Nat) : Bool := !(ordersM w.length).any fun other => suitsM w other given false (List.range w.length)
theorem good_is {n : Nat} (hn : n ≤ 5) {w : Wishes} (hl : w.length = n) (given : List Nat) : goodM w given = !((orders n (List.range n)).any (isBetter n w given)) := by
  unfold goodM
  rw [hl, orders_is n hn]
  congr 2
  funext h
  rw [suitsM_is]
  rfl

/-! ### the first order -/
def firstM (w : Wishes) (given : List Nat) : List Nat := ((ordersM w.length).find? fun o => inTurnM w o == given).getD []
theorem find_congr {α : Type} {p q : α → Bool} : ∀ {l : List α}, (∀ x ∈ l, p x = q x) → l.find? p = l.find? q
  | [], _ => rfl
  | x :: l, h => by
    rw [List.find?_cons, List.find?_cons, h x List.mem_cons_self, find_congr fun y hy => h y (List.mem_cons_of_mem _ hy)]
theorem first_is {n : Nat} (hn : n ≤ 5) {w : Wishes} (g : Gd n w) (given : List Nat) : firstM w given = ((orders n (List.range n)).find? fun o => turns n w o == given).getD [] := by
  unfold firstM
  rw [g.len]
  congr 1
  rw [← orders_is n hn]
  refine find_congr fun o ho => ?_
  rw [inTurn_is g.len (fun i hi => g.row hi) (orders_each n hn o ho)]

/-! ### groups -/
def peopleM (k many : Nat) : List Nat := (List.range many).filter fun i => k.testBit i
def handedM (people own order : List Nat) (many : Nat) : List Nat := setAll (List.replicate many 0) (people.zip (order.map fun j => own.getD (people.getD j 0) 0))
def doesM (w : Wishes) (own given people : List Nat) : Bool := (ordersM people.length).any fun o => suitsM w (handedM people own o w.length) given false people
def leastM (w : Wishes) (own given : List Nat) : Nat := ((List.range' 1 (2 ^ w.length - 1)).find? fun k => doesM w own given (peopleM k w.length)).getD 0

theorem erase_map {f : Nat → Nat} : ∀ {l : List Nat} {x : Nat}, x ∈ l → (∀ a ∈ l, ∀ b ∈ l, f a = f b → a = b) → (l.map f).erase (f x) = (l.erase x).map f
  | [], x, h, _ => absurd h (by simp)
  | y :: l, x, h, hi => by
    by_cases c : y = x
    · subst c
      rw [List.map_cons, List.erase_cons_head, List.erase_cons_head]
    · have nf : ¬ f y = f x := fun z => c (hi y List.mem_cons_self x h z)
      rw [List.map_cons, List.erase_cons_tail (by simpa using nf), List.erase_cons_tail (by simpa using c), List.map_cons,
        erase_map ((List.mem_cons.mp h).resolve_left fun z => c z.symm) fun a ha b hb => hi a (List.mem_cons_of_mem _ ha) b (List.mem_cons_of_mem _ hb)]
theorem flatMap_map' {α β γ : Type} (f : α → β) (g : β → List γ) : ∀ l : List α, (l.map f).flatMap g = l.flatMap fun x => g (f x)
  | [] => rfl
  | x :: l => by rw [List.map_cons, List.flatMap_cons, List.flatMap_cons, flatMap_map' f g l]
theorem map_flatMap' {α β γ : Type} (f : β → γ) (g : α → List β) : ∀ l : List α, (l.flatMap g).map f = l.flatMap fun x => (g x).map f
  | [] => rfl
  | x :: l => by rw [List.flatMap_cons, List.flatMap_cons, List.map_append, map_flatMap' f g l]
theorem flatMap_congr' {α γ : Type} {g h : α → List γ} : ∀ {l : List α}, (∀ x ∈ l, g x = h x) → l.flatMap g = l.flatMap h
  | [], _ => rfl
  | x :: l, e => by rw [List.flatMap_cons, List.flatMap_cons, e x List.mem_cons_self, flatMap_congr' fun y hy => e y (List.mem_cons_of_mem _ hy)]
theorem orders_map {f : Nat → Nat} : ∀ (k : Nat) {l : List Nat}, (∀ a ∈ l, ∀ b ∈ l, f a = f b → a = b) → orders k (l.map f) = (orders k l).map (List.map f)
  | 0, l, _ => rfl
  | k + 1, l, hi => by
    show (l.map f).flatMap (fun x => (orders k ((l.map f).erase x)).map fun r => x :: r) = (l.flatMap fun x => (orders k (l.erase x)).map fun r => x :: r).map (List.map f)
    rw [flatMap_map', map_flatMap']
    refine flatMap_congr' fun x hx => ?_
    rw [erase_map hx hi, orders_map k (l := l.erase x) fun a ha b hb => hi a (List.mem_of_mem_erase ha) b (List.mem_of_mem_erase hb)]
    rw [List.map_map, List.map_map]
    rfl
theorem map_getD_range {α : Type} (l : List α) (d : α) : (List.range l.length).map (fun j => l.getD j d) = l := by
  apply List.ext_getElem?
  intro i
  by_cases c : i < l.length
  · rw [List.getElem?_map, List.getElem?_range c, List.getElem?_eq_getElem c]
    show some (l.getD i d) = some l[i]
    rw [List.getD_eq_getElem?_getD, List.getElem?_eq_getElem c]
    rfl
  · rw [List.getElem?_eq_none (by rw [List.length_map, List.length_range]; omega), List.getElem?_eq_none (by omega)]
theorem lookup_zip : ∀ {us h : List Nat} {i x : Nat}, us.Nodup → (i, x) ∈ us.zip h → (us.zip h).lookup i = some x
  | [], _, _, _, _, m => absurd m (by simp)
  | _ :: _, [], _, _, _, m => absurd m (by simp)
  | u :: us, y :: h, i, x, hd, m => by
    rw [List.nodup_cons] at hd
    rw [List.zip_cons_cons, List.lookup_cons]
    rw [List.zip_cons_cons] at m
    by_cases c : i = u
    · subst c
      rw [beq_self_eq_true]
      rcases List.mem_cons.mp m with e | m
      · rw [(Prod.mk.inj e).2]
      · exact absurd (List.of_mem_zip m).1 hd.1
    · have b : (i == u) = false := by simpa using c
      rw [b]
      rcases List.mem_cons.mp m with e | m
      · exact absurd (Prod.mk.inj e).1 c
      · exact lookup_zip hd.2 m
theorem zip_keys : ∀ {us h : List Nat}, us.length = h.length → (us.zip h).map Prod.fst = us
  | [], _, _ => rfl
  | u :: us, [], e => by simp at e
  | u :: us, y :: h, e => by
    rw [List.zip_cons_cons, List.map_cons, zip_keys (by simpa using e)]
/-- what each has by the gift that's handed round -/
theorem zip_handed {us h : List Nat} {m : Nat} (hd : us.Nodup) (hu : ∀ i ∈ us, i < m) (hl : us.length = h.length) : us.zip h = us.map fun i => (i, (setAll (List.replicate m 0) (us.zip h)).getD i 0) := by
  have e : us.zip h = (us.zip h).map fun p => (p.1, (setAll (List.replicate m 0) (us.zip h)).getD p.1 0) := by
    have : (us.zip h).map id = (us.zip h).map fun p => (p.1, (setAll (List.replicate m 0) (us.zip h)).getD p.1 0) := by
      refine List.map_congr_left fun p hp => ?_
      obtain ⟨i, x⟩ := p
      have hi := (List.of_mem_zip hp).1
      rw [List.getD_eq_getElem?_getD, setAll_get _ _ i (fnl_of_nodup (by rw [zip_keys hl]; exact hd)) (by rw [List.length_replicate]; exact hu i hi), lookup_zip hd hp]
      rfl
    rw [List.map_id] at this
    exact this
  have k := zip_keys hl
  calc us.zip h = (us.zip h).map fun p => (p.1, (setAll (List.replicate m 0) (us.zip h)).getD p.1 0) := e
    _ = ((us.zip h).map Prod.fst).map fun i => (i, (setAll (List.replicate m 0) (us.zip h)).getD i 0) := by rw [List.map_map]; rfl
    _ = _ := by rw [k]
theorem any_congr' {α : Type} {p q : α → Bool} : ∀ {l : List α}, (∀ x ∈ l, p x = q x) → l.any p = l.any q
  | [], _ => rfl
  | x :: l, h => by
    rw [List.any_cons, List.any_cons, h x List.mem_cons_self, any_congr' fun y hy => h y (List.mem_cons_of_mem _ hy)]
theorem people_nodup (k m : Nat) : (peopleM k m).Nodup := List.nodup_range.sublist List.filter_sublist
theorem people_lt {k m i : Nat} (h : i ∈ peopleM k m) : i < m := List.mem_range.mp (List.mem_filter.mp h).1
theorem people_len (k m : Nat) : (peopleM k m).length ≤ m := by
  refine Nat.le_trans (List.length_filter_le ..) ?_
  rw [List.length_range]
  exact Nat.le_refl _
theorem does_is {n : Nat} (hn : n ≤ 5) {w : Wishes} (hl : w.length = n) {own : List Nat} (ho : each n own = true) (g : List Nat) (k : Nat) : doesM w own g (peopleM k n) = blocks n w own g k := by
  have hp5 : (peopleM k n).length ≤ 5 := Nat.le_trans (people_len k n) hn
  unfold doesM
  show _ = (orders (peopleM k n).length ((peopleM k n).map fun i => own.getD i 0)).any fun h =>
    (((peopleM k n).zip h).all fun x => decide (rank w x.1 x.2 ≤ rank w x.1 (g.getD x.1 0))) && ((peopleM k n).zip h).any fun x => decide (rank w x.1 x.2 < rank w x.1 (g.getD x.1 0))
  have hmap : (peopleM k n).map (fun i => own.getD i 0) = (List.range (peopleM k n).length).map fun j => own.getD ((peopleM k n).getD j 0) 0 := by
    have e := map_getD_range (peopleM k n) 0
    calc (peopleM k n).map (fun i => own.getD i 0) = ((List.range (peopleM k n).length).map fun j => (peopleM k n).getD j 0).map (fun i => own.getD i 0) := by rw [e]
      _ = _ := by rw [List.map_map]; rfl
  have gd : ∀ j, j < (peopleM k n).length → (peopleM k n).getD j 0 < n := fun j hj => people_lt (getD_mem hj)
  have inj : ∀ a ∈ List.range (peopleM k n).length, ∀ b ∈ List.range (peopleM k n).length, own.getD ((peopleM k n).getD a 0) 0 = own.getD ((peopleM k n).getD b 0) 0 → a = b := by
    intro a ha b hb e
    have ha := List.mem_range.mp ha
    have hb := List.mem_range.mp hb
    have e1 : (peopleM k n).getD a 0 = (peopleM k n).getD b 0 := by
      have l1 := idxOf_getD (each_nodup ho) (i := (peopleM k n).getD a 0) (by rw [each_len ho]; exact gd a ha)
      have l2 := idxOf_getD (each_nodup ho) (i := (peopleM k n).getD b 0) (by rw [each_len ho]; exact gd b hb)
      rw [← l1, ← l2, e]
    have l1 := idxOf_getD (people_nodup k n) ha
    have l2 := idxOf_getD (people_nodup k n) hb
    rw [← l1, ← l2, e1]
  rw [hmap, orders_map _ inj, List.any_map, ← orders_is _ hp5]
  refine any_congr' fun o hoo => ?_
  have hol := each_len (orders_each _ hp5 o hoo)
  have hz := zip_handed (us := peopleM k n) (h := o.map fun j => own.getD ((peopleM k n).getD j 0) 0) (m := n) (people_nodup k n) (fun i hi => people_lt hi) (by rw [List.length_map, hol])
  rw [suitsM_is, hl]
  show _ = ((((peopleM k n).zip (o.map fun j => own.getD ((peopleM k n).getD j 0) 0)).all fun x => decide (rank w x.1 x.2 ≤ rank w x.1 (g.getD x.1 0))) && ((peopleM k n).zip (o.map fun j => own.getD ((peopleM k n).getD j 0) 0)).any fun x => decide (rank w x.1 x.2 < rank w x.1 (g.getD x.1 0)))
  rw [hz, List.all_map, List.any_map]
  rfl
theorem least_is {n : Nat} (hn : n ≤ 5) {w : Wishes} (hl : w.length = n) {own : List Nat} (ho : each n own = true) (g : List Nat) :
    leastM w own g = ((List.range (2 ^ n)).find? fun k => blocks n w own g k).getD 0 ∧ ∀ k, ((List.range (2 ^ n)).find? fun k => blocks n w own g k) = some k → 0 < k := by
  have b0 : blocks n w own g 0 = false := by
    have e : ((List.range n).filter fun i => (0 : Nat).testBit i) = [] := by
      rw [List.filter_eq_nil_iff]
      intro i _
      rw [Nat.zero_testBit]
      exact Bool.false_ne_true
    unfold blocks
    rw [e]
    rfl
  have er : List.range (2 ^ n) = 0 :: List.range' 1 (2 ^ n - 1) := by
    have : 2 ^ n = (2 ^ n - 1) + 1 := by
      have := Nat.two_pow_pos n
      omega
    rw [this, List.range_eq_range', List.range'_succ]
    rfl
  have ef : ((List.range (2 ^ n)).find? fun k => blocks n w own g k) = (List.range' 1 (2 ^ n - 1)).find? fun k => doesM w own g (peopleM k n) := by
    rw [er, List.find?_cons_of_neg (by rw [b0]; exact Bool.false_ne_true)]
    exact find_congr fun k _ => (does_is hn hl ho g k).symm
  refine ⟨?_, fun k hk => ?_⟩
  · unfold leastM
    rw [ef, hl]
  · rw [ef] at hk
    have := List.mem_of_find?_eq_some hk
    rw [List.mem_range'] at this
    obtain ⟨i, _, e⟩ := this
    omega
end Wg

/-! The text by places, callable defs, lists in the heap. -/
namespace Wg
open PySem PySem.Spec PyProof.Rows L2

def top (i : Nat) : Stmt := PySem.Challenge.pw_wishgiving_s01_answers.main.body.getD i (.Pass ⟨0, 0, 0, 0⟩)

/-! ### defs that may be called -/
structure Cal (P : Program) (w : World) (K : PySem.W.Frag) (mg : Str → Option Value) (base : Heap) (x : Str) (k : Nat) (ps : List Str) (sp : Sp) : Prop where
  ex : ∃ (f : Addr) (fd : FuncData), mg x = some (.ref f) ∧ PySem.W.keepIn K (.ref f) = true ∧ Binds K fd ps [] ∧ FnOk P w K mg base CX0 k f fd ps sp
structure MCal (P : Program) (w : World) (K : PySem.W.Frag) (mg : Str → Option Value) (base : Heap) (C : Addr) (m : Str) (k : Nat) (ps : List Str) (sp : Sp) : Prop where
  ex : ∃ (f : Addr) (fd : FuncData), Meth K C m f ∧ Binds K fd ps [] ∧ FnOk P w K mg base CX0 k f fd ps sp
section
variable {X : Cx} {k : Nat} {ps : List Str} {sp : Sp} {x m : Str} {p pos apos : Pos} {e o : Expr} {es : List Expr} {ta : TE} {t : TA} {C : Addr}
theorem pe_cal (c : Cal X.prog X.w X.K X.mg X.base x k ps sp) (hr : Room k X.A) (hg : Gl X x) (ha : PA X (e :: es) t)
    (hdb : (x == ("__debug__" : Str)) = false := by decide) (he : starEach (e :: es) X.env = (false, eval e X.env) :: starEach es X.env := by rfl) (hpl : (backTo pos (starEach es X.env)).any (·.1) = false := by rfl) :
    PE X (.Call (.Name x p) (e :: es) [] pos) (tCall sp [] E0 t) := by
  obtain ⟨f, fd, h1, h2, h3, h4⟩ := c.ex
  exact pe_call h4 hr hg h1 h2 h3 .nil pass0 ha hdb he hpl
theorem pe_mcal {pl : Sem Bool} (c : MCal X.prog X.w X.K X.mg X.base C m k ps sp) (hr : Room k X.A) (cl : Cls X.K C) (he : PE X o ta) (ha : PA X (e :: es) t)
    (hst : starEach (e :: es) X.env = (false, eval e X.env) :: starEach es X.env := by rfl) (hpl : (backTo pos (starEach es X.env)).any (·.1) = false := by rfl)
    (ht : eval (.Call (.Attribute o m apos) (e :: es) [] pos) X.env = (do
      let ov ← eval o X.env
      standAt apos.atName
      let (f, first) ← holding [ov] (getMethod ov m pl)
      callWith pos f first (backTo pos (starEach (e :: es) X.env)) (backToKw pos (keywordEach [] X.env))) := by rfl) :
    PE X (.Call (.Attribute o m apos) (e :: es) [] pos) (tMeth C m sp [] E0 ta t) := by
  obtain ⟨f, fd, h1, h3, h4⟩ := c.ex
  exact pe_meth (pl := pl) he cl h1 h4 hr h3 .nil pass0 ha hst hpl ht
theorem pe_mcal0 {pl : Sem Bool} (c : MCal X.prog X.w X.K X.mg X.base C m k ps sp) (hr : Room k X.A) (cl : Cls X.K C) (he : PE X o ta)
    (ht : eval (.Call (.Attribute o m apos) [] [] pos) X.env = (do
      let ov ← eval o X.env
      standAt apos.atName
      let (f, first) ← holding [ov] (getMethod ov m pl)
      callWith pos f first (backTo pos (starEach [] X.env)) (backToKw pos (keywordEach [] X.env))) := by rfl) :
    PE X (.Call (.Attribute o m apos) [] [] pos) (tMeth C m sp [] E0 ta tNil) := by
  obtain ⟨f, fd, h1, h3, h4⟩ := c.ex
  exact pe_meth0 (pl := pl) he cl h1 h4 hr h3 .nil pass0 ht
end

/-! ### lists of numbers in the heap -/
abbrev iV (x : Nat) : V := .int (x : Int)
def nV (l : List Nat) : List V := l.map iV
theorem nV_length (l : List Nat) : (nV l).length = l.length := List.length_map ..
theorem nV_nil : nV [] = [] := rfl
theorem nV_append (a b : List Nat) : nV (a ++ b) = nV a ++ nV b := List.map_append ..
theorem nV_get {l : List Nat} {i : Nat} (h : i < l.length) : (nV l)[i]? = some (iV (l.getD i 0)) := by
  unfold nV
  rw [List.getElem?_map, List.getD_eq_getElem?_getD, List.getElem?_eq_getElem h]
  rfl
theorem nV_some {l : List Nat} {i : Nat} {v : V} (h : (nV l)[i]? = some v) : i < l.length ∧ v = iV (l.getD i 0) := by
  have hi : i < l.length := by
    have := (List.getElem?_eq_some_iff.mp h).1
    rw [nV_length] at this
    exact this
  rw [nV_get hi] at h
  exact ⟨hi, (Option.some.inj h).symm⟩
theorem nV_at {l : List Nat} {i : Nat} (h : i < l.length) : atI (nV l) (i : Int) = some (iV (l.getD i 0)) := atI_nat (nV_get h)
theorem nV_at0 {l : List Nat} (h : 0 < l.length) : atI (nV l) 0 = some (iV (l.getD 0 0)) := nV_at (i := 0) h
theorem nV_ints (l : List Nat) : nV l = (l.map fun (x : Nat) => (x : Int)).map V.int := by
  unfold nV
  rw [List.map_map]
  rfl
theorem nV_flat (l : List Nat) : (nV l).all flatV = true := by
  rw [List.all_eq_true]
  intro v hv
  obtain ⟨x, _, rfl⟩ := List.mem_map.mp hv
  rfl
theorem nV_set (l : List Nat) (i x : Nat) : (nV l).set i (iV x) = nV (l.set i x) := (List.map_set ..).symm
theorem ixN_nat {n i : Nat} (h : i < n) : ixN n (i : Int) = some i := by
  unfold ixN
  rw [if_pos (by omega), if_pos (by omega)]
  simp
theorem nV_inj {a b : List Nat} (h : nV a = nV b) : a = b := by
  have := congrArg (List.map fun v => match v with | V.int i => i.toNat | _ => 0) h
  unfold nV at this
  rw [List.map_map, List.map_map] at this
  simpa [Function.comp_def] using this
theorem in_nV (x : Nat) (l : List Nat) : inV (iV x) (nV l) = l.contains x := by
  unfold inV nV
  rw [List.any_map, Bool.eq_iff_iff, List.any_eq_true, List.contains_iff_mem]
  constructor
  · intro ⟨y, hy, e⟩
    have e2 : ((y : Int) == (x : Int)) = true := e
    have e3 : y = x := by
      have := beq_iff_eq.mp e2
      omega
    exact e3 ▸ hy
  · intro h
    exact ⟨x, h, show ((x : Int) == (x : Int)) = true from beq_self_eq_true _⟩

/-! ### heaps -/
theorem same_upd {H : Hp} {p : Addr} {o : HO} (h : H p = none) : Same H (upd H p o) := fun b x e => by
  rw [upd_ne (ne_of_none e h)]
  exact e
theorem _root_.L2.Same.updN {H H' : Hp} (s : Same H H') {p : Addr} {o : HO} (h : H' p = none) : Same H (upd H' p o) := s.trans (same_upd h)
/-- a new object changed again -/
theorem _root_.L2.Same.putN {H H' : Hp} (s : Same H H') {p : Addr} {o : HO} (h : H p = none) : Same H (L2.upd H' p o) := fun b x e => by
  rw [upd_ne (ne_of_none e h)]
  exact s _ _ e
theorem _root_.L2.Same.tupN {K : PySem.W.Frag} {H H' : Hp} {a : Addr} {xs : List V} (e : Same H H') (h : SqT K H a xs) : SqT K H' a xs := by
  rcases h with (h | ⟨o, h⟩) | h
  · exact .inl (.inl (e _ _ h))
  · exact .inl (.inr ⟨o, e _ _ h⟩)
  · exact .inr h
/-- rows of numbers at addresses -/
def RowsAt (H : Hp) : List Addr → List (List Nat) → Prop
  | [], [] => True
  | r :: rs, w :: ws => H r = some (.lst (nV w)) ∧ RowsAt H rs ws
  | _, _ => False
theorem RowsAt.len {H : Hp} : ∀ {rs : List Addr} {ws : List (List Nat)}, RowsAt H rs ws → rs.length = ws.length
  | [], [], _ => rfl
  | _ :: _, _ :: _, h => by
    rw [List.length_cons, List.length_cons, RowsAt.len h.2]
  | [], _ :: _, h => h.elim
  | _ :: _, [], h => h.elim
theorem RowsAt.same {H H' : Hp} (s : Same H H') : ∀ {rs : List Addr} {ws : List (List Nat)}, RowsAt H rs ws → RowsAt H' rs ws
  | [], [], _ => trivial
  | _ :: _, _ :: _, h => ⟨s _ _ h.1, RowsAt.same s h.2⟩
  | [], _ :: _, h => h.elim
  | _ :: _, [], h => h.elim
/-- .. where only what is no row has changed -/
theorem RowsAt.keep {H H' : Hp} : ∀ {rs : List Addr} {ws : List (List Nat)}, (∀ r ∈ rs, ∀ o, H r = some o → H' r = some o) → RowsAt H rs ws → RowsAt H' rs ws
  | [], [], _, _ => trivial
  | r :: _, _ :: _, s, h => ⟨s r List.mem_cons_self _ h.1, RowsAt.keep (fun q hq => s q (List.mem_cons_of_mem _ hq)) h.2⟩
  | [], _ :: _, _, h => h.elim
  | _ :: _, [], _, h => h.elim
theorem RowsAt.get {H : Hp} : ∀ {rs : List Addr} {ws : List (List Nat)} {i : Nat}, RowsAt H rs ws → i < ws.length → ∃ r, rs[i]? = some r ∧ H r = some (.lst (nV (ws.getD i [])))
  | [], [], _, _, h => absurd h (by simp)
  | r :: _, _ :: _, 0, h, _ => ⟨r, rfl, h.1⟩
  | _ :: _, _ :: _, i + 1, h, hi => RowsAt.get (i := i) h.2 (by simpa using hi)
  | [], _ :: _, _, h, _ => h.elim
  | _ :: _, [], _, h, _ => h.elim
theorem RowsAt.item {H : Hp} : ∀ {rs : List Addr} {ws : List (List Nat)} {i : Nat} {r : Addr}, RowsAt H rs ws → rs[i]? = some r → i < ws.length ∧ H r = some (.lst (nV (ws.getD i [])))
  | [], [], _, _, _, h => absurd h (by simp)
  | r :: _, _ :: _, 0, _, h, e => by
    have := Option.some.inj e
    subst this
    exact ⟨Nat.zero_lt_succ _, h.1⟩
  | _ :: _, _ :: _, i + 1, _, h, e => by
    have := RowsAt.item (i := i) h.2 (by simpa using e)
    exact ⟨by rw [List.length_cons]; omega, this.2⟩
  | [], _ :: _, _, _, h, _ => h.elim
  | _ :: _, [], _, _, h, _ => h.elim
theorem RowsAt.append {H : Hp} : ∀ {rs ss : List Addr} {ws vs : List (List Nat)}, RowsAt H rs ws → RowsAt H ss vs → RowsAt H (rs ++ ss) (ws ++ vs)
  | [], _, [], _, _, h => h
  | _ :: _, _, _ :: _, _, h, g => ⟨h.1, RowsAt.append h.2 g⟩
  | [], _, _ :: _, _, h, _ => h.elim
  | _ :: _, _, [], _, h, _ => h.elim
theorem RowsAt.mem {H : Hp} : ∀ {rs : List Addr} {ws : List (List Nat)} {r : Addr}, RowsAt H rs ws → r ∈ rs → ∃ row, row ∈ ws ∧ H r = some (.lst (nV row))
  | [], [], _, _, h => absurd h (by simp)
  | s :: _, w :: _, r, h, m => by
    rcases List.mem_cons.mp m with rfl | m
    · exact ⟨w, List.mem_cons_self, h.1⟩
    · obtain ⟨row, h1, h2⟩ := RowsAt.mem h.2 m
      exact ⟨row, List.mem_cons_of_mem _ h1, h2⟩
  | [], _ :: _, _, h, _ => h.elim
  | _ :: _, [], _, h, _ => h.elim
theorem RowsAt.set {H : Hp} {r : Addr} {row : List Nat} (hr : H r = Option.some (.lst (nV row))) : ∀ {rs : List Addr} {ws : List (List Nat)} {i : Nat}, RowsAt H rs ws → RowsAt H (rs.set i r) (ws.set i row)
  | [], [], _, _ => trivial
  | _ :: _, _ :: _, 0, h => ⟨hr, h.2⟩
  | _ :: _, _ :: _, i + 1, h => ⟨h.1, RowsAt.set hr (i := i) h.2⟩
  | [], _ :: _, _, h => h.elim
  | _ :: _, [], _, h => h.elim
/-- a list of rows -/
def WAt (H : Hp) (a : Addr) (ws : List (List Nat)) : Prop := ∃ rs : List Addr, H a = some (.lst (rs.map V.ref)) ∧ RowsAt H rs ws
theorem WAt.same {H H' : Hp} (s : Same H H') {a : Addr} {ws : List (List Nat)} (h : WAt H a ws) : WAt H' a ws := by
  obtain ⟨rs, h1, h2⟩ := h
  exact ⟨rs, s _ _ h1, h2.same s⟩
theorem refs_get {rs : List Addr} {i : Nat} {r : Addr} (h : rs[i]? = some r) : (rs.map V.ref)[i]? = some (.ref r) := by
  rw [List.getElem?_map, h]
  rfl
theorem refs_some {rs : List Addr} {i : Nat} {v : V} (h : (rs.map V.ref)[i]? = some v) : ∃ r, rs[i]? = some r ∧ v = .ref r := by
  rw [List.getElem?_map] at h
  cases e : rs[i]? with
  | none =>
    rw [e] at h
    cases h
  | some r =>
    rw [e] at h
    exact ⟨r, rfl, (Option.some.inj h).symm⟩
theorem size_ok {n : Nat} (h : n ≤ 1000000) : n ≤ sizeLine := Nat.le_trans h (by decide)
theorem size_lt {n : Nat} (h : n ≤ 1000000) : n < sizeLine := Nat.lt_of_le_of_lt h (by decide)
/-- the i-th item and what comes before it -/
theorem take_more {α : Type} : ∀ {l : List α} {i : Nat} {x : α}, l[i]? = some x → l.take (i + 1) = l.take i ++ [x]
  | [], i, x, h => by simp at h
  | a :: l, 0, x, h => by
    have e : a = x := Option.some.inj h
    subst e
    rfl
  | a :: l, i + 1, x, h => by
    have ih := take_more (l := l) (i := i) (x := x) h
    show a :: l.take (i + 1) = a :: l.take i ++ [x]
    rw [ih]
    rfl
theorem take_moreD {l : List Nat} {i : Nat} (h : i < l.length) : l.take (i + 1) = l.take i ++ [l.getD i 0] := by
  refine take_more ?_
  rw [List.getD_eq_getElem?_getD, List.getElem?_eq_getElem h]
  rfl
end Wg

/-! parts.py -/
namespace Wg
open PySem PySem.Spec PyProof.Rows L2

/-- a part in lowest terms -/
def fr (a b : Nat) : Nat × Nat := (a / Nat.gcd a b, b / Nat.gcd a b)
/-- a tuple that is a part -/
def TF (K : PySem.W.Frag) (H : Hp) (p : Addr) (q : Nat × Nat) : Prop := SqT K H p [iV q.1, iV q.2]
theorem TF.same {K : PySem.W.Frag} {H H' : Hp} {p : Addr} {q : Nat × Nat} (s : Same H H') (h : TF K H p q) : TF K H' p q := s.tupN h
def Small (q : Nat × Nat) : Prop := q.1 < 2 ^ 64 ∧ q.2 < 2 ^ 64
theorem mulOk {a b : Nat} (h : a < 2 ^ 64) : CMul (a : Int) (b : Int) := .inl ⟨by omega, by omega⟩

section
variable {P : Program} {w : World} {K : PySem.W.Frag} {mg : Str → Option Value} {base : Heap}

abbrev sDivisor : Stmt := top 3
theorem scDivisor : FnScope ["one", "other"] ["one", "other"] (defScope sDivisor) := ⟨rfl, rfl, rfl, by decide +kernel, rfl, by decide +kernel, by decide +kernel⟩
def spDivisor : Sp := fun vs H Q _ => ∃ a b : Nat, vs = [iV a, iV b] ∧ Q (iV (Nat.gcd a b)) H
theorem ok_divisor {f : Addr} {fd : FuncData} (F : Fun K "divisor" "divisor" sDivisor f fd) : FnOk P w K mg base CX0 1 f fd ["one", "other"] spDivisor := by
  refine F.ok scDivisor (fun vs H Q E h => ?_) (fun cdv A outer s H vs Q E hr h => ?_)
  · obtain ⟨a, b, rfl, _⟩ := h
    rfl
  · obtain ⟨a, b, rfl, q⟩ := h
    refine ⟨_, pss_cons (ps_while PassesOwn.never (pt_cmpR op_gt (pv 1) pe_int (nomark _))
        (pss_one (ps_par (i := 0) (j := 1) (by rfl) scDivisor.nd rfl rfl (by decide) rfl rfl (pa_cons (pv 1) (pa_cons (pe_op op_mod (pv 0) (pv 1)) pa_nil)) (by rfl))))
      (pss_one (ps_ret (pv 0))), ?_⟩
    refine ⟨fun y σ H' => ∃ x : Nat, σ = [some (iV x), some (iV y)] ∧ Nat.gcd x y = Nat.gcd a b ∧ H' = H, ⟨b, a, rfl, rfl, rfl⟩, ?_⟩
    rintro y σ H' ⟨x, rfl, hg, rfl⟩
    refine ⟨_, rfl, (y : Int), 0, rfl, rfl, _, rfl, ?_⟩
    refine ite2 (fun c => ?_) (fun c => ?_)
    · have hy : 0 < y := by
        have := of_decide_eq_true c
        omega
      refine ⟨fun σ' H'' => ∃ x' y' : Nat, σ' = [some (iV x'), some (iV y')] ∧ y' < y ∧ Nat.gcd x' y' = Nat.gcd a b ∧ H'' = H', fun σ' H'' ⟨x', y', h1, h2, h3, h4⟩ => ⟨y', h2, x', h1, h3, h4⟩, ?_⟩
      refine ⟨_, rfl, _, rfl, _, rfl, (x : Int), (y : Int), rfl, rfl, by show (0 : Int) < (y : Int); omega, _, _, rfl, ?_⟩
      refine ⟨y, x % y, rfl, Nat.mod_lt _ hy, ?_, rfl⟩
      rw [Nat.gcd_comm, ← Nat.gcd_rec, Nat.gcd_comm, hg]
    · have hy : y = 0 := by
        have c' : ¬ decide ((0 : Int) < (y : Int)) = true := c
        rw [decide_eq_true_iff] at c'
        omega
      subst hy
      refine ⟨_, rfl, ?_⟩
      rw [Nat.gcd_zero_right] at hg
      rw [hg]
      exact q

abbrev sPart : Stmt := top 4
theorem scPart : FnScope ["top", "bottom", "both"] ["top", "bottom"] (defScope sPart) := ⟨rfl, rfl, rfl, by decide +kernel, rfl, by decide +kernel, by decide +kernel⟩
def spPart (K : PySem.W.Frag) : Sp := fun vs H Q _ => ∃ a b : Nat, vs = [iV a, iV b] ∧ 0 < b ∧ b < 2 ^ 128 ∧ ∀ p H', Same H H' → TF K H' p (fr a b) → Q (.ref p) H'
theorem ok_part {f : Addr} {fd : FuncData} (F : Fun K "part" "part" sPart f fd) (C1 : Cal P w K mg base "divisor" 1 ["one", "other"] spDivisor) : FnOk P w K mg base CX0 2 f fd ["top", "bottom"] (spPart K) := by
  refine F.ok scPart (fun vs H Q E h => ?_) (fun cdv A outer s H vs Q E hr h => ?_)
  · obtain ⟨a, b, rfl, _⟩ := h
    rfl
  · obtain ⟨a, b, rfl, hb, hb2, q⟩ := h
    refine ⟨_, pss_cons (ps_set (i := 2) scPart.nd rfl (.inl rfl) (pe_cal C1 hr (by rfl) (pa_cons (pv 0) (pa_cons (pv 1) pa_nil))))
      (pss_one (ps_ret (pe_tup (pa_cons (pe_op op_fdivW (pv 0) (pv 2)) (pa_cons (pe_op op_fdivW (pv 1) (pv 2)) pa_nil))))), ?_⟩
    have g0 : 0 < Nat.gcd a b := Nat.gcd_pos_of_pos_right _ hb
    have g1 : Nat.gcd a b ≤ b := Nat.gcd_le_right _ hb
    have gd : CDivW (a : Int) ((Nat.gcd a b : Nat) : Int) := wide_div (by omega) (b := 128) (by rw [Int.natAbs_natCast]; omega) (by decide) (by decide)
    refine ⟨_, rfl, _, rfl, a, b, rfl, ?_⟩
    refine ⟨_, rfl, _, rfl, (a : Int), ((Nat.gcd a b : Nat) : Int), rfl, rfl, gd, _, rfl, _, rfl, (b : Int), ((Nat.gcd a b : Nat) : Int), rfl, rfl, gd, by show 2 ≤ sizeLine; decide, fun p hp => ?_⟩
    exact q p _ (same_upd hp) (SqT.of upd_same)

abbrev sPlus : Stmt := top 5
theorem scPlus : FnScope ["one", "other"] ["one", "other"] (defScope sPlus) := ⟨rfl, rfl, rfl, by decide +kernel, rfl, by decide +kernel, by decide +kernel⟩
def spPlus (K : PySem.W.Frag) : Sp := fun vs H Q _ => ∃ (p p' : Addr) (a b : Nat × Nat), vs = [.ref p, .ref p'] ∧ TF K H p a ∧ TF K H p' b ∧ Small a ∧ Small b ∧ 0 < a.2 ∧ 0 < b.2 ∧
  ∀ r H', Same H H' → TF K H' r (fr (a.1 * b.2 + b.1 * a.2) (a.2 * b.2)) → Q (.ref r) H'
theorem mul_small {a b : Nat} (h1 : a < 2 ^ 64) (h2 : b < 2 ^ 64) : a * b < 2 ^ 128 :=
  Nat.lt_of_lt_of_le (Nat.mul_lt_mul'' h1 h2) (by rw [← Nat.pow_add]; exact Nat.pow_le_pow_right (by decide) (by decide))
theorem ok_plus {f : Addr} {fd : FuncData} (F : Fun K "plus" "plus" sPlus f fd) (C1 : Cal P w K mg base "part" 2 ["top", "bottom"] (spPart K)) : FnOk P w K mg base CX0 3 f fd ["one", "other"] (spPlus K) := by
  refine F.ok scPlus (fun vs H Q E h => ?_) (fun cdv A outer s H vs Q E hr h => ?_)
  · obtain ⟨p, p', a, b, rfl, _⟩ := h
    rfl
  · obtain ⟨p, p', a, b, rfl, h1, h2, sa, sb, pa, pb, q⟩ := h
    refine ⟨_, pss_one (ps_ret (pe_cal C1 hr (by rfl) (pa_cons (pe_op op_add
        (pe_op op_mul (pe_ix ix_tup (pv 0) pe_int (fun _ _ => rfl)) (pe_ix ix_tup (pv 1) pe_int (fun _ _ => rfl)))
        (pe_op op_mul (pe_ix ix_tup (pv 1) pe_int (fun _ _ => rfl)) (pe_ix ix_tup (pv 0) pe_int (fun _ _ => rfl))))
      (pa_cons (pe_op op_mul (pe_ix ix_tup (pv 0) pe_int (fun _ _ => rfl)) (pe_ix ix_tup (pv 1) pe_int (fun _ _ => rfl))) pa_nil)))), ?_⟩
    refine ⟨_, rfl, p, _, 0, _, rfl, rfl, h1, rfl, _, rfl, p', _, 1, _, rfl, rfl, h2, rfl, _, _, rfl, rfl, mulOk sa.1, ?_⟩
    refine ⟨_, rfl, p', _, 0, _, rfl, rfl, h2, rfl, _, rfl, p, _, 1, _, rfl, rfl, h1, rfl, _, _, rfl, rfl, mulOk sb.1, ?_⟩
    refine ⟨_, _, rfl, rfl, ?_⟩
    refine ⟨_, rfl, p, _, 1, _, rfl, rfl, h1, rfl, _, rfl, p', _, 1, _, rfl, rfl, h2, rfl, _, _, rfl, rfl, mulOk sa.2, ?_⟩
    exact ⟨a.1 * b.2 + b.1 * a.2, a.2 * b.2, rfl, Nat.mul_pos pa pb, mul_small sa.2 sb.2, fun r H' s t => q r H' s t⟩

abbrev sMinus : Stmt := top 6
theorem scMinus : FnScope ["one", "other"] ["one", "other"] (defScope sMinus) := ⟨rfl, rfl, rfl, by decide +kernel, rfl, by decide +kernel, by decide +kernel⟩
def spMinus (K : PySem.W.Frag) : Sp := fun vs H Q _ => ∃ (p p' : Addr) (a b : Nat × Nat), vs = [.ref p, .ref p'] ∧ TF K H p a ∧ TF K H p' b ∧ Small a ∧ Small b ∧ 0 < a.2 ∧ 0 < b.2 ∧ b.1 * a.2 ≤ a.1 * b.2 ∧
  ∀ r H', Same H H' → TF K H' r (fr (a.1 * b.2 - b.1 * a.2) (a.2 * b.2)) → Q (.ref r) H'
theorem ok_minus {f : Addr} {fd : FuncData} (F : Fun K "minus" "minus" sMinus f fd) (C1 : Cal P w K mg base "part" 2 ["top", "bottom"] (spPart K)) : FnOk P w K mg base CX0 3 f fd ["one", "other"] (spMinus K) := by
  refine F.ok scMinus (fun vs H Q E h => ?_) (fun cdv A outer s H vs Q E hr h => ?_)
  · obtain ⟨p, p', a, b, rfl, _⟩ := h
    rfl
  · obtain ⟨p, p', a, b, rfl, h1, h2, sa, sb, pa, pb, le, q⟩ := h
    refine ⟨_, pss_one (ps_ret (pe_cal C1 hr (by rfl) (pa_cons (pe_op op_sub
        (pe_op op_mul (pe_ix ix_tup (pv 0) pe_int (fun _ _ => rfl)) (pe_ix ix_tup (pv 1) pe_int (fun _ _ => rfl)))
        (pe_op op_mul (pe_ix ix_tup (pv 1) pe_int (fun _ _ => rfl)) (pe_ix ix_tup (pv 0) pe_int (fun _ _ => rfl))))
      (pa_cons (pe_op op_mul (pe_ix ix_tup (pv 0) pe_int (fun _ _ => rfl)) (pe_ix ix_tup (pv 1) pe_int (fun _ _ => rfl))) pa_nil)))), ?_⟩
    refine ⟨_, rfl, p, _, 0, _, rfl, rfl, h1, rfl, _, rfl, p', _, 1, _, rfl, rfl, h2, rfl, _, _, rfl, rfl, mulOk sa.1, ?_⟩
    refine ⟨_, rfl, p', _, 0, _, rfl, rfl, h2, rfl, _, rfl, p, _, 1, _, rfl, rfl, h1, rfl, _, _, rfl, rfl, mulOk sb.1, ?_⟩
    refine ⟨_, _, rfl, rfl, ?_⟩
    refine ⟨_, rfl, p, _, 1, _, rfl, rfl, h1, rfl, _, rfl, p', _, 1, _, rfl, rfl, h2, rfl, _, _, rfl, rfl, mulOk sa.2, ?_⟩
    refine ⟨a.1 * b.2 - b.1 * a.2, a.2 * b.2, ?_, Nat.mul_pos pa pb, mul_small sa.2 sb.2, fun r H' s t => q r H' s t⟩
    have e : ((a.1 : Int) * (b.2 : Int) - (b.1 : Int) * (a.2 : Int)) = ((a.1 * b.2 - b.1 * a.2 : Nat) : Int) := by
      rw [Int.natCast_sub le, Int.natCast_mul, Int.natCast_mul]
    show [V.int _, V.int _] = _
    rw [e]
    rfl

abbrev sTimes : Stmt := top 7
theorem scTimes : FnScope ["one", "many"] ["one", "many"] (defScope sTimes) := ⟨rfl, rfl, rfl, by decide +kernel, rfl, by decide +kernel, by decide +kernel⟩
def spTimes (K : PySem.W.Frag) : Sp := fun vs H Q _ => ∃ (p : Addr) (m : Nat) (a : Nat × Nat), vs = [.ref p, iV m] ∧ TF K H p a ∧ Small a ∧ 0 < a.2 ∧
  ∀ r H', Same H H' → TF K H' r (fr (a.1 * m) a.2) → Q (.ref r) H'
theorem ok_times {f : Addr} {fd : FuncData} (F : Fun K "times" "times" sTimes f fd) (C1 : Cal P w K mg base "part" 2 ["top", "bottom"] (spPart K)) : FnOk P w K mg base CX0 3 f fd ["one", "many"] (spTimes K) := by
  refine F.ok scTimes (fun vs H Q E h => ?_) (fun cdv A outer s H vs Q E hr h => ?_)
  · obtain ⟨p, m, a, rfl, _⟩ := h
    rfl
  · obtain ⟨p, m, a, rfl, h1, sa, pa, q⟩ := h
    refine ⟨_, pss_one (ps_ret (pe_cal C1 hr (by rfl) (pa_cons (pe_op op_mul (pe_ix ix_tup (pv 0) pe_int (fun _ _ => rfl)) (pv 1))
      (pa_cons (pe_ix ix_tup (pv 0) pe_int (fun _ _ => rfl)) pa_nil)))), ?_⟩
    refine ⟨_, rfl, p, _, 0, _, rfl, rfl, h1, rfl, _, rfl, _, _, rfl, rfl, mulOk sa.1, ?_⟩
    refine ⟨_, rfl, p, _, 1, _, rfl, rfl, h1, rfl, ?_⟩
    exact ⟨a.1 * m, a.2, rfl, pa, Nat.lt_of_lt_of_le sa.2 (Nat.pow_le_pow_right (by decide) (by decide)), fun r H' s t => q r H' s t⟩

abbrev sOver : Stmt := top 8
theorem scOver : FnScope ["one", "many"] ["one", "many"] (defScope sOver) := ⟨rfl, rfl, rfl, by decide +kernel, rfl, by decide +kernel, by decide +kernel⟩
def spOver (K : PySem.W.Frag) : Sp := fun vs H Q _ => ∃ (p : Addr) (m : Nat) (a : Nat × Nat), vs = [.ref p, iV m] ∧ TF K H p a ∧ Small a ∧ 0 < a.2 ∧ 0 < m ∧ m < 2 ^ 64 ∧
  ∀ r H', Same H H' → TF K H' r (fr a.1 (a.2 * m)) → Q (.ref r) H'
theorem ok_over {f : Addr} {fd : FuncData} (F : Fun K "over" "over" sOver f fd) (C1 : Cal P w K mg base "part" 2 ["top", "bottom"] (spPart K)) : FnOk P w K mg base CX0 3 f fd ["one", "many"] (spOver K) := by
  refine F.ok scOver (fun vs H Q E h => ?_) (fun cdv A outer s H vs Q E hr h => ?_)
  · obtain ⟨p, m, a, rfl, _⟩ := h
    rfl
  · obtain ⟨p, m, a, rfl, h1, sa, pa, pm, sm, q⟩ := h
    refine ⟨_, pss_one (ps_ret (pe_cal C1 hr (by rfl) (pa_cons (pe_ix ix_tup (pv 0) pe_int (fun _ _ => rfl))
      (pa_cons (pe_op op_mul (pe_ix ix_tup (pv 0) pe_int (fun _ _ => rfl)) (pv 1)) pa_nil)))), ?_⟩
    refine ⟨_, rfl, p, _, 0, _, rfl, rfl, h1, rfl, ?_⟩
    refine ⟨_, rfl, p, _, 1, _, rfl, rfl, h1, rfl, _, rfl, _, _, rfl, rfl, mulOk sa.2, ?_⟩
    exact ⟨a.1, a.2 * m, rfl, Nat.mul_pos pa pm, mul_small sa.2 sm, fun r H' s t => q r H' s t⟩

abbrev sLess : Stmt := top 9
theorem scLess : FnScope ["one", "other"] ["one", "other"] (defScope sLess) := ⟨rfl, rfl, rfl, by decide +kernel, rfl, by decide +kernel, by decide +kernel⟩
def spLess (K : PySem.W.Frag) : Sp := fun vs H Q _ => ∃ (p p' : Addr) (a b : Nat × Nat), vs = [.ref p, .ref p'] ∧ TF K H p a ∧ TF K H p' b ∧ Small a ∧ Small b ∧ Q (.bl (decide (a.1 * b.2 < b.1 * a.2))) H
theorem ok_less {f : Addr} {fd : FuncData} (F : Fun K "is_less" "is_less" sLess f fd) : FnOk P w K mg base CX0 1 f fd ["one", "other"] (spLess K) := by
  refine F.ok scLess (fun vs H Q E h => ?_) (fun cdv A outer s H vs Q E hr h => ?_)
  · obtain ⟨p, p', a, b, rfl, _⟩ := h
    rfl
  · obtain ⟨p, p', a, b, rfl, h1, h2, sa, sb, q⟩ := h
    refine ⟨_, pss_one (ps_ret (pe_cmpR op_lt
        (pe_op op_mul (pe_ix ix_tup (pv 0) pe_int (fun _ _ => rfl)) (pe_ix ix_tup (pv 1) pe_int (fun _ _ => rfl)))
        (pe_op op_mul (pe_ix ix_tup (pv 1) pe_int (fun _ _ => rfl)) (pe_ix ix_tup (pv 0) pe_int (fun _ _ => rfl))) (nomark _))), ?_⟩
    refine ⟨_, rfl, p, _, 0, _, rfl, rfl, h1, rfl, _, rfl, p', _, 1, _, rfl, rfl, h2, rfl, _, _, rfl, rfl, mulOk sa.1, ?_⟩
    refine ⟨_, rfl, p', _, 0, _, rfl, rfl, h2, rfl, _, rfl, p, _, 1, _, rfl, rfl, h1, rfl, _, _, rfl, rfl, mulOk sb.1, ?_⟩
    refine ⟨_, _, rfl, rfl, ?_⟩
    have e : decide ((a.1 : Int) * (b.2 : Int) < (b.1 : Int) * (a.2 : Int)) = decide (a.1 * b.2 < b.1 * a.2) := by
      rw [← Int.natCast_mul, ← Int.natCast_mul]
      exact decide_eq_decide.mpr Int.ofNat_lt
    show Q (.bl (decide ((a.1 : Int) * (b.2 : Int) < (b.1 : Int) * (a.2 : Int)))) H
    rw [e]
    exact q
end
end Wg

/-! gifts.py: the smaller ones -/
namespace Wg
open PySem PySem.Spec PyProof.Rows L2

/-- the built-in names that the program takes are no names of its own -/
structure Bl (mg : Str → Option Value) : Prop where
  len : mg "len" = none
  range : mg "range" = none
  list : mg "list" = none
  sorted : mg "sorted" = none
  enumerate : mg "enumerate" = none
  int : mg "int" = none

/-! ### data -/
def dN (l : List Nat) : List PyData := l.map fun (x : Nat) => .int (x : Int)
theorem dpAll_nV {K : PySem.W.Frag} {H : Hp} : ∀ l : List Nat, DpAll K H (nV l) (dN l)
  | [] => .nil
  | _ :: l => .cons (.int _) (dpAll_nV l)
theorem dp_nV {K : PySem.W.Frag} {H : Hp} {a : Addr} {l : List Nat} (h : SqL K H a (nV l)) : Dp K H (.ref a) (.list (dN l)) := .lst h (dpAll_nV l)
theorem dpAll_ints {K : PySem.W.Frag} {H : Hp} : ∀ l : List Int, DpAll K H (l.map V.int) (l.map PyData.int)
  | [] => .nil
  | _ :: l => .cons (.int _) (dpAll_ints l)
theorem ints_lay : ∀ l : List Int, PyData.canLayAll0 (l.map PyData.int) = true
  | [] => by simp [PyData.canLayAll0]
  | z :: zs => by simp [PyData.canLayAll0, PyData.canLay0, ints_lay zs]
theorem ints_depth : ∀ l : List Int, PyData.depthAll (l.map PyData.int) ≤ 1
  | [] => by simp [PyData.depthAll]
  | z :: zs => by
    have h1 := ints_depth zs
    simp only [List.map_cons, PyData.depthAll, PyData.depth]
    omega
theorem ints_shaped (l : List Int) : SeqAt.shaped (.list (l.map PyData.int)) = true := by
  have h1 := ints_depth l
  have h2 : PyData.depth (.list (l.map PyData.int)) ≤ 64 := by
    simp only [PyData.depth]
    omega
  show (PyData.canLay0 (.list (l.map PyData.int)) && decide (PyData.depth (.list (l.map PyData.int)) ≤ 64)) = true
  rw [Bool.and_eq_true]
  exact ⟨by simp only [PyData.canLay0]; exact ints_lay l, decide_eq_true h2⟩
theorem ints_eqvAll : ∀ a b : List Int, PyData.eqvAll (a.map PyData.int) (b.map PyData.int) = decide (a = b)
  | [], [] => by simp [PyData.eqvAll]
  | [], _ :: _ => by simp [PyData.eqvAll]
  | _ :: _, [] => by simp [PyData.eqvAll]
  | x :: a, y :: b => by
    simp only [List.map_cons, PyData.eqvAll, PyData.eqv, ints_eqvAll a b]
    by_cases c : x = y
    · subst c
      simp
    · simp [c]
theorem ints_eqv (a b : List Int) : PyData.eqv (.list (a.map PyData.int)) (.list (b.map PyData.int)) = decide (a = b) := by
  simp only [PyData.eqv, ints_eqvAll]
theorem dN_ints (l : List Nat) : dN l = (l.map fun (x : Nat) => (x : Int)).map PyData.int := by
  unfold dN
  rw [List.map_map]
  rfl
theorem dN_shaped (l : List Nat) : SeqAt.shaped (.list (dN l)) = true := by
  rw [dN_ints]
  exact ints_shaped _
theorem natInt_inj {a b : List Nat} (h : (a.map fun (x : Nat) => (x : Int)) = b.map fun (x : Nat) => (x : Int)) : a = b := by
  have := congrArg (List.map Int.toNat) h
  rw [List.map_map, List.map_map] at this
  simpa [Function.comp_def] using this
theorem dN_eqv (a b : List Nat) : PyData.eqv (.list (dN a)) (.list (dN b)) = decide (a = b) := by
  rw [dN_ints, dN_ints, ints_eqv]
  exact decide_eq_decide.mpr ⟨natInt_inj, fun h => by rw [h]⟩
theorem rgV_nat (n : Nat) : rgV 0 (n : Int) = nV (List.range n) := by
  unfold rgV nV
  rw [show ((n : Int) - 0).toNat = n by omega]
  refine List.map_congr_left fun i _ => ?_
  show V.int (0 + (i : Int)) = V.int (i : Int)
  rw [Int.zero_add]

section
variable {P : Program} {w : World} {K : PySem.W.Frag} {mg : Str → Option Value} {base : Heap}

abbrev sIsOrder : Stmt := top 16
theorem scIsOrder : FnScope ["row", "many"] ["row", "many"] (defScope sIsOrder) := ⟨rfl, rfl, rfl, by decide +kernel, rfl, by decide +kernel, by decide +kernel⟩
def spIsOrder (K : PySem.W.Frag) : Sp := fun vs H Q _ => ∃ (a : Addr) (l : List Nat) (n : Nat), vs = [.ref a, iV n] ∧ SqL K H a (nV l) ∧ l.length < 64 ∧ n ≤ 1000 ∧ ∀ H', Same H H' → Q (.bl (Rc57.each n l)) H'
theorem ok_is_order {f : Addr} {fd : FuncData} (F : Fun K "is_order" "is_order" sIsOrder f fd) (B : Bl mg) : FnOk P w K mg base CX0 1 f fd ["row", "many"] (spIsOrder K) := by
  refine F.ok scIsOrder (fun vs H Q E h => ?_) (fun cdv A outer s H vs Q E hr h => ?_)
  · obtain ⟨a, l, n, rfl, _⟩ := h
    rfl
  · obtain ⟨a, l, n, rfl, hl, h64, hn, q⟩ := h
    refine ⟨_, pss_one (ps_ret (pe_cmpR (op_eqD hr.units) (pe_callB cr_sorted (by rfl) B.sorted boot_sorted (pa_cons (pv 0) pa_nil))
      (pe_listRg rfl (by rfl) B.list (prg_1 (by rfl) B.range (pv 1))) (nomark _))), ?_⟩
    refine ⟨_, rfl, a, l.map fun (x : Nat) => (x : Int), rfl, ?_, by rw [List.length_map]; exact h64, fun ns' p perm rising np => ?_⟩
    · rw [← nV_ints]
      exact hl
    have s1 : Same H (upd H p (.lst (ns'.map V.int))) := same_upd np
    refine ⟨_, rfl, (n : Int), rfl, RgOk.of_le (by omega) (by omega) (by omega) (by omega), fun r nr => ?_⟩
    have npr : p ≠ r := ne_of_none upd_same nr
    refine ⟨.list (ns'.map PyData.int), .list (dN (List.range n)), .lst (SqL.of (by rw [upd_ne npr, upd_same])) (dpAll_ints ns'), dp_nV (SqL.of (by rw [upd_same, rgV_nat])), ints_shaped _, dN_shaped _, ?_⟩
    have e : PyData.eqv (.list (ns'.map PyData.int)) (.list (dN (List.range n))) = Rc57.each n l := by
      rw [dN_ints, ints_eqv, Bool.eq_iff_iff, decide_eq_true_iff]
      exact sorted_iff perm rising
    rw [e]
    exact q _ (s1.updN nr)

abbrev sDearness : Stmt := top 17
theorem scDearness : FnScope ["wishes", "person", "thing"] ["wishes", "person", "thing"] (defScope sDearness) := ⟨rfl, rfl, rfl, by decide +kernel, rfl, by decide +kernel, by decide +kernel⟩
def spDearness : Sp := fun vs H Q _ => ∃ (a : Addr) (ws : List (List Nat)) (i x : Nat), vs = [.ref a, iV i, iV x] ∧ WAt H a ws ∧ i < ws.length ∧ x ∈ Rc57.orderOf ws i ∧ Q (iV ((Rc57.orderOf ws i).idxOf x)) H
theorem idx_nV {l : List Nat} {x : Nat} (h : x ∈ l) : (nV l)[l.idxOf x]? = some (iV x) ∧ eqV (iV x) (iV x) = true ∧ ∀ (m : Nat) (z : V), m < l.idxOf x → (nV l)[m]? = some z → eqV z (iV x) = false := by
  have h1 := List.idxOf_lt_length_of_mem h
  refine ⟨by rw [nV_get h1, getD_idxOf h], beq_self_eq_true (x : Int), fun m z hm hz => ?_⟩
  obtain ⟨hl, rfl⟩ := nV_some hz
  show (((l.getD m 0 : Nat) : Int) == (x : Int)) = false
  refine beq_eq_false_iff_ne.mpr fun e => ?_
  have e2 : l.getD m 0 = x := by omega
  have e3 : l[m] = x := by
    rw [List.getD_eq_getElem?_getD, List.getElem?_eq_getElem hl] at e2
    exact e2
  have := List.not_of_lt_findIdx (p := fun y => y == x) (xs := l) (i := m) hm
  rw [e3] at this
  simp at this
theorem ok_dearness {f : Addr} {fd : FuncData} (F : Fun K "dearness" "dearness" sDearness f fd) : FnOk P w K mg base CX0 1 f fd ["wishes", "person", "thing"] spDearness := by
  refine F.ok scDearness (fun vs H Q E h => ?_) (fun cdv A outer s H vs Q E hr h => ?_)
  · obtain ⟨a, ws, i, x, rfl, _⟩ := h
    rfl
  · obtain ⟨a, ws, i, x, rfl, ⟨rs, h1, h2⟩, hi, hx, q⟩ := h
    refine ⟨_, pss_one (ps_ret (pe_bm PySem.F.plainAttrs_list PySem.F.slot_list_index PySem.F.type_list_index mt_index (pe_ix ix_list (pv 0) (pv 1) (fun _ _ => rfl)) (pa_cons (pv 2) pa_nil))), ?_⟩
    obtain ⟨r, hr1, hr2⟩ := h2.get hi
    obtain ⟨e1, e2, e3⟩ := idx_nV hx
    refine ⟨_, rfl, _, rfl, a, _, (i : Int), .ref r, rfl, rfl, SqL.of h1, atI_nat (refs_get hr1), .inl ⟨rfl, _, SqL.of hr2⟩, ?_⟩
    exact ⟨_, rfl, r, _, iV x, _, iV x, rfl, rfl, SqL.of hr2, rfl, nV_flat _, e1, e2, e3, q⟩

abbrev sDearest : Stmt := top 18
theorem scDearest : FnScope ["wishes", "person", "things", "best", "thing"] ["wishes", "person", "things"] (defScope sDearest) := ⟨rfl, rfl, rfl, by decide +kernel, rfl, by decide +kernel, by decide +kernel⟩
def spDearest (K : PySem.W.Frag) : Sp := fun vs H Q _ => ∃ (a b : Addr) (ws : List (List Nat)) (i : Nat) (ts : List Nat), vs = [.ref a, iV i, .ref b] ∧ WAt H a ws ∧ SqL K H b (nV ts) ∧ i < ws.length ∧ ts ≠ [] ∧ (∀ t ∈ ts, t ∈ Rc57.orderOf ws i) ∧
  Q (iV (dearM (Rc57.orderOf ws i) ts)) H
theorem argmin_more (f : Nat → Nat) {l : List Nat} {j b : Nat} (h : j < l.length) : argmin f (l.take (j + 1)) b = if f (l.getD j 0) < f (argmin f (l.take j) b) then l.getD j 0 else argmin f (l.take j) b := by
  unfold argmin
  rw [take_moreD h, List.foldl_append]
  rfl
theorem ok_dearest {f : Addr} {fd : FuncData} (F : Fun K "dearest" "dearest" sDearest f fd) (C1 : Cal P w K mg base "dearness" 1 ["wishes", "person", "thing"] spDearness) : FnOk P w K mg base CX0 2 f fd ["wishes", "person", "things"] (spDearest K) := by
  refine F.ok scDearest (fun vs H Q E h => ?_) (fun cdv A outer s H vs Q E hr h => ?_)
  · obtain ⟨a, b, ws, i, ts, rfl, _⟩ := h
    rfl
  · obtain ⟨a, b, ws, i, ts, rfl, hw, hb, hi, hne, hts, q⟩ := h
    refine ⟨_, pss_cons (ps_set (i := 3) scDearest.nd rfl (.inl rfl) (pe_ix ix_list (pv 2) pe_int (fun _ _ => rfl)))
      (pss_cons (ps_for PassesOwn.never rfl (pi_list (pv 2)) (pg_name (i := 4) scDearest.nd rfl (.inl rfl))
        (pss_one (ps_if (pt_cmpR op_lt (pe_cal C1 hr (by rfl) (pa_cons (pv 0) (pa_cons (pv 1) (pa_cons (pv 4) pa_nil)))) (pe_cal C1 hr (by rfl) (pa_cons (pv 0) (pa_cons (pv 1) (pa_cons (pv 3) pa_nil)))) (nomark _))
          (pss_one (ps_set (i := 3) scDearest.nd rfl (.inl rfl) (pv 4))) pss_nil)))
      (pss_one (ps_ret (pv 3)))), ?_⟩
    have hpos : 0 < ts.length := List.length_pos_iff.mpr hne
    have hd0 : ts.getD 0 0 = ts.headD 0 := by
      cases ts with
      | nil => rfl
      | cons t r => rfl
    have hmem : ∀ j, j ≤ ts.length → argmin (fun t => (Rc57.orderOf ws i).idxOf t) (ts.take j) (ts.headD 0) ∈ ts := fun j _ => by
      rcases (argmin_spec (fun t => (Rc57.orderOf ws i).idxOf t) (ts.take j) (ts.headD 0)).1 with e | e
      · rw [e, ← hd0]
        exact getD_mem hpos
      · exact List.mem_of_mem_take e
    refine ⟨_, rfl, b, _, 0, _, rfl, rfl, hb, nV_at0 hpos, ?_⟩
    refine ⟨_, rfl, b, rfl, ⟨_, hb⟩, for_list (K := K) (a := b) (xs := nV ts) (fun j σ H' => ∃ v, σ = [some (.ref a), some (iV i), some (.ref b), some (iV (argmin (fun t => (Rc57.orderOf ws i).idxOf t) (ts.take j) (ts.headD 0))), v] ∧ H' = H)
      ⟨none, by rw [hd0]; rfl, rfl⟩ (fun j σ H' _ ⟨_, _, e⟩ => e ▸ hb) ?_ ?_⟩
    · rintro j x σ H' hj ⟨v, rfl, rfl⟩
      obtain ⟨hjl, rfl⟩ := nV_some hj
      refine ⟨_, rfl, _, rfl, _, rfl, a, ws, i, ts.getD j 0, rfl, hw, hi, hts _ (getD_mem hjl), ?_⟩
      refine ⟨_, rfl, _, rfl, _, rfl, a, ws, i, _, rfl, hw, hi, hts _ (hmem j (by omega)), ?_⟩
      refine ⟨_, _, rfl, rfl, _, rfl, ?_⟩
      refine ite2 (fun c => ?_) (fun c => ?_)
      · have c' := of_decide_eq_true c
        refine ⟨_, rfl, some (iV (ts.getD j 0)), ?_, rfl⟩
        rw [argmin_more _ hjl, if_pos (by omega)]
        rfl
      · have c' : ¬ ((((Rc57.orderOf ws i).idxOf (ts.getD j 0) : Nat) : Int) < (((Rc57.orderOf ws i).idxOf (argmin (fun t => (Rc57.orderOf ws i).idxOf t) (ts.take j) (ts.headD 0)) : Nat) : Int)) := fun z => c (decide_eq_true z)
        refine ⟨some (iV (ts.getD j 0)), ?_, rfl⟩
        rw [argmin_more _ hjl, if_neg (by omega)]
        rfl
    · rintro σ H' ⟨v, rfl, rfl⟩
      refine ⟨_, rfl, ?_⟩
      rw [nV_length, List.take_length]
      exact q

abbrev sSuits : Stmt := top 19
theorem scSuits : FnScope ["wishes", "people", "given", "other", "dearer", "person", "now", "was"] ["wishes", "people", "given", "other"] (defScope sSuits) := ⟨rfl, rfl, rfl, by decide +kernel, rfl, by decide +kernel, by decide +kernel⟩
def spSuits (K : PySem.W.Frag) : Sp := fun vs H Q _ => ∃ (a b c d : Addr) (ws : List (List Nat)) (ps g o : List Nat), vs = [.ref a, .ref b, .ref c, .ref d] ∧ WAt H a ws ∧ SqL K H b (nV ps) ∧ SqL K H c (nV g) ∧ SqL K H d (nV o) ∧
  (∀ p ∈ ps, p < ws.length ∧ p < g.length ∧ p < o.length ∧ g.getD p 0 ∈ Rc57.orderOf ws p ∧ o.getD p 0 ∈ Rc57.orderOf ws p) ∧ Q (.bl (suitsM ws g o false ps)) H
theorem drop_moreD {l : List Nat} {i : Nat} (h : i < l.length) : l.drop i = l.getD i 0 :: l.drop (i + 1) := by
  rw [List.drop_eq_getElem_cons h, List.getD_eq_getElem?_getD, List.getElem?_eq_getElem h]
  rfl
theorem suitsM_cons (w : Rc57.Wishes) (g o : List Nat) (d : Bool) (p : Nat) (ps : List Nat) : suitsM w g o d (p :: ps) =
    if (Rc57.orderOf w p).idxOf (o.getD p 0) < (Rc57.orderOf w p).idxOf (g.getD p 0) then false
    else suitsM w g o (d || decide ((Rc57.orderOf w p).idxOf (g.getD p 0) < (Rc57.orderOf w p).idxOf (o.getD p 0))) ps := rfl
theorem ok_suits {f : Addr} {fd : FuncData} (F : Fun K "suits" "suits" sSuits f fd) (C1 : Cal P w K mg base "dearness" 1 ["wishes", "person", "thing"] spDearness) : FnOk P w K mg base CX0 2 f fd ["wishes", "people", "given", "other"] (spSuits K) := by
  refine F.ok scSuits (fun vs H Q E h => ?_) (fun cdv A outer s H vs Q E hr h => ?_)
  · obtain ⟨a, b, c, d, ws, ps, g, o, rfl, _⟩ := h
    rfl
  · obtain ⟨a, b, c, d, ws, ps, g, o, rfl, hw, hb, hc, hd, hps, q⟩ := h
    refine ⟨_, pss_cons (ps_set (i := 4) scSuits.nd rfl (.inl rfl) pe_bl)
      (pss_cons (ps_for PassesOwn.never rfl (pi_list (pv 1)) (pg_name (i := 5) scSuits.nd rfl (.inl rfl))
        (pss_cons (ps_set (i := 6) scSuits.nd rfl (.inl rfl) (pe_cal C1 hr (by rfl) (pa_cons (pv 0) (pa_cons (pv 5) (pa_cons (pe_ix ix_list (pv 2) (pv 5) (fun _ _ => rfl)) pa_nil)))))
        (pss_cons (ps_set (i := 7) scSuits.nd rfl (.inl rfl) (pe_cal C1 hr (by rfl) (pa_cons (pv 0) (pa_cons (pv 5) (pa_cons (pe_ix ix_list (pv 3) (pv 5) (fun _ _ => rfl)) pa_nil)))))
        (pss_cons (ps_if (pt_cmpR op_gt (pv 6) (pv 7) (nomark _)) (pss_one (ps_ret pe_bl)) pss_nil)
        (pss_one (ps_if (pt_cmpR op_lt (pv 6) (pv 7) (nomark _)) (pss_one (ps_set (i := 4) scSuits.nd rfl (.inl rfl) pe_bl)) pss_nil))))))
      (pss_one (ps_ret (pv 4)))), ?_⟩
    refine ⟨_, rfl, b, rfl, ⟨_, hb⟩, for_list (K := K) (a := b) (xs := nV ps) (fun j σ H' => ∃ k v6 v7 v8, σ = [some (.ref a), some (.ref b), some (.ref c), some (.ref d), some (.bl k), v6, v7, v8] ∧ suitsM ws g o false ps = suitsM ws g o k (ps.drop j) ∧ H' = H)
      ⟨false, none, none, none, rfl, rfl, rfl⟩ (fun j σ H' _ ⟨_, _, _, _, _, _, e⟩ => e ▸ hb) ?_ ?_⟩
    · rintro j x σ H' hj ⟨k, v6, v7, v8, rfl, hs, rfl⟩
      obtain ⟨hjl, rfl⟩ := nV_some hj
      obtain ⟨p1, p2, p3, p4, p5⟩ := hps _ (getD_mem hjl)
      rw [drop_moreD hjl, suitsM_cons] at hs
      generalize ps.getD j 0 = p at *
      refine ⟨_, rfl, _, rfl, _, rfl, _, rfl, c, _, (p : Int), _, rfl, rfl, hc, nV_at p2, a, ws, p, g.getD p 0, rfl, hw, p1, p4, ?_⟩
      refine ⟨_, rfl, _, rfl, _, rfl, _, rfl, d, _, (p : Int), _, rfl, rfl, hd, nV_at p3, a, ws, p, o.getD p 0, rfl, hw, p1, p5, ?_⟩
      refine ⟨_, rfl, _, rfl, _, _, rfl, rfl, _, rfl, ?_⟩
      refine ite2 (fun z => ?_) (fun z => ?_)
      · have z' := of_decide_eq_true z
        rw [if_pos (by omega)] at hs
        show Q (.bl false) H'
        rw [← hs]
        exact q
      · have z' : ¬ ((((Rc57.orderOf ws p).idxOf (o.getD p 0) : Nat) : Int) < (((Rc57.orderOf ws p).idxOf (g.getD p 0) : Nat) : Int)) := fun y => z (decide_eq_true y)
        rw [if_neg (by omega)] at hs
        refine ⟨_, rfl, _, rfl, _, _, rfl, rfl, _, rfl, ?_⟩
        refine ite2 (fun y => ?_) (fun y => ?_)
        · have y' := of_decide_eq_true y
          refine ⟨true, _, _, _, rfl, ?_, rfl⟩
          rw [hs, decide_eq_true (show (Rc57.orderOf ws p).idxOf (g.getD p 0) < (Rc57.orderOf ws p).idxOf (o.getD p 0) by omega), Bool.or_true]
        · have y' : ¬ ((((Rc57.orderOf ws p).idxOf (g.getD p 0) : Nat) : Int) < (((Rc57.orderOf ws p).idxOf (o.getD p 0) : Nat) : Int)) := fun z => y (decide_eq_true z)
          refine ⟨k, _, _, _, rfl, ?_, rfl⟩
          rw [hs, decide_eq_false (show ¬ (Rc57.orderOf ws p).idxOf (g.getD p 0) < (Rc57.orderOf ws p).idxOf (o.getD p 0) by omega), Bool.or_false]
    · rintro σ H' ⟨k, v6, v7, v8, rfl, hs, rfl⟩
      refine ⟨_, rfl, ?_⟩
      rw [nV_length, List.drop_length] at hs
      have hs' : suitsM ws g o false ps = k := hs
      rw [← hs']
      exact q
end
end Wg

/-! gifts.py: orders and what walks them -/
namespace Wg
open PySem PySem.Spec PyProof.Rows L2

/-! ### ranges from 0 -/
theorem for_rangeN {n : Nat} {g : TG} {tb : TS} {D : Ends} {σ : L2.St} {H : Hp} (Pv : Nat → L2.St → Hp → Prop) (h0 : Pv 0 σ H)
    (hs : ∀ i σ H, i < n → Pv i σ H → g (iV i) σ H fun σ2 H2 => tb { D with nx := Pv (i + 1), ct := Pv (i + 1), bk := D.nx } σ2 H2) (hd : ∀ σ H, Pv n σ H → D.nx σ H) :
    ∃ W : Nat → Nat → L2.St → Hp → Prop, (∃ m, W 0 m σ H) ∧ ∀ i m σ H, W i m σ H →
      ((Itr 0 n).stop i H ∧ D.nx σ H) ∨ ((Itr 0 n).go i H ∧ ∃ N : L2.St → Hp → Prop, (∀ σ' H', N σ' H' → ∃ m', m' < m ∧ W (i + 1) m' σ' H') ∧ ∀ x H', (Itr 0 n).yld i H x H' → g x σ H' fun σ2 H2 => tb { D with nx := N, ct := N, bk := D.nx } σ2 H2) :=
  for_range (lo := 0) (n := n) Pv h0 (fun i σ H hi p => by rw [Int.zero_add]; exact hs i σ H hi p) hd
theorem lc_rangeN {n : Nat} {g : TG} {tt : TT} {te : TE} {vs : List Nat} {σ : L2.St} {H1 : Hp} {D : Addr} {Qd : Hp → Prop} (Pv : Nat → Hp → Prop) (h0 : Pv 0 (upd H1 D (.lst [])))
    (hs : ∀ i H, i < n → Pv i H → g (iV i) (wipe σ vs) H fun σ2 H2 => wipe σ2 vs = wipe σ vs ∧ tt σ2 H2 fun b H3 =>
      if b = true then te σ2 H3 fun y H4 => ∃ acc, H4 D = some (.lst acc) ∧ acc.length < sizeLine ∧ Pv (i + 1) (upd H4 D (.lst (acc ++ [y]))) else Pv (i + 1) H3) (hd : ∀ H, Pv n H → Qd H) :
    ∃ W : Nat → Nat → Hp → Prop, (∃ m, W 0 m (upd H1 D (.lst []))) ∧ ∀ i m H, W i m H →
      ((Itr 0 n).stop i H ∧ Qd H) ∨ ((Itr 0 n).go i H ∧ ∃ Nx : Hp → Prop, (∀ H', Nx H' → ∃ m', m' < m ∧ W (i + 1) m' H') ∧ ∀ x H', (Itr 0 n).yld i H x H' → g x (wipe σ vs) H' fun σ2 H2 => wipe σ2 vs = wipe σ vs ∧ tt σ2 H2 fun b H3 =>
        if b = true then te σ2 H3 fun y H4 => ∃ acc, H4 D = some (.lst acc) ∧ acc.length < sizeLine ∧ Nx (upd H4 D (.lst (acc ++ [y]))) else Nx H3) :=
  lc_range (lo := 0) (n := n) Pv h0 (fun i H hi p => by rw [Int.zero_add]; exact hs i H hi p) hd

section
variable {P : Program} {w : World} {K : PySem.W.Frag} {mg : Str → Option Value} {base : Heap}

abbrev sOrders : Stmt := top 15
theorem scOrders : FnScope ["many", "found", "step", "longer", "row", "one"] ["many"] (defScope sOrders) := ⟨rfl, rfl, rfl, by decide +kernel, rfl, by decide +kernel, by decide +kernel⟩
def spOrders : Sp := fun vs H Q _ => ∃ n : Nat, vs = [iV n] ∧ n ≤ 5 ∧ ∀ a H', Same H H' → WAt H' a (ordersM n) → Q (.ref a) H'
theorem ordersUpTo_small {n i : Nat} (hn : n ≤ 5) (hi : i ≤ n) : (ordersUpTo n i).length * n ≤ 20000 := by
  have h1 := ordersUpTo_len n i
  have h2 : n ^ i ≤ 5 ^ i := Nat.pow_le_pow_left hn i
  have h3 : 5 ^ i ≤ 5 ^ 5 := Nat.pow_le_pow_right (by decide) (by omega)
  have h4 : (ordersUpTo n i).length ≤ 3125 := Nat.le_trans h1 (Nat.le_trans h2 h3)
  exact Nat.le_trans (Nat.mul_le_mul h4 hn) (by decide)
theorem ordersUpTo_row (n : Nat) : ∀ (k : Nat) (row : List Nat), row ∈ ordersUpTo n k → row.length = k
  | 0, row, h => by
    have h' : row ∈ [([] : List Nat)] := h
    rw [List.mem_singleton.mp h']
    rfl
  | k + 1, row, h => by
    have h' : row ∈ (ordersUpTo n k).flatMap (longerM n) := h
    obtain ⟨r, hr, hm⟩ := List.mem_flatMap.mp h'
    unfold longerM at hm
    obtain ⟨o, _, rfl⟩ := List.mem_map.mp hm
    rw [List.length_append, ordersUpTo_row n k r hr]
    rfl
theorem getD_mem' {α : Type} {l : List α} {i : Nat} {d : α} (h : i < l.length) : l.getD i d ∈ l := by
  rw [List.getD_eq_getElem?_getD, List.getElem?_eq_getElem h]
  exact List.getElem_mem _
theorem longer_more {n i : Nat} {row : List Nat} (c : row.contains i = false) : (((List.range (i + 1)).filter fun o => !row.contains o).map fun o => row ++ [o]) = (((List.range i).filter fun o => !row.contains o).map fun o => row ++ [o]) ++ [row ++ [i]] := by
  rw [List.range_succ, List.filter_append, List.map_append]
  congr 1
  rw [List.filter_cons_of_pos (by rw [c]; rfl), List.filter_nil]
  rfl
theorem longer_less {n i : Nat} {row : List Nat} (c : row.contains i = true) : (((List.range (i + 1)).filter fun o => !row.contains o).map fun o => row ++ [o]) = (((List.range i).filter fun o => !row.contains o).map fun o => row ++ [o]) := by
  rw [List.range_succ, List.filter_append, List.map_append, List.filter_cons_of_neg (by rw [c]; exact Bool.false_ne_true), List.filter_nil, List.map_nil, List.append_nil]
theorem flatMap_more {l : List (List Nat)} {j : Nat} {f : List Nat → List (List Nat)} (h : j < l.length) : (l.take (j + 1)).flatMap f = (l.take j).flatMap f ++ f (l.getD j []) := by
  have e : l[j]? = some (l.getD j []) := by
    rw [List.getD_eq_getElem?_getD, List.getElem?_eq_getElem h]
    rfl
  rw [take_more e, List.flatMap_append, List.flatMap_cons, List.flatMap_nil, List.append_nil]
theorem ok_orders {f : Addr} {fd : FuncData} (F : Fun K "orders" "orders" sOrders f fd) (B : Bl mg) : FnOk P w K mg base CX0 1 f fd ["many"] spOrders := by
  refine F.ok scOrders (fun vs H Q E h => ?_) (fun cdv A outer s H vs Q E hr h => ?_)
  · obtain ⟨n, rfl, _⟩ := h
    rfl
  · obtain ⟨n, rfl, hn, q⟩ := h
    refine ⟨_, pss_cons (ps_set (i := 1) scOrders.nd rfl (.inl rfl) (pe_lst (pa_cons (pe_lst pa_nil) pa_nil)))
      (pss_cons (ps_for PassesOwn.never rfl (pi_range1 (by rfl) B.range (pa_cons (pv 0) pa_nil)) (pg_name (i := 2) scOrders.nd rfl (.inl rfl))
        (pss_cons (ps_set (i := 3) scOrders.nd rfl (.inl rfl) (pe_lst pa_nil))
        (pss_cons (ps_for PassesOwn.never rfl (pi_list (pv 1)) (pg_name (i := 4) scOrders.nd rfl (.inr rfl))
          (pss_one (ps_expr (pe_bm PySem.F.plainAttrs_list PySem.F.slot_list_extend PySem.F.type_list_extend mt_extend (pv 3) (pa_cons
            (pe_lc (own := [("one", 5)]) (g := gName 5) (by rfl) scOrders.nd (pi_range1 (by rfl) B.range (pa_cons (pv 0) pa_nil)) (blkOk_by (own := [("one", 5)]) (N := ["many", "found", "step", "longer", "row", "one"]) (sc := defScope sOrders) (by decide +kernel))
              (fun _ _ _ _ _ => pg_name (i := 5) scOrders.nd rfl (Or.inl rfl))
              (fun _ _ _ _ _ => pts_one (pt_cmpR (r := rIn K true) op_notIn_seq (pv 5) (pv 4) (by rfl)))
              (fun _ _ _ _ _ => pe_op op_cat (pv 4) (pe_lst (pa_cons (pv 5) pa_nil)))) pa_nil)))))
        (pss_one (ps_set (i := 1) scOrders.nd rfl (.inl rfl) (pv 3))))))
      (pss_one (ps_ret (pv 1)))), ?_⟩
    refine ⟨Nat.zero_le _, fun e ne => ⟨by show 1 ≤ sizeLine; decide, fun f0 nf => ?_⟩⟩
    have s0 : Same H (upd (upd H e (.lst [])) f0 (.lst [.ref e])) := (same_upd ne).updN nf
    have w0 : WAt (upd (upd H e (.lst [])) f0 (.lst [.ref e])) f0 (ordersUpTo n 0) := ⟨[e], upd_same, by rw [upd_ne (ne_of_none upd_same nf)]; exact upd_same, trivial⟩
    refine ⟨_, rfl, (n : Int), rfl, by omega, by omega, for_rangeN (n := n) (fun i σ H' => ∃ fa v2 v3 v4, σ = [some (iV n), some (.ref fa), v2, v3, v4, none] ∧ Same H H' ∧ WAt H' fa (ordersUpTo n i)) ⟨f0, none, none, none, rfl, s0, w0⟩ ?_ ?_⟩
    · rintro i σ H1 hi ⟨fa, v2, v3, v4, rfl, s1, rs, hfa, hrs⟩
      refine ⟨Nat.zero_le _, fun lo nlo => ?_⟩
      have hfa' : SqL K (upd H1 lo (.lst [])) fa (rs.map V.ref) := (same_upd nlo).seq (SqL.of hfa)
      have hlen : rs.length = (ordersUpTo n i).length := hrs.len
      refine ⟨_, rfl, fa, rfl, ⟨_, hfa'⟩, for_list (K := K) (a := fa) (xs := rs.map V.ref) (fun j σ H' => ∃ v4 ls, σ = [some (iV n), some (.ref fa), some (iV i), some (.ref lo), v4, none] ∧ Same H1 H' ∧ H' lo = some (.lst (ls.map V.ref)) ∧ RowsAt H' ls (((ordersUpTo n i).take j).flatMap (longerM n)) ∧ ∀ r ∈ ls, r ≠ lo)
        ⟨v4, [], rfl, same_upd nlo, upd_same, trivial, fun r hr => absurd hr (by simp)⟩ (fun j σ H' _ ⟨_, _, _, s2, _⟩ => s2.seq (SqL.of hfa)) ?_ ?_⟩
      · rintro j x σ H2 hj ⟨v4, ls, rfl, s2, hlo, hls, nls⟩
        obtain ⟨r, hr1, rfl⟩ := refs_some hj
        obtain ⟨hjl, hrow0⟩ := hrs.item hr1
        have hrow : H2 r = some (.lst (nV ((ordersUpTo n i).getD j []))) := s2 _ _ hrow0
        rw [flatMap_more hjl]
        have hcnt : (((ordersUpTo n i).take j).flatMap (longerM n)).length + n ≤ 20000 := by
          have h1 := flatMap_len n ((ordersUpTo n i).take j)
          have h2 : ((ordersUpTo n i).take j).length + 1 ≤ (ordersUpTo n i).length := by
            rw [List.length_take]
            omega
          have h3 := Nat.mul_le_mul_right n h2
          have h4 := ordersUpTo_small hn (Nat.le_of_lt hi)
          rw [Nat.succ_mul] at h3
          omega
        have hrl := ordersUpTo_row n i _ (getD_mem' (d := []) hjl)
        generalize (ordersUpTo n i).getD j [] = row at *
        refine ⟨_, rfl, .inl ⟨rfl, _, SqL.of hlo⟩, ?_⟩
        refine ⟨_, rfl, (n : Int), rfl, by omega, by omega, fun D nD => lc_rangeN (n := n) (fun i' H' => ∃ ds, H' D = some (.lst (ds.map V.ref)) ∧ RowsAt H' ds (((List.range i').filter fun o => !row.contains o).map fun o => row ++ [o]) ∧ Same H2 H' ∧ ∀ r ∈ ds, H2 r = none ∧ r ≠ D)
          ⟨[], upd_same, trivial, same_upd nD, fun r hr => absurd hr (by simp)⟩ ?_ ?_⟩
        · rintro i' H3 hi' ⟨ds, hD, hds, s3, nds⟩
          refine ⟨rfl, ?_⟩
          have hrow3 : H3 r = some (.lst (nV row)) := s3 _ _ hrow
          refine ⟨_, rfl, _, rfl, r, nV row, rfl, .inl (SqL.of hrow3), rfl, nV_flat _, _, rfl, ?_⟩
          rw [show (if true = true then !inV (iV i') (nV row) else inV (iV i') (nV row)) = !row.contains i' by rw [if_pos rfl, in_nV]]
          cases c : row.contains i' with
          | true =>
            refine iteF ?_
            exact ⟨ds, hD, by rw [longer_less (n := n) c]; exact hds, s3, nds⟩
          | false =>
            refine iteT ?_
            refine ⟨_, rfl, _, rfl, by show 1 ≤ sizeLine; decide, fun o no => ?_⟩
            have hDo : D ≠ o := ne_of_none hD no
            refine ⟨r, o, nV row, [iV i'], rfl, rfl, (same_upd no) _ _ hrow3, upd_same, ?_, fun p np => ?_⟩
            · refine size_ok ?_
              rw [nV_length]
              show row.length + 1 ≤ 1000000
              omega
            · have np3 : H3 p = none := (same_upd no).free np
              have hDp : D ≠ p := ne_of_none hD np3
              have hD2 : upd (upd H3 o (.lst [iV i'])) p (.lst (nV row ++ [iV i'])) D = some (.lst (ds.map V.ref)) := by
                rw [upd_ne hDp, upd_ne hDo]
                exact hD
              have s4 : Same H3 (upd (upd H3 o (.lst [iV i'])) p (.lst (nV row ++ [iV i']))) := (same_upd no).updN np
              have p2 : H2 p = none := s3.free np3
              refine ⟨_, hD2, ?_, ds ++ [p], ?_, ?_, ?_, ?_⟩
              · rw [List.length_map, hds.len, List.length_map]
                refine size_lt (Nat.le_trans (List.length_filter_le ..) ?_)
                rw [List.length_range]
                omega
              · rw [upd_same, List.map_append]
                rfl
              · rw [longer_more (n := n) c]
                refine RowsAt.append ?_ ⟨?_, trivial⟩
                · refine RowsAt.keep (fun r hr o' ho' => ?_) (hds.same s4)
                  rw [upd_ne (nds r hr).2]
                  exact ho'
                · rw [upd_ne hDp.symm, upd_same, nV_append]
                  rfl
              · exact (s3.trans s4).putN nD
              · intro r hr
                rcases List.mem_append.mp hr with hr | hr
                · exact nds r hr
                · obtain rfl := List.mem_singleton.mp hr
                  exact ⟨p2, hDp.symm⟩
        · rintro H3 ⟨ds, hD, hds, s3, nds⟩
          have hlo3 : H3 lo = some (.lst (ls.map V.ref)) := s3 _ _ hlo
          have nlD : D ≠ lo := fun z => by
            rw [z, hlo] at nD
            cases nD
          refine ⟨lo, D, _, _, rfl, rfl, hlo3, hD, ?_, ?_⟩
          · rw [List.length_map, List.length_map, hls.len, hds.len]
            refine size_ok ?_
            have h1 := longerM_len n row
            unfold longerM at h1
            omega
          · have ndl : ∀ r ∈ ds, r ≠ lo := fun r hr z => by
              have h0 := (nds r hr).1
              rw [z, hlo] at h0
              cases h0
            refine ⟨some (.ref r), ls ++ ds, rfl, ?_, by rw [upd_same, List.map_append], RowsAt.append ?_ ?_, ?_⟩
            · exact (s2.trans s3).putN nlo
            · refine RowsAt.keep (fun r hr o' ho' => ?_) (hls.same s3)
              rw [upd_ne (nls r hr)]
              exact ho'
            · refine RowsAt.keep (fun r hr o' ho' => ?_) hds
              rw [upd_ne (ndl r hr)]
              exact ho'
            · intro r hr
              rcases List.mem_append.mp hr with hr | hr
              · exact nls r hr
              · exact ndl r hr
      · rintro σ H2 ⟨v4, ls, rfl, s2, hlo, hls, nls⟩
        refine ⟨_, rfl, lo, _, _, _, rfl, s1.trans s2, ls, hlo, ?_⟩
        rw [List.length_map, hlen, List.take_length] at hls
        exact hls
    · rintro σ H1 ⟨fa, v2, v3, v4, rfl, s1, w1⟩
      exact ⟨_, rfl, q fa H1 s1 w1⟩
end
end Wg

/-! gifts.py: is_good, in_turn, first_order -/
namespace Wg
open PySem PySem.Spec PyProof.Rows L2

theorem Gd.get {n : Nat} {ws : List (List Nat)} (g : Gd n ws) {i x : Nat} (hi : i < n) (hx : x < n) : x ∈ Rc57.orderOf ws i := (g.mem hi).mpr hx
theorem WAt.sql {H : Hp} {a : Addr} {ws : List (List Nat)} (h : WAt H a ws) : ∃ rs : List Addr, H a = some (.lst (rs.map V.ref)) ∧ RowsAt H rs ws ∧ rs.length = ws.length := by
  obtain ⟨rs, h1, h2⟩ := h
  exact ⟨rs, h1, h2, h2.len⟩
theorem any_take {α : Type} {p : α → Bool} {l : List α} {j : Nat} {d : α} (h : j < l.length) : (l.take (j + 1)).any p = ((l.take j).any p || p (l.getD j d)) := by
  have e : l[j]? = some (l.getD j d) := by
    rw [List.getD_eq_getElem?_getD, List.getElem?_eq_getElem h]
    rfl
  rw [take_more e, List.any_append, List.any_cons, List.any_nil, Bool.or_false]
theorem any_of_at {α : Type} {p : α → Bool} {l : List α} {j : Nat} {d : α} (h : j < l.length) (hp : p (l.getD j d) = true) : l.any p = true :=
  List.any_eq_true.mpr ⟨_, getD_mem' h, hp⟩

section
variable {P : Program} {w : World} {K : PySem.W.Frag} {mg : Str → Option Value} {base : Heap}

abbrev sIsGood : Stmt := top 20
theorem scIsGood : FnScope ["wishes", "given", "people", "other"] ["wishes", "given"] (defScope sIsGood) := ⟨rfl, rfl, rfl, by decide +kernel, rfl, by decide +kernel, by decide +kernel⟩
def spIsGood (K : PySem.W.Frag) : Sp := fun vs H Q _ => ∃ (a b : Addr) (n : Nat) (ws : List (List Nat)) (g : List Nat), vs = [.ref a, .ref b] ∧ WAt H a ws ∧ Gd n ws ∧ n ≤ 5 ∧ SqL K H b (nV g) ∧ Rc57.each n g = true ∧ ∀ H', Same H H' → Q (.bl (goodM ws g)) H'
theorem ok_is_good {f : Addr} {fd : FuncData} (F : Fun K "is_good" "is_good" sIsGood f fd) (B : Bl mg) (C1 : Cal P w K mg base "orders" 1 ["many"] spOrders)
    (C2 : Cal P w K mg base "suits" 2 ["wishes", "people", "given", "other"] (spSuits K)) : FnOk P w K mg base CX0 3 f fd ["wishes", "given"] (spIsGood K) := by
  refine F.ok scIsGood (fun vs H Q E h => ?_) (fun cdv A outer s H vs Q E hr h => ?_)
  · obtain ⟨a, b, n, ws, g, rfl, _⟩ := h
    rfl
  · obtain ⟨a, b, n, ws, g, rfl, hw, hg, hn, hb, he, q⟩ := h
    have hr1 : Room 1 _ := hr.mono (by decide)
    refine ⟨_, pss_cons (ps_set (i := 2) scIsGood.nd rfl (.inl rfl) (pe_listRg rfl (by rfl) B.list (prg_1 (by rfl) B.range (pe_callB call_len_seq (by rfl) B.len PySem.boot_len (pa_cons (pv 0) pa_nil)))))
      (pss_cons (ps_for PassesOwn.never rfl (pi_list (pe_cal C1 hr1 (by rfl) (pa_cons (pe_callB call_len_seq (by rfl) B.len PySem.boot_len (pa_cons (pv 0) pa_nil)) pa_nil))) (pg_name (i := 3) scIsGood.nd rfl (.inl rfl))
        (pss_one (ps_if (pt_val (pe_cal C2 hr (by rfl) (pa_cons (pv 0) (pa_cons (pv 2) (pa_cons (pv 3) (pa_cons (pv 1) pa_nil)))))) (pss_one (ps_ret pe_bl)) pss_nil)))
      (pss_one (ps_ret pe_bl))), ?_⟩
    obtain ⟨rs, hw1, hw2, hw3⟩ := hw.sql
    have hlen : (rs.map V.ref).length = n := by rw [List.length_map, hw3, hg.len]
    refine ⟨_, rfl, a, _, rfl, .inl (SqL.of hw1), ?_⟩
    rw [hlen]
    refine ⟨(n : Int), rfl, RgOk.of_le (by omega) (by omega) (by omega) (by omega), fun pp np => ?_⟩
    have s1 : Same H (upd H pp (.lst (rgV 0 (n : Int)))) := same_upd np
    have hpp : (upd H pp (.lst (rgV 0 (n : Int)))) pp = some (.lst (nV (List.range n))) := by rw [upd_same, rgV_nat]
    refine ⟨_, rfl, a, _, rfl, .inl (SqL.of (s1 _ _ hw1)), ?_⟩
    rw [hlen]
    refine ⟨n, rfl, hn, fun oa H2 s2 ⟨os, ho1, ho2⟩ => ?_⟩
    have s3 := s1.trans s2
    refine ⟨oa, rfl, ⟨_, SqL.of ho1⟩, for_list (K := K) (a := oa) (xs := os.map V.ref) (fun j σ H' => ∃ v, σ = [some (.ref a), some (.ref b), some (.ref pp), v] ∧ H' = H2 ∧ ((ordersM n).take j).any (fun other => suitsM ws other g false (List.range n)) = false)
      ⟨none, rfl, rfl, rfl⟩ (fun j σ H' _ ⟨_, _, e, _⟩ => e ▸ SqL.of ho1) ?_ ?_⟩
    · rintro j x σ H' hj ⟨v, rfl, rfl, hno⟩
      obtain ⟨r, hr1, rfl⟩ := refs_some hj
      obtain ⟨hjl, hrow⟩ := ho2.item hr1
      have heach := orders_each n hn _ (getD_mem' (d := []) hjl)
      have hgl := each_len he
      refine ⟨_, rfl, _, rfl, _, rfl, _, rfl, a, pp, r, b, ws, List.range n, _, g, rfl, hw.same s3, SqL.of (s2 _ _ hpp), SqL.of hrow, s3.seq hb, fun p hp => ?_, ?_⟩
      · have hpn := List.mem_range.mp hp
        exact ⟨by rw [hg.len]; exact hpn, by rw [each_len heach]; exact hpn, by rw [hgl]; exact hpn, hg.get hpn (getD_lt heach hpn), hg.get hpn (getD_lt he hpn)⟩
      · refine ⟨_, rfl, ?_⟩
        cases c : suitsM ws ((ordersM n).getD j []) g false (List.range n) with
        | true =>
          refine iteT ?_
          have e : goodM ws g = false := by
            unfold goodM
            rw [hg.len, any_of_at (d := []) hjl c]
            rfl
          show Q (.bl false) _
          rw [← e]
          exact q _ s3
        | false =>
          refine iteF ?_
          exact ⟨_, rfl, rfl, by rw [any_take (d := []) hjl, hno, c]; rfl⟩
    · rintro σ H' ⟨v, rfl, rfl, hno⟩
      have hl : (os.map V.ref).length = (ordersM n).length := by rw [List.length_map, ho2.len]
      rw [hl, List.take_length] at hno
      have e : goodM ws g = true := by
        unfold goodM
        rw [hg.len, hno]
        rfl
      show Q (.bl true) _
      rw [← e]
      exact q _ s3

abbrev sInTurn : Stmt := top 21
theorem scInTurn : FnScope ["wishes", "order", "left", "person", "given", "thing"] ["wishes", "order"] (defScope sInTurn) := ⟨rfl, rfl, rfl, by decide +kernel, rfl, by decide +kernel, by decide +kernel⟩
def spInTurn (K : PySem.W.Frag) : Sp := fun vs H Q _ => ∃ (a b : Addr) (n : Nat) (ws : List (List Nat)) (o : List Nat), vs = [.ref a, .ref b] ∧ WAt H a ws ∧ Gd n ws ∧ n ≤ 5 ∧ SqL K H b (nV o) ∧ Rc57.each n o = true ∧
  ∀ p H', Same H H' → H' p = some (.lst (nV (inTurnM ws o))) → Q (.ref p) H'
theorem map_eraseIdx' {α β : Type} (f : α → β) : ∀ (l : List α) (i : Nat), (l.map f).eraseIdx i = (l.eraseIdx i).map f
  | [], _ => rfl
  | _ :: _, 0 => rfl
  | x :: l, i + 1 => by
    show f x :: (l.map f).eraseIdx i = f x :: (l.eraseIdx i).map f
    rw [map_eraseIdx' f l i]
theorem erase_idx (l : List Nat) (x : Nat) : l.erase x = l.eraseIdx (l.idxOf x) := List.erase_eq_eraseIdx_of_idxOf rfl
theorem fold_more {α : Type} (f : α → Nat → α) (a : α) {l : List Nat} {j : Nat} (h : j < l.length) : (l.take (j + 1)).foldl f a = f ((l.take j).foldl f a) (l.getD j 0) := by
  rw [take_moreD h, List.foldl_append]
  rfl
theorem turn_left (w : Rc57.Wishes) : ∀ (o : List Nat) (s : List Nat × List Nat), s.1.Nodup → o.length ≤ s.1.length → (o.foldl (turnM w) s).1.Nodup ∧ (o.foldl (turnM w) s).1.length = s.1.length - o.length ∧ (∀ x ∈ (o.foldl (turnM w) s).1, x ∈ s.1) ∧ (o.foldl (turnM w) s).2.length = s.2.length
  | [], s, h, _ => ⟨h, rfl, fun _ h => h, rfl⟩
  | i :: o, s, h, hl => by
    have hne : s.1 ≠ [] := by
      intro z
      rw [z] at hl
      simp at hl
    have hm := dearM_mem (row := Rc57.orderOf w i) hne
    have e1 : (turnM w s i).1.length = s.1.length - 1 := List.length_erase_of_mem hm
    rw [List.length_cons] at hl
    obtain ⟨h1, h2, h3, h4⟩ := turn_left w o (turnM w s i) (h.erase _) (by omega)
    refine ⟨h1, ?_, fun x hx => List.mem_of_mem_erase (h3 x hx), ?_⟩
    · show (o.foldl (turnM w) (turnM w s i)).1.length = _
      rw [h2, e1, List.length_cons]
      omega
    · show (o.foldl (turnM w) (turnM w s i)).2.length = _
      rw [h4]
      exact List.length_set ..
theorem ok_in_turn {f : Addr} {fd : FuncData} (F : Fun K "in_turn" "in_turn" sInTurn f fd) (B : Bl mg) (C1 : Cal P w K mg base "dearest" 2 ["wishes", "person", "things"] (spDearest K)) : FnOk P w K mg base CX0 3 f fd ["wishes", "order"] (spInTurn K) := by
  refine F.ok scInTurn (fun vs H Q E h => ?_) (fun cdv A outer s H vs Q E hr h => ?_)
  · obtain ⟨a, b, n, ws, g, rfl, _⟩ := h
    rfl
  · obtain ⟨a, b, n, ws, o, rfl, hw, hg, hn, hb, he, q⟩ := h
    refine ⟨_, pss_cons (ps_set (i := 2) scInTurn.nd rfl (.inl rfl) (pe_listRg rfl (by rfl) B.list (prg_1 (by rfl) B.range (pe_callB call_len_seq (by rfl) B.len PySem.boot_len (pa_cons (pv 0) pa_nil)))))
      (pss_cons (ps_setLc (i := 4) (own := [("person", 3)]) (g := gName 3) (tt := tYes) (te := tC (.int 0)) (by rfl) scInTurn.nd rfl rfl (sw_true rfl rfl rfl (by decide +kernel)) (pi_list (pv 1)) (blkOk_by (own := [("person", 3)]) (N := ["wishes", "order", "left", "person", "given", "thing"]) (sc := defScope sInTurn) (by decide +kernel))
          (fun _ _ _ _ _ => pg_name (i := 3) scInTurn.nd rfl (Or.inl rfl)) (fun _ _ _ _ _ => pts_nil) (fun _ _ _ _ _ => pe_int))
      (pss_cons (ps_for PassesOwn.never rfl (pi_list (pv 1)) (pg_name (i := 3) scInTurn.nd rfl (.inl rfl))
        (pss_cons (ps_set (i := 5) scInTurn.nd rfl (.inl rfl) (pe_cal C1 hr (by rfl) (pa_cons (pv 0) (pa_cons (pv 3) (pa_cons (pv 2) pa_nil)))))
        (pss_cons (ps_asg (pv 5) (pg_sub (pv 4) (pv 3) set_list))
        (pss_one (ps_expr (pe_bm PySem.F.plainAttrs_list PySem.F.slot_list_remove PySem.F.type_list_remove mt_remove (pv 2) (pa_cons (pv 5) pa_nil)))))))
      (pss_one (ps_ret (pv 4))))), ?_⟩
    obtain ⟨rs, hw1, hw2, hw3⟩ := hw.sql
    have hlen : (rs.map V.ref).length = n := by rw [List.length_map, hw3, hg.len]
    have hol := each_len he
    refine ⟨_, rfl, a, _, rfl, .inl (SqL.of hw1), ?_⟩
    rw [hlen]
    refine ⟨(n : Int), rfl, RgOk.of_le (by omega) (by omega) (by omega) (by omega), fun lf nlf => ?_⟩
    have s1 : Same H (upd H lf (.lst (rgV 0 (n : Int)))) := same_upd nlf
    refine ⟨_, rfl, b, rfl, ⟨_, s1.seq hb⟩, fun D nD => ?_⟩
    have hlD : lf ≠ D := ne_of_none upd_same nD
    have nD0 : H D = none := s1.free nD
    refine lc_list (K := K) (a := b) (xs := nV o) (fun i H' => Same H H' ∧ H' lf = some (.lst (nV (List.range n))) ∧ H' D = some (.lst (nV (List.replicate i 0))))
      ⟨s1.updN nD, by rw [upd_ne hlD, upd_same, rgV_nat], by rw [upd_same]; rfl⟩ (fun i H' _ ⟨s2, _, _⟩ => s2.seq hb) ?_ ?_
    · rintro i x H' hi ⟨s2, h1, h2⟩
      obtain ⟨hil, rfl⟩ := nV_some hi
      refine ⟨rfl, iteT (B := True) ⟨_, h2, ?_, s2.putN nD0, ?_, ?_⟩⟩
      · rw [nV_length, List.length_replicate]
        exact size_lt (by omega)
      · rw [upd_ne hlD]
        exact h1
      · rw [upd_same, List.replicate_succ', nV_append]
        rfl
    · rintro H1 ⟨s2, h1, h2⟩
      rw [nV_length] at h2
      have hnd : (List.range ws.length, List.replicate o.length 0).1.Nodup := List.nodup_range
      refine ⟨_, rfl, b, rfl, ⟨_, s2.seq hb⟩, for_list (K := K) (a := b) (xs := nV o) (fun j σ H' => ∃ v3 v5, σ = [some (.ref a), some (.ref b), some (.ref lf), v3, some (.ref D), v5] ∧ Same H H' ∧ H' lf = some (.lst (nV ((o.take j).foldl (turnM ws) (List.range ws.length, List.replicate o.length 0)).1)) ∧
          H' D = some (.lst (nV ((o.take j).foldl (turnM ws) (List.range ws.length, List.replicate o.length 0)).2)))
        ⟨none, none, rfl, s2, by rw [hg.len]; exact h1, h2⟩ (fun i σ H' _ ⟨_, _, _, s3, _⟩ => s3.seq hb) ?_ ?_⟩
      · rintro j x σ H' hj ⟨v3, v5, rfl, s3, h3, h4⟩
        obtain ⟨hjl, rfl⟩ := nV_some hj
        rw [fold_more _ _ hjl]
        have htl : (o.take j).length = j := by
          rw [List.length_take]
          omega
        obtain ⟨t1, t2, t3, t4⟩ := turn_left ws (o.take j) (List.range ws.length, List.replicate o.length 0) hnd (by rw [htl, hg.len]; show j ≤ (List.range n).length; rw [List.length_range]; omega)
        generalize (o.take j).foldl (turnM ws) (List.range ws.length, List.replicate o.length 0) = st at *
        rw [htl] at t2
        have t2' : st.1.length = n - j := by
          rw [t2]
          show (List.range ws.length).length - j = n - j
          rw [List.length_range, hg.len]
        have hp : o.getD j 0 < n := getD_lt he (by omega)
        have hne : st.1 ≠ [] := fun z => by
          rw [z] at t2'
          have : (0 : Nat) = n - j := t2'
          omega
        have hall : ∀ t ∈ st.1, t ∈ Rc57.orderOf ws (o.getD j 0) := fun t ht => hg.get hp (by
          have := List.mem_range.mp (t3 t ht)
          rw [hg.len] at this
          exact this)
        have hm := dearM_mem (row := Rc57.orderOf ws (o.getD j 0)) hne
        refine ⟨_, rfl, _, rfl, _, rfl, a, lf, ws, _, st.1, rfl, hw.same s3, SqL.of h3, by rw [hg.len]; exact hp, hne, hall, ?_⟩
        unfold turnM
        generalize hd : dearM (Rc57.orderOf ws (o.getD j 0)) st.1 = t at *
        have hgl : (nV st.2).length = n := by
          rw [nV_length, t4]
          show (List.replicate o.length 0).length = n
          rw [List.length_replicate, hol]
        refine ⟨_, rfl, _, rfl, _, rfl, D, _, ((o.getD j 0 : Nat) : Int), o.getD j 0, rfl, rfl, h4, ixN_nat (by rw [hgl]; exact hp), ?_⟩
        rw [nV_set]
        have h5 : (upd H' D (.lst (nV (st.2.set (o.getD j 0) t)))) lf = some (.lst (nV st.1)) := by rw [upd_ne hlD]; exact h3
        refine ⟨_, rfl, .inl ⟨rfl, _, SqL.of h5⟩, _, rfl, lf, st.1.map (fun (x : Nat) => (x : Int)), (t : Int), st.1.idxOf t, rfl, rfl, by rw [← nV_ints]; exact h5, ?_, ?_, ?_⟩
        · have h1 := List.idxOf_lt_length_of_mem hm
          rw [List.getElem?_map, List.getElem?_eq_getElem h1]
          show some ((st.1[st.1.idxOf t] : Nat) : Int) = some (t : Int)
          rw [List.getElem_idxOf h1]
        · intro m hlt hz
          obtain ⟨_, _, e3⟩ := idx_nV hm
          have hz' : (nV st.1)[m]? = some (iV t) := by
            rw [nV_ints, List.getElem?_map, hz]
            rfl
          have := e3 m _ hlt hz'
          have e4 : eqV (iV t) (iV t) = true := beq_self_eq_true (t : Int)
          rw [e4] at this
          cases this
        · rw [map_eraseIdx', ← erase_idx, ← nV_ints]
          refine ⟨_, _, rfl, ?_, upd_same, ?_⟩
          · exact (s3.putN nD0).putN nlf
          · rw [upd_ne hlD.symm, upd_same]
      · rintro σ H' ⟨v3, v5, rfl, s3, h3, h4⟩
        rw [nV_length, List.take_length] at h4
        exact ⟨_, rfl, q D H' s3 h4⟩

abbrev sFirst : Stmt := top 22
theorem scFirst : FnScope ["wishes", "given", "order"] ["wishes", "given"] (defScope sFirst) := ⟨rfl, rfl, rfl, by decide +kernel, rfl, by decide +kernel, by decide +kernel⟩
def spFirst (K : PySem.W.Frag) : Sp := fun vs H Q _ => ∃ (a b : Addr) (n : Nat) (ws : List (List Nat)) (g : List Nat), vs = [.ref a, .ref b] ∧ WAt H a ws ∧ Gd n ws ∧ n ≤ 5 ∧ SqL K H b (nV g) ∧
  ∀ p H', Same H H' → H' p = some (.lst (nV (firstM ws g))) → Q (.ref p) H'
theorem find_take {α : Type} {p : α → Bool} {l : List α} {j : Nat} {d : α} (h : j < l.length) (h1 : (l.take j).any p = false) (h2 : p (l.getD j d) = true) : l.find? p = some (l.getD j d) := by
  have e : l = l.take j ++ l.getD j d :: l.drop (j + 1) := by
    conv => lhs; rw [← List.take_append_drop j l]
    congr 1
    rw [List.drop_eq_getElem_cons h, List.getD_eq_getElem?_getD, List.getElem?_eq_getElem h]
    rfl
  have hn : (l.take j).find? p = none := by
    rw [List.find?_eq_none]
    intro x hx hp
    have : (l.take j).any p = true := List.any_eq_true.mpr ⟨x, hx, hp⟩
    rw [h1] at this
    cases this
  generalize l.getD j d = y at *
  rw [e, List.find?_append, hn, List.find?_cons_of_pos h2]
  rfl
theorem find_none {α : Type} {p : α → Bool} {l : List α} (h1 : l.any p = false) : l.find? p = none := by
  rw [List.find?_eq_none]
  intro x hx hp
  have : l.any p = true := List.any_eq_true.mpr ⟨x, hx, hp⟩
  rw [h1] at this
  cases this
theorem ok_first {f : Addr} {fd : FuncData} (F : Fun K "first_order" "first_order" sFirst f fd) (B : Bl mg) (C1 : Cal P w K mg base "orders" 1 ["many"] spOrders)
    (C2 : Cal P w K mg base "in_turn" 3 ["wishes", "order"] (spInTurn K)) : FnOk P w K mg base CX0 4 f fd ["wishes", "given"] (spFirst K) := by
  refine F.ok scFirst (fun vs H Q E h => ?_) (fun cdv A outer s H vs Q E hr h => ?_)
  · obtain ⟨a, b, n, ws, g, rfl, _⟩ := h
    rfl
  · obtain ⟨a, b, n, ws, g, rfl, hw, hg, hn, hb, q⟩ := h
    have hr1 : Room 1 _ := hr.mono (by decide)
    refine ⟨_, pss_cons (ps_for PassesOwn.never rfl (pi_list (pe_cal C1 hr1 (by rfl) (pa_cons (pe_callB call_len_seq (by rfl) B.len PySem.boot_len (pa_cons (pv 0) pa_nil)) pa_nil))) (pg_name (i := 2) scFirst.nd rfl (.inl rfl))
        (pss_one (ps_if (pt_cmpR (op_eqD hr.units) (pe_cal C2 hr (by rfl) (pa_cons (pv 0) (pa_cons (pv 2) pa_nil))) (pv 1) (nomark _)) (pss_one (ps_ret (pv 2))) pss_nil)))
      (pss_one (ps_ret (pe_lst pa_nil))), ?_⟩
    obtain ⟨rs, hw1, hw2, hw3⟩ := hw.sql
    have hlen : (rs.map V.ref).length = n := by rw [List.length_map, hw3, hg.len]
    refine ⟨_, rfl, a, _, rfl, .inl (SqL.of hw1), ?_⟩
    rw [hlen]
    refine ⟨n, rfl, hn, fun oa H2 s2 ⟨os, ho1, ho2⟩ => ?_⟩
    refine ⟨oa, rfl, ⟨_, SqL.of ho1⟩, for_list (K := K) (a := oa) (xs := os.map V.ref) (fun j σ H' => ∃ v, σ = [some (.ref a), some (.ref b), v] ∧ Same H2 H' ∧ ((ordersM n).take j).any (fun o => inTurnM ws o == g) = false)
      ⟨none, rfl, Same.refl _, rfl⟩ (fun j σ H' _ ⟨_, _, s3, _⟩ => s3.seq (SqL.of ho1)) ?_ ?_⟩
    · rintro j x σ H3 hj ⟨v, rfl, s3, hno⟩
      obtain ⟨r, hr1, rfl⟩ := refs_some hj
      obtain ⟨hjl, hrow⟩ := ho2.item hr1
      have heach := orders_each n hn _ (getD_mem' (d := []) hjl)
      refine ⟨_, rfl, _, rfl, a, r, n, ws, _, rfl, hw.same (s2.trans s3), hg, hn, SqL.of (s3 _ _ hrow), heach, fun p H4 s4 hp => ?_⟩
      refine ⟨_, rfl, _, _, dp_nV (SqL.of hp), dp_nV ((s2.trans (s3.trans s4)).seq hb), dN_shaped _, dN_shaped _, _, rfl, ?_⟩
      rw [dN_eqv]
      refine ite2 (fun c => ?_) (fun c => ?_)
      · have c' := of_decide_eq_true c
        have e : firstM ws g = (ordersM n).getD j [] := by
          unfold firstM
          rw [hg.len, find_take (d := []) hjl hno (beq_iff_eq.mpr c')]
          rfl
        refine ⟨_, rfl, q r H4 (s2.trans (s3.trans s4)) ?_⟩
        rw [e]
        exact s4 _ _ (s3 _ _ hrow)
      · have c' : ¬ inTurnM ws ((ordersM n).getD j []) = g := fun z => c (decide_eq_true z)
        refine ⟨_, rfl, s3.trans s4, ?_⟩
        rw [any_take (d := []) hjl, hno, Bool.false_or]
        exact beq_eq_false_iff_ne.mpr c'
    · rintro σ H3 ⟨v, rfl, s3, hno⟩
      have hl : (os.map V.ref).length = (ordersM n).length := by rw [List.length_map, ho2.len]
      rw [hl, List.take_length] at hno
      refine ⟨Nat.zero_le _, fun p np => q p _ ((s2.trans s3).updN np) ?_⟩
      unfold firstM
      rw [hg.len, find_none hno]
      exact upd_same
end
end Wg

/-! groups.py -/
namespace Wg
open PySem PySem.Spec PyProof.Rows L2

theorem bit_test (k i : Nat) : decide (V.int (Builtin.bitAnd ((k : Int) / 2 ^ ((i : Int).toNat)) 1) = V.int 1) = k.testBit i := by
  rw [show (i : Int).toNat = i from rfl, bitAnd_m1]
  have e : ((k : Int) / 2 ^ i % 2) = ((k / 2 ^ i % 2 : Nat) : Int) := by
    rw [Int.natCast_emod, Int.natCast_ediv, Int.natCast_pow]
    rfl
  rw [e, Nat.testBit_eq_decide_div_mod_eq]
  refine decide_eq_decide.mpr ⟨fun h => ?_, fun h => ?_⟩
  · have h' : ((k / 2 ^ i % 2 : Nat) : Int) = 1 := V.int.inj h
    omega
  · rw [h]
    rfl
theorem people_more {k i : Nat} (c : k.testBit i = true) : ((List.range (i + 1)).filter fun j => k.testBit j) = ((List.range i).filter fun j => k.testBit j) ++ [i] := by
  rw [List.range_succ, List.filter_append, List.filter_cons_of_pos c, List.filter_nil]
theorem people_less {k i : Nat} (c : k.testBit i = false) : ((List.range (i + 1)).filter fun j => k.testBit j) = ((List.range i).filter fun j => k.testBit j) := by
  rw [List.range_succ, List.filter_append, List.filter_cons_of_neg (by rw [c]; exact Bool.false_ne_true), List.filter_nil, List.append_nil]

section
variable {P : Program} {w : World} {K : PySem.W.Frag} {mg : Str → Option Value} {base : Heap}

abbrev sPeopleIn : Stmt := top 24
theorem scPeopleIn : FnScope ["number", "many", "person"] ["number", "many"] (defScope sPeopleIn) := ⟨rfl, rfl, rfl, by decide +kernel, rfl, by decide +kernel, by decide +kernel⟩
def spPeopleIn : Sp := fun vs H Q _ => ∃ (k n : Nat), vs = [iV k, iV n] ∧ n ≤ 1000 ∧ ∀ p H', Same H H' → H' p = some (.lst (nV (peopleM k n))) → Q (.ref p) H'
theorem ok_people_in {f : Addr} {fd : FuncData} (F : Fun K "people_in" "people_in" sPeopleIn f fd) (B : Bl mg) : FnOk P w K mg base CX0 1 f fd ["number", "many"] spPeopleIn := by
  refine F.ok scPeopleIn (fun vs H Q E h => ?_) (fun cdv A outer s H vs Q E hr h => ?_)
  · obtain ⟨k, n, rfl, _⟩ := h
    rfl
  · obtain ⟨k, n, rfl, hn, q⟩ := h
    refine ⟨_, pss_one (ps_ret (pe_lc (own := [("person", 2)]) (g := gName 2) (te := tVar 2) (by rfl) scPeopleIn.nd (pi_range1 (by rfl) B.range (pa_cons (pv 1) pa_nil)) (blkOk_by (own := [("person", 2)]) (N := ["number", "many", "person"]) (sc := defScope sPeopleIn) (by decide +kernel))
              (fun _ _ _ _ _ => pg_name (i := 2) scPeopleIn.nd rfl (Or.inl rfl))
              (fun _ _ _ _ _ => pts_one (pt_cmpR op_eq (pe_op op_and (pe_op op_shr (pv 0) (pv 2)) pe_int) pe_int (nomark _)))
              (fun _ _ _ _ _ => pv 2))), ?_⟩
    refine ⟨_, rfl, (n : Int), rfl, by omega, by omega, fun D nD => lc_rangeN (n := n) (fun i H' => Same H H' ∧ H' D = some (.lst (nV ((List.range i).filter fun j => k.testBit j)))) ⟨same_upd nD, upd_same⟩ ?_ ?_⟩
    · rintro i H' hi ⟨s1, h1⟩
      refine ⟨rfl, ?_⟩
      refine ⟨_, rfl, _, rfl, (k : Int), (i : Int), rfl, rfl, by omega, _, _, rfl, rfl, rfl, _, rfl, ?_⟩
      rw [bit_test]
      cases c : k.testBit i with
      | true =>
        refine iteT ⟨_, rfl, _, h1, ?_, s1.putN nD, ?_⟩
        · rw [nV_length]
          refine size_lt (Nat.le_trans (List.length_filter_le ..) ?_)
          rw [List.length_range]
          omega
        · rw [upd_same, people_more c, nV_append]
          rfl
      | false =>
        refine iteF ⟨s1, ?_⟩
        rw [people_less c]
        exact h1
    · rintro H' ⟨s1, h1⟩
      exact q D H' s1 h1

abbrev sHanded : Stmt := top 25
theorem scHanded : FnScope ["people", "own", "order", "many", "person", "given", "place"] ["people", "own", "order", "many"] (defScope sHanded) := ⟨rfl, rfl, rfl, by decide +kernel, rfl, by decide +kernel, by decide +kernel⟩
def spHanded (K : PySem.W.Frag) : Sp := fun vs H Q _ => ∃ (a b c : Addr) (ps own o : List Nat) (n : Nat), vs = [.ref a, .ref b, .ref c, iV n] ∧ SqL K H a (nV ps) ∧ SqL K H b (nV own) ∧ SqL K H c (nV o) ∧ n ≤ 1000 ∧ o.length = ps.length ∧ (∀ j ∈ o, j < ps.length) ∧ (∀ p ∈ ps, p < own.length ∧ p < n) ∧
  ∀ p H', Same H H' → H' p = some (.lst (nV (handedM ps own o n))) → Q (.ref p) H'
theorem setAll_more {g : List Nat} {ps : List (Nat × Nat)} {j : Nat} {p : Nat × Nat} (h : ps[j]? = some p) : setAll g (ps.take (j + 1)) = (setAll g (ps.take j)).set p.1 p.2 := by
  rw [take_more h, setAll_append]
  rfl
theorem ok_handed {f : Addr} {fd : FuncData} (F : Fun K "handed_round" "handed_round" sHanded f fd) (B : Bl mg) : FnOk P w K mg base CX0 1 f fd ["people", "own", "order", "many"] (spHanded K) := by
  refine F.ok scHanded (fun vs H Q E h => ?_) (fun cdv A outer s H vs Q E hr h => ?_)
  · obtain ⟨a, b, c, ps, own, o, n, rfl, _⟩ := h
    rfl
  · obtain ⟨a, b, c, ps, own, o, n, rfl, ha, hb, hc, hn, hl, ho, hp, q⟩ := h
    refine ⟨_, pss_cons (ps_setLc (i := 5) (own := [("person", 4)]) (g := gName 4) (tt := tYes) (te := tC (.int 0)) (by rfl) scHanded.nd rfl rfl (sw_true rfl rfl rfl (by decide +kernel)) (pi_range1 (by rfl) B.range (pa_cons (pv 3) pa_nil)) (blkOk_by (own := [("person", 4)]) (N := ["people", "own", "order", "many", "person", "given", "place"]) (sc := defScope sHanded) (by decide +kernel))
          (fun _ _ _ _ _ => pg_name (i := 4) scHanded.nd rfl (Or.inl rfl)) (fun _ _ _ _ _ => pts_nil) (fun _ _ _ _ _ => pe_int))
      (pss_cons (ps_for PassesOwn.never rfl (pi_enum (by rfl) B.enumerate (pa_cons (pv 0) pa_nil)) (pg_tup rfl (pgs_cons (pg_name (i := 6) scHanded.nd rfl (.inl rfl)) (pgs_cons (pg_name (i := 4) scHanded.nd rfl (.inl rfl)) pgs_nil)))
        (pss_one (ps_asg (pe_ix ix_list (pv 1) (pe_ix ix_list (pv 0) (pe_ix ix_list (pv 2) (pv 6) (fun _ _ => rfl)) (fun _ _ => rfl)) (fun _ _ => rfl)) (pg_sub (pv 5) (pv 4) set_list))))
      (pss_one (ps_ret (pv 5)))), ?_⟩
    refine ⟨_, rfl, (n : Int), rfl, by omega, by omega, fun D nD => lc_rangeN (n := n) (fun i H' => Same H H' ∧ H' D = some (.lst (nV (List.replicate i 0)))) ⟨same_upd nD, upd_same⟩ ?_ ?_⟩
    · rintro i H' hi ⟨s1, h1⟩
      refine ⟨rfl, iteT (B := True) ⟨_, h1, ?_, s1.putN nD, ?_⟩⟩
      · rw [nV_length, List.length_replicate]
        exact size_lt (by omega)
      · rw [upd_same, List.replicate_succ', nV_append]
        rfl
    · rintro H1 ⟨s1, h1⟩
      refine ⟨_, rfl, a, nV ps, rfl, s1.seq ha, for_it (walk_enum (K := K) (a := a) (xs := nV ps)) (fun j σ H' => ∃ v4 v6, σ = [some (.ref a), some (.ref b), some (.ref c), some (iV n), v4, some (.ref D), v6] ∧ Same H H' ∧ H' D = some (.lst (nV (setAll (List.replicate n 0) ((ps.zip (o.map fun j => own.getD (ps.getD j 0) 0)).take j)))))
        ⟨none, none, rfl, s1, h1⟩ (fun j σ H' _ ⟨_, _, _, s2, _⟩ => s2.seq ha) ?_ ?_⟩
      · rintro j x σ H2 H3 hj ⟨v4, v6, rfl, s2, h2⟩ ⟨T, x1, x2, rfl, nT, rfl, e1, e2⟩
        rw [nV_length] at hj
        obtain rfl := (Option.some.inj e1)
        obtain ⟨_, rfl⟩ := nV_some e2
        have nDT : D ≠ T := ne_of_none h2 nT
        have s3 : Same H (upd H2 T (.tup [iV j, iV (ps.getD j 0)])) := s2.updN nT
        have hj2 : o.getD j 0 < ps.length := ho _ (getD_mem (by omega))
        obtain ⟨p1, p2⟩ := hp _ (getD_mem hj)
        have p3 := (hp _ (getD_mem hj2)).1
        have hz : (ps.zip (o.map fun j => own.getD (ps.getD j 0) 0))[j]? = some (ps.getD j 0, own.getD (ps.getD (o.getD j 0) 0) 0) := by
          rw [List.getElem?_zip_eq_some]
          refine ⟨?_, ?_⟩
          · rw [List.getD_eq_getElem?_getD, List.getElem?_eq_getElem hj]
            rfl
          · rw [List.getElem?_map, List.getD_eq_getElem?_getD (l := o), List.getElem?_eq_getElem (by omega)]
            rfl
        rw [setAll_more hz]
        refine ⟨T, _, rfl, SqT.of upd_same, rfl, _, [_], rfl, _, [], rfl, rfl, ?_⟩
        refine ⟨_, rfl, _, rfl, _, rfl, _, rfl, c, _, (j : Int), _, rfl, rfl, s3.seq hc, nV_at (by omega), ?_⟩
        refine ⟨a, _, ((o.getD j 0 : Nat) : Int), _, rfl, rfl, s3.seq ha, nV_at hj2, ?_⟩
        refine ⟨b, _, ((ps.getD (o.getD j 0) 0 : Nat) : Int), _, rfl, rfl, s3.seq hb, nV_at p3, ?_⟩
        refine ⟨_, rfl, _, rfl, D, _, ((ps.getD j 0 : Nat) : Int), ps.getD j 0, rfl, rfl, by rw [upd_ne nDT]; exact h2, ixN_nat (by rw [nV_length, setAll_len, List.length_replicate]; exact p2), ?_⟩
        rw [nV_set]
        exact ⟨_, _, rfl, s3.putN nD, upd_same⟩
      · rintro σ H2 ⟨v4, v6, rfl, s2, h2⟩
        refine ⟨_, rfl, q D H2 s2 ?_⟩
        rw [nV_length, List.take_of_length_le (by rw [List.length_zip, List.length_map]; omega)] at h2
        exact h2

abbrev sDoes : Stmt := top 26
theorem scDoes : FnScope ["wishes", "own", "given", "people", "order"] ["wishes", "own", "given", "people"] (defScope sDoes) := ⟨rfl, rfl, rfl, by decide +kernel, rfl, by decide +kernel, by decide +kernel⟩
def spDoes (K : PySem.W.Frag) : Sp := fun vs H Q _ => ∃ (a b c d : Addr) (n : Nat) (ws : List (List Nat)) (own g ps : List Nat), vs = [.ref a, .ref b, .ref c, .ref d] ∧ WAt H a ws ∧ Gd n ws ∧ n ≤ 5 ∧ SqL K H b (nV own) ∧ Rc57.each n own = true ∧ SqL K H c (nV g) ∧ Rc57.each n g = true ∧
  SqL K H d (nV ps) ∧ (∀ p ∈ ps, p < n) ∧ ps.length ≤ 5 ∧ ∀ H', Same H H' → Q (.bl (doesM ws own g ps)) H'
theorem setAll_lt {n : Nat} : ∀ (ps : List (Nat × Nat)) (g : List Nat), (∀ x ∈ g, x < n) → (∀ p ∈ ps, p.2 < n) → ∀ x ∈ setAll g ps, x < n
  | [], _, h, _, x, hx => h x hx
  | p :: ps, g, h, hp, x, hx => setAll_lt ps (g.set p.1 p.2) (fun y hy => by
      rcases List.mem_or_eq_of_mem_set hy with hy | rfl
      · exact h y hy
      · exact hp p List.mem_cons_self) (fun q hq => hp q (List.mem_cons_of_mem _ hq)) x hx
theorem ok_does {f : Addr} {fd : FuncData} (F : Fun K "does_better" "does_better" sDoes f fd) (B : Bl mg) (C1 : Cal P w K mg base "orders" 1 ["many"] spOrders)
    (C2 : Cal P w K mg base "suits" 2 ["wishes", "people", "given", "other"] (spSuits K)) (C3 : Cal P w K mg base "handed_round" 1 ["people", "own", "order", "many"] (spHanded K)) : FnOk P w K mg base CX0 3 f fd ["wishes", "own", "given", "people"] (spDoes K) := by
  refine F.ok scDoes (fun vs H Q E h => ?_) (fun cdv A outer s H vs Q E hr h => ?_)
  · obtain ⟨a, b, c, d, n, ws, own, g, ps, rfl, _⟩ := h
    rfl
  · obtain ⟨a, b, c, d, n, ws, own, g, ps, rfl, hw, hg, hn, hb, hown, hc, hgiv, hd, hps, hpl, q⟩ := h
    have hr1 : Room 1 _ := hr.mono (by decide)
    refine ⟨_, pss_cons (ps_for PassesOwn.never rfl (pi_list (pe_cal C1 hr1 (by rfl) (pa_cons (pe_callB call_len_seq (by rfl) B.len PySem.boot_len (pa_cons (pv 3) pa_nil)) pa_nil))) (pg_name (i := 4) scDoes.nd rfl (.inl rfl))
        (pss_one (ps_if (pt_val (pe_cal C2 hr (by rfl) (pa_cons (pv 0) (pa_cons (pv 3) (pa_cons (pe_cal C3 hr1 (by rfl) (pa_cons (pv 3) (pa_cons (pv 1) (pa_cons (pv 4) (pa_cons (pe_callB call_len_seq (by rfl) B.len PySem.boot_len (pa_cons (pv 0) pa_nil)) pa_nil))))) (pa_cons (pv 2) pa_nil)))))) (pss_one (ps_ret pe_bl)) pss_nil)))
      (pss_one (ps_ret pe_bl)), ?_⟩
    obtain ⟨rs, hw1, hw2, hw3⟩ := hw.sql
    have hlen : (rs.map V.ref).length = n := by rw [List.length_map, hw3, hg.len]
    refine ⟨_, rfl, d, _, rfl, .inl hd, ?_⟩
    rw [nV_length]
    refine ⟨ps.length, rfl, hpl, fun oa H2 s2 ⟨os, ho1, ho2⟩ => ?_⟩
    refine ⟨oa, rfl, ⟨_, SqL.of ho1⟩, for_list (K := K) (a := oa) (xs := os.map V.ref) (fun j σ H' => ∃ v, σ = [some (.ref a), some (.ref b), some (.ref c), some (.ref d), v] ∧ Same H2 H' ∧ ((ordersM ps.length).take j).any (fun o => suitsM ws (handedM ps own o n) g false ps) = false)
      ⟨none, rfl, Same.refl _, rfl⟩ (fun j σ H' _ ⟨_, _, s3, _⟩ => s3.seq (SqL.of ho1)) ?_ ?_⟩
    · rintro j x σ H3 hj ⟨v, rfl, s3, hno⟩
      obtain ⟨r, hr1, rfl⟩ := refs_some hj
      obtain ⟨hjl, hrow⟩ := ho2.item hr1
      have heach := orders_each _ hpl _ (getD_mem' (d := []) hjl)
      have t3 := s2.trans s3
      refine ⟨_, rfl, _, rfl, _, rfl, _, rfl, _, rfl, _, rfl, a, _, rfl, .inl (SqL.of (t3 _ _ hw1)), ?_⟩
      rw [hlen]
      refine ⟨d, b, r, ps, own, _, n, rfl, t3.seq hd, t3.seq hb, SqL.of (s3 _ _ hrow), by omega, each_len heach, fun i hi => (each_mem heach).mp hi, fun p hp => ⟨by rw [each_len hown]; exact hps p hp, hps p hp⟩, fun p H4 s4 hp => ?_⟩
      have t4 := t3.trans s4
      have hlt : ∀ x ∈ handedM ps own ((ordersM ps.length).getD j []) n, 0 < n → x < n := by
        intro x hx h0
        refine setAll_lt _ _ (fun y hy => ?_) (fun z hz => ?_) x hx
        · rw [(List.mem_replicate.mp hy).2]
          exact h0
        · obtain ⟨i, hi, e⟩ := List.mem_map.mp (List.of_mem_zip (a := z.1) (b := z.2) hz).2
          rw [← e]
          exact getD_lt hown (hps _ (getD_mem ((each_mem heach).mp hi)))
      have hhl : (handedM ps own ((ordersM ps.length).getD j []) n).length = n := by
        unfold handedM
        rw [setAll_len, List.length_replicate]
      refine ⟨_, rfl, a, d, p, c, ws, ps, _, g, rfl, hw.same t4, t4.seq hd, SqL.of hp, t4.seq hc, fun i hi => ?_, _, rfl, ?_⟩
      · have hin := hps i hi
        exact ⟨by rw [hg.len]; exact hin, by rw [hhl]; exact hin, by rw [each_len hgiv]; exact hin, hg.get hin (hlt _ (getD_mem (by rw [hhl]; exact hin)) (by omega)), hg.get hin (getD_lt hgiv hin)⟩
      · cases z : suitsM ws (handedM ps own ((ordersM ps.length).getD j []) n) g false ps with
        | true =>
          refine iteT ?_
          have e : doesM ws own g ps = true := by
            unfold doesM
            rw [hg.len]
            exact any_of_at (d := []) hjl z
          show Q (.bl true) _
          rw [← e]
          exact q _ t4
        | false =>
          refine iteF ?_
          exact ⟨_, rfl, s3.trans s4, by rw [any_take (d := []) hjl, hno, z]; rfl⟩
    · rintro σ H3 ⟨v, rfl, s3, hno⟩
      have hl : (os.map V.ref).length = (ordersM ps.length).length := by rw [List.length_map, ho2.len]
      rw [hl, List.take_length] at hno
      have e : doesM ws own g ps = false := by
        unfold doesM
        rw [hg.len]
        exact hno
      show Q (.bl false) _
      rw [← e]
      exact q _ (s2.trans s3)

abbrev sLeast : Stmt := top 27
theorem scLeast : FnScope ["wishes", "own", "given", "many", "number"] ["wishes", "own", "given"] (defScope sLeast) := ⟨rfl, rfl, rfl, by decide +kernel, rfl, by decide +kernel, by decide +kernel⟩
def spLeast (K : PySem.W.Frag) : Sp := fun vs H Q _ => ∃ (a b c : Addr) (n : Nat) (ws : List (List Nat)) (own g : List Nat), vs = [.ref a, .ref b, .ref c] ∧ WAt H a ws ∧ Gd n ws ∧ n ≤ 5 ∧ SqL K H b (nV own) ∧ Rc57.each n own = true ∧ SqL K H c (nV g) ∧ Rc57.each n g = true ∧
  ∀ H', Same H H' → Q (iV (leastM ws own g)) H'
theorem range1_get {m i : Nat} (h : i < m) : (List.range' 1 m).getD i 0 = 1 + i := by
  rw [List.getD_eq_getElem?_getD, List.getElem?_range' h]
  show 1 + 1 * i = 1 + i
  omega
theorem ok_least {f : Addr} {fd : FuncData} (F : Fun K "least_group" "least_group" sLeast f fd) (B : Bl mg) (C1 : Cal P w K mg base "does_better" 3 ["wishes", "own", "given", "people"] (spDoes K))
    (C2 : Cal P w K mg base "people_in" 1 ["number", "many"] spPeopleIn) : FnOk P w K mg base CX0 4 f fd ["wishes", "own", "given"] (spLeast K) := by
  refine F.ok scLeast (fun vs H Q E h => ?_) (fun cdv A outer s H vs Q E hr h => ?_)
  · obtain ⟨a, b, c, n, ws, own, g, rfl, _⟩ := h
    rfl
  · obtain ⟨a, b, c, n, ws, own, g, rfl, hw, hg, hn, hb, hown, hc, hgiv, q⟩ := h
    have hr1 : Room 1 _ := hr.mono (by decide)
    refine ⟨_, pss_cons (ps_set (i := 3) scLeast.nd rfl (.inl rfl) (pe_callB call_len_seq (by rfl) B.len PySem.boot_len (pa_cons (pv 0) pa_nil)))
      (pss_cons (ps_for PassesOwn.never rfl (pi_range2 (by rfl) B.range (pa_cons pe_int (pa_cons (pe_op op_shl pe_int (pv 3)) pa_nil))) (pg_name (i := 4) scLeast.nd rfl (.inl rfl))
        (pss_one (ps_if (pt_val (pe_cal C1 hr (by rfl) (pa_cons (pv 0) (pa_cons (pv 1) (pa_cons (pv 2) (pa_cons (pe_cal C2 hr1 (by rfl) (pa_cons (pv 4) (pa_cons (pv 3) pa_nil))) pa_nil)))))) (pss_one (ps_ret (pv 4))) pss_nil)))
      (pss_one (ps_ret pe_int))), ?_⟩
    obtain ⟨rs, hw1, hw2, hw3⟩ := hw.sql
    have hlen : (rs.map V.ref).length = n := by rw [List.length_map, hw3, hg.len]
    refine ⟨_, rfl, a, _, rfl, .inl (SqL.of hw1), ?_⟩
    rw [hlen]
    have hp1 : 2 ^ n ≤ 2 ^ 5 := Nat.pow_le_pow_right (by decide) hn
    have hp0 : 0 < 2 ^ n := Nat.two_pow_pos n
    have ep : (1 : Int) * 2 ^ ((n : Int).toNat) = ((2 ^ n : Nat) : Int) := by
      rw [Int.one_mul, Int.natCast_pow]
      rfl
    refine ⟨_, rfl, (1 : Int), (n : Int), rfl, rfl, ⟨by omega, by omega, by decide⟩, ?_⟩
    refine ⟨1, ((2 ^ n : Nat) : Int), congrArg (fun z => [V.int 1, V.int z]) ep, ⟨by decide, by decide, by omega, by omega⟩, ?_⟩
    rw [show (((2 ^ n : Nat) : Int) - 1).toNat = 2 ^ n - 1 by omega]
    have hrl : (List.range' 1 (2 ^ n - 1)).length = 2 ^ n - 1 := List.length_range'
    refine for_range (lo := 1) (n := 2 ^ n - 1) (fun j σ H' => ∃ v, σ = [some (.ref a), some (.ref b), some (.ref c), some (iV n), v] ∧ Same H H' ∧ ((List.range' 1 (2 ^ n - 1)).take j).any (fun k => doesM ws own g (peopleM k n)) = false)
      ⟨none, rfl, Same.refl _, rfl⟩ ?_ ?_
    · rintro j σ H3 hj ⟨v, rfl, s3, hno⟩
      have e1 : (1 : Int) + (j : Int) = (((List.range' 1 (2 ^ n - 1)).getD j 0 : Nat) : Int) := by
        rw [range1_get hj]
        omega
      rw [e1]
      have hjl : j < (List.range' 1 (2 ^ n - 1)).length := by omega
      generalize hk : (List.range' 1 (2 ^ n - 1)).getD j 0 = k
      refine ⟨_, rfl, _, rfl, _, rfl, _, rfl, _, rfl, k, n, rfl, by omega, fun p H4 s4 hp => ?_⟩
      have t4 := s3.trans s4
      refine ⟨a, b, c, p, n, ws, own, g, _, rfl, hw.same t4, hg, hn, t4.seq hb, hown, t4.seq hc, hgiv, SqL.of hp, fun i hi => people_lt hi, Nat.le_trans (people_len k n) hn, fun H5 s5 => ⟨_, rfl, ?_⟩⟩
      cases z : doesM ws own g (peopleM k n) with
      | true =>
        refine iteT ⟨_, rfl, ?_⟩
        have e : leastM ws own g = k := by
          unfold leastM
          rw [hg.len, find_take (d := 0) hjl hno (by rw [hk]; exact z), hk]
          rfl
        show Q (iV k) _
        rw [← e]
        exact q _ (t4.trans s5)
      | false =>
        refine iteF ⟨_, rfl, t4.trans s5, ?_⟩
        rw [any_take (d := 0) hjl, hno, hk, z]
        rfl
    · rintro σ H3 ⟨v, rfl, s3, hno⟩
      rw [List.take_of_length_le (by omega)] at hno
      have e : leastM ws own g = 0 := by
        unfold leastM
        rw [hg.len, find_none hno]
        rfl
      show Q (iV 0) _
      rw [← e]
      exact q _ s3
end
end Wg

/-! rings.py -/
namespace Wg
open PySem PySem.Spec PyProof.Rows L2

section
variable {P : Program} {w : World} {K : PySem.W.Frag} {mg : Str → Option Value} {base : Heap}

abbrev sLooked : Stmt := top 29
theorem scLooked : FnScope ["wishes", "own", "there", "person", "thing", "one"] ["wishes", "own", "there", "person"] (defScope sLooked) := ⟨rfl, rfl, rfl, by decide +kernel, rfl, by decide +kernel, by decide +kernel⟩
def spLooked (K : PySem.W.Frag) : Sp := fun vs H Q _ => ∃ (a b c : Addr) (n : Nat) (ws : List (List Nat)) (own l : List Nat) (i : Nat), vs = [.ref a, .ref b, .ref c, iV i] ∧ WAt H a ws ∧ Gd n ws ∧ SqL K H b (nV own) ∧ Rc57.each n own = true ∧ SqL K H c (nV l) ∧ l ≠ [] ∧ l.length ≤ 1000 ∧ (∀ j ∈ l, j < n) ∧ i < n ∧
  ∀ H', Same H H' → Q (iV (Rc57.looks ws own l i)) H'
theorem ok_looked {f : Addr} {fd : FuncData} (F : Fun K "looked_at" "looked_at" sLooked f fd) (C1 : Cal P w K mg base "dearest" 2 ["wishes", "person", "things"] (spDearest K)) : FnOk P w K mg base CX0 3 f fd ["wishes", "own", "there", "person"] (spLooked K) := by
  refine F.ok scLooked (fun vs H Q E h => ?_) (fun cdv A outer s H vs Q E hr h => ?_)
  · obtain ⟨a, b, c, n, ws, own, l, i, rfl, _⟩ := h
    rfl
  · obtain ⟨a, b, c, n, ws, own, l, i, rfl, hw, hg, hb, hown, hc, hne, hsz, hl, hi, q⟩ := h
    refine ⟨_, pss_cons (ps_set (i := 4) scLooked.nd rfl (.inl rfl) (pe_cal C1 hr (by rfl) (pa_cons (pv 0) (pa_cons (pv 3) (pa_cons
        (pe_lc (own := [("one", 5)]) (g := gName 5) (tt := tYes) (te := tOp (rIxL K) (tVar 1) (tVar 5)) (by rfl) scLooked.nd (pi_list (pv 2)) (blkOk_by (own := [("one", 5)]) (N := ["wishes", "own", "there", "person", "thing", "one"]) (sc := defScope sLooked) (by decide +kernel))
              (fun _ _ _ _ _ => pg_name (i := 5) scLooked.nd rfl (Or.inl rfl)) (fun _ _ _ _ _ => pts_nil)
              (fun _ _ _ _ _ => pe_ix (r := rIxL K) ix_list (pv 1) (pv 5) (fun _ _ => rfl))) pa_nil)))))
      (pss_one (ps_ret (pe_bm PySem.F.plainAttrs_list PySem.F.slot_list_index PySem.F.type_list_index mt_index (pv 1) (pa_cons (pv 4) pa_nil)))), ?_⟩
    refine ⟨_, rfl, _, rfl, _, rfl, c, rfl, ⟨_, hc⟩, fun D nD => lc_list (K := K) (a := c) (xs := nV l) (fun j H' => Same H H' ∧ H' D = some (.lst (nV ((l.take j).map fun k => own.getD k 0)))) ⟨same_upd nD, upd_same⟩ (fun j H' _ ⟨s1, _⟩ => s1.seq hc) ?_ ?_⟩
    · rintro j x H' hj ⟨s1, h1⟩
      obtain ⟨hjl, rfl⟩ := nV_some hj
      have hk := hl _ (getD_mem hjl)
      refine ⟨rfl, iteT (B := True) ⟨_, rfl, _, rfl, b, _, ((l.getD j 0 : Nat) : Int), _, rfl, rfl, s1.seq hb, nV_at (by rw [each_len hown]; exact hk), _, h1, ?_, s1.putN nD, ?_⟩⟩
      · rw [nV_length, List.length_map, List.length_take]
        exact size_lt (by omega)
      · rw [upd_same, take_moreD hjl, List.map_append, nV_append]
        rfl
    · rintro H1 ⟨s1, h1⟩
      rw [nV_length, List.take_length] at h1
      have hts : ∀ t ∈ (l.map fun k => own.getD k 0), t ∈ Rc57.orderOf ws i := fun t ht => by
        obtain ⟨j, hj, rfl⟩ := List.mem_map.mp ht
        exact hg.get hi (getD_lt hown (hl j hj))
      have hne2 : (l.map fun k => own.getD k 0) ≠ [] := by simpa using hne
      refine ⟨a, D, ws, i, _, rfl, hw.same s1, SqL.of h1, by rw [hg.len]; exact hi, hne2, hts, ?_⟩
      have hm := dearM_mem (row := Rc57.orderOf ws i) hne2
      have hmo : dearM (Rc57.orderOf ws i) (l.map fun k => own.getD k 0) ∈ own := by
        obtain ⟨j, hj, e⟩ := List.mem_map.mp hm
        rw [← e]
        exact getD_mem (by rw [each_len hown]; exact hl j hj)
      obtain ⟨e1, e2, e3⟩ := idx_nV hmo
      refine ⟨_, rfl, .inl ⟨rfl, _, s1.seq hb⟩, _, rfl, b, _, _, _, _, rfl, rfl, s1.seq hb, rfl, nV_flat _, e1, e2, e3, ?_⟩
      have e := looksM_is hg hown hl hne hi
      unfold looksM at e
      show Q (iV (own.idxOf (dearM (Rc57.orderOf ws i) (l.map fun k => own.getD k 0)))) H1
      rw [e]
      exact q _ s1

abbrev sRing : Stmt := top 30
theorem scRing : FnScope ["wishes", "own", "there", "person", "step", "ring"] ["wishes", "own", "there"] (defScope sRing) := ⟨rfl, rfl, rfl, by decide +kernel, rfl, by decide +kernel, by decide +kernel⟩
def spRing (K : PySem.W.Frag) : Sp := fun vs H Q _ => ∃ (a b c : Addr) (n : Nat) (ws : List (List Nat)) (own l : List Nat) (s0 : Nat) (r : List Nat), vs = [.ref a, .ref b, .ref c] ∧ WAt H a ws ∧ Gd n ws ∧ SqL K H b (nV own) ∧ Rc57.each n own = true ∧ SqL K H c (nV l) ∧ l ≠ [] ∧ l.length ≤ 1000 ∧ (∀ j ∈ l, j < n) ∧
  RingAt ws own l s0 r ∧ ∀ p H', Same H H' → H p = none → H' p = some (.lst (nV (s0 :: r))) → Q (.ref p) H'
theorem iter_more (f : Nat → Nat) (j a : Nat) : iter f (j + 1) a = f (iter f j a) := iter_add f j 1 a
theorem ok_ring {f : Addr} {fd : FuncData} (F : Fun K "ring_of" "ring_of" sRing f fd) (C1 : Cal P w K mg base "looked_at" 3 ["wishes", "own", "there", "person"] (spLooked K)) : FnOk P w K mg base CX0 4 f fd ["wishes", "own", "there"] (spRing K) := by
  refine F.ok scRing (fun vs H Q E h => ?_) (fun cdv A outer s H vs Q E hr h => ?_)
  · obtain ⟨a, b, c, n, ws, own, l, s0, r, rfl, _⟩ := h
    rfl
  · obtain ⟨a, b, c, n, ws, own, l, s0, r, rfl, hw, hg, hb, hown, hc, hne, hsz, hl, ra, q⟩ := h
    refine ⟨_, pss_cons (ps_set (i := 3) scRing.nd rfl (.inl rfl) (pe_ix ix_list (pv 2) pe_int (fun _ _ => rfl)))
      (pss_cons (ps_for PassesOwn.never rfl (pi_list (pv 2)) (pg_name (i := 4) scRing.nd rfl (.inl rfl))
        (pss_one (ps_set (i := 3) scRing.nd rfl (.inl rfl) (pe_cal C1 hr (by rfl) (pa_cons (pv 0) (pa_cons (pv 1) (pa_cons (pv 2) (pa_cons (pv 3) pa_nil))))))))
      (pss_cons (ps_set (i := 5) scRing.nd rfl (.inl rfl) (pe_lst (pa_cons (pv 3) pa_nil)))
      (pss_cons (ps_set (i := 3) scRing.nd rfl (.inl rfl) (pe_cal C1 hr (by rfl) (pa_cons (pv 0) (pa_cons (pv 1) (pa_cons (pv 2) (pa_cons (pv 3) pa_nil))))))
      (pss_cons (ps_while PassesOwn.never (pt_cmpR op_ne (pv 3) (pe_ix ix_list (pv 5) pe_int (fun _ _ => rfl)) (nomark _))
        (pss_cons (ps_expr (pe_bm PySem.F.plainAttrs_list PySem.F.slot_list_append PySem.F.type_list_append mt_append (pv 5) (pa_cons (pv 3) pa_nil)))
        (pss_one (ps_set (i := 3) scRing.nd rfl (.inl rfl) (pe_cal C1 hr (by rfl) (pa_cons (pv 0) (pa_cons (pv 1) (pa_cons (pv 2) (pa_cons (pv 3) pa_nil)))))))))
      (pss_one (ps_ret (pv 5))))))), ?_⟩
    have hpos : 0 < l.length := List.length_pos_iff.mpr hne
    have hd0 : l.getD 0 0 = l.headD 0 := by
      cases l with
      | nil => rfl
      | cons t r => rfl
    have hlk : ∀ i ∈ l, Rc57.looks ws own l i ∈ l := fun i hi => looks_mem hg hown hl hne (hl i hi)
    have h0 : l.headD 0 ∈ l := by rw [← hd0]; exact getD_mem hpos
    refine ⟨_, rfl, c, _, 0, _, rfl, rfl, hc, nV_at0 hpos, ?_⟩
    refine ⟨_, rfl, c, rfl, ⟨_, hc⟩, for_list (K := K) (a := c) (xs := nV l) (fun j σ H' => ∃ v4, σ = [some (.ref a), some (.ref b), some (.ref c), some (iV (iter (Rc57.looks ws own l) j (l.headD 0))), v4, none] ∧ Same H H')
      ⟨none, by rw [hd0]; rfl, Same.refl _⟩ (fun j σ H' _ ⟨_, _, s1⟩ => s1.seq hc) ?_ ?_⟩
    · rintro j x σ H' hj ⟨v4, rfl, s1⟩
      obtain ⟨hjl, rfl⟩ := nV_some hj
      have hm := iter_mem hlk j _ h0
      refine ⟨_, rfl, _, rfl, _, rfl, _, rfl, a, b, c, n, ws, own, l, _, rfl, hw.same s1, hg, s1.seq hb, hown, s1.seq hc, hne, hsz, hl, hl _ hm, fun H2 s2 => ?_⟩
      exact ⟨some (iV (l.getD j 0)), by rw [iter_more]; rfl, s1.trans s2⟩
    · rintro σ H1 ⟨v4, rfl, s1⟩
      rw [nV_length, ← ra.head]
      have hs0 : s0 ∈ l := by
        rw [ra.head]
        exact iter_mem hlk _ _ h0
      refine ⟨_, rfl, by show 1 ≤ sizeLine; decide, fun R nR => ?_⟩
      have s2 : Same H (upd H1 R (.lst [iV s0])) := s1.updN nR
      have nR0 : H R = none := s1.free nR
      refine ⟨_, rfl, _, rfl, _, rfl, _, rfl, a, b, c, n, ws, own, l, _, rfl, hw.same s2, hg, s2.seq hb, hown, s2.seq hc, hne, hsz, hl, hl _ hs0, fun H3 s3 => ?_⟩
      have t3 := s2.trans s3
      have hR3 : H3 R = some (.lst (nV [s0])) := s3 _ _ upd_same
      refine ⟨fun m σ H' => ∃ (p : Nat) (pre rr : List Nat), σ = [some (.ref a), some (.ref b), some (.ref c), some (iV p), v4, some (.ref R)] ∧ Same H H' ∧ H' R = some (.lst (nV (s0 :: pre))) ∧ p ∈ l ∧ RingRun (Rc57.looks ws own l) s0 p rr ∧ s0 :: (pre ++ rr) = s0 :: r ∧ rr.length = m,
        ⟨r.length, Rc57.looks ws own l s0, [], r, rfl, t3, hR3, hlk _ hs0, ra.run, rfl, rfl⟩, ?_⟩
      rintro m σ H4 ⟨p, pre, rr, rfl, s4, hR, hp, run, er, rfl⟩
      refine ⟨_, rfl, _, rfl, R, _, 0, _, rfl, rfl, SqL.of hR, nV_at0 (by rw [List.length_cons]; omega), rfl, _, rfl, ?_⟩
      have e0 : (s0 :: pre).getD 0 0 = s0 := rfl
      rw [e0]
      cases run with
      | stop =>
        rw [decide_eq_true rfl]
        refine iteF ⟨_, rfl, q R H4 s4 nR0 ?_⟩
        rw [List.append_nil] at er
        rw [← er]
        exact hR
      | @go _ r2 hne2 run2 =>
        have ed : decide (iV p = iV s0) = false := decide_eq_false fun z => hne2 (by
          have := V.int.inj z
          omega)
        rw [ed]
        refine iteT ⟨fun σ' H' => ∃ (p' : Nat) (pre' rr' : List Nat), σ' = [some (.ref a), some (.ref b), some (.ref c), some (iV p'), v4, some (.ref R)] ∧ Same H H' ∧ H' R = some (.lst (nV (s0 :: pre'))) ∧ p' ∈ l ∧ RingRun (Rc57.looks ws own l) s0 p' rr' ∧ s0 :: (pre' ++ rr') = s0 :: r ∧ rr'.length = r2.length,
          fun σ' H' ⟨p', pre', rr', e1, e2, e3, e4, e5, e6, e7⟩ => ⟨r2.length, by rw [List.length_cons]; omega, p', pre', rr', e1, e2, e3, e4, e5, e6, e7⟩, ?_⟩
        have hsh := ra.short
        have hlen : pre.length + r2.length + 1 = r.length := by
          have := congrArg List.length er
          rw [List.length_cons, List.length_cons, List.length_append, List.length_cons] at this
          omega
        refine ⟨_, rfl, .inl ⟨rfl, _, SqL.of hR⟩, _, rfl, R, _, _, rfl, rfl, hR, ?_, ?_⟩
        · rw [nV_length, List.length_cons]
          exact size_lt (by omega)
        · have s5 : Same H (upd H4 R (.lst (nV (s0 :: pre) ++ [iV p]))) := s4.putN nR0
          refine ⟨_, rfl, _, rfl, _, rfl, _, rfl, a, b, c, n, ws, own, l, p, rfl, hw.same s5, hg, s5.seq hb, hown, s5.seq hc, hne, hsz, hl, hl _ hp, fun H6 s6 => ?_⟩
          refine ⟨_, pre ++ [p], r2, rfl, s5.trans s6, ?_, hlk _ hp, run2, ?_, rfl⟩
          · rw [s6 _ _ upd_same, ← List.cons_append, nV_append]
            rfl
          · rw [← er, List.append_assoc]
            rfl

abbrev sExch : Stmt := top 31
theorem scExch : FnScope ["wishes", "own", "there", "given", "ring", "person"] ["wishes", "own"] (defScope sExch) := ⟨rfl, rfl, rfl, by decide +kernel, rfl, by decide +kernel, by decide +kernel⟩
def spExch (K : PySem.W.Frag) : Sp := fun vs H Q _ => ∃ (a b : Addr) (n : Nat) (ws : List (List Nat)) (own : List Nat), vs = [.ref a, .ref b] ∧ WAt H a ws ∧ Gd n ws ∧ n ≤ 1000 ∧ SqL K H b (nV own) ∧ Rc57.each n own = true ∧
  ∀ p H', Same H H' → H' p = some (.lst (nV (Rc57.traded n ws own))) → Q (.ref p) H'
theorem without_more {l r : List Nat} {j : Nat} (h : j < l.length) (c : r.contains (l.getD j 0) = false) : without (l.take (j + 1)) r = without (l.take j) r ++ [l.getD j 0] := by
  unfold without
  rw [take_moreD h, List.filter_append, List.filter_cons_of_pos (by rw [c]; rfl), List.filter_nil]
theorem without_less {l r : List Nat} {j : Nat} (h : j < l.length) (c : r.contains (l.getD j 0) = true) : without (l.take (j + 1)) r = without (l.take j) r := by
  unfold without
  rw [take_moreD h, List.filter_append, List.filter_cons_of_neg (by rw [c]; exact Bool.false_ne_true), List.filter_nil, List.append_nil]
theorem without_len (l r : List Nat) : (without l r).length ≤ l.length := List.length_filter_le ..
theorem ok_exch {f : Addr} {fd : FuncData} (F : Fun K "exchanged" "exchanged" sExch f fd) (B : Bl mg) (C1 : Cal P w K mg base "looked_at" 3 ["wishes", "own", "there", "person"] (spLooked K))
    (C2 : Cal P w K mg base "ring_of" 4 ["wishes", "own", "there"] (spRing K)) : FnOk P w K mg base CX0 5 f fd ["wishes", "own"] (spExch K) := by
  refine F.ok scExch (fun vs H Q E h => ?_) (fun cdv A outer s H vs Q E hr h => ?_)
  · obtain ⟨a, b, n, ws, own, rfl, _⟩ := h
    rfl
  · obtain ⟨a, b, n, ws, own, rfl, hw, hg, hn, hb, hown, q⟩ := h
    have hr3 : Room 3 _ := hr.mono (by decide)
    refine ⟨_, pss_cons (ps_set (i := 2) scExch.nd rfl (.inl rfl) (pe_listRg rfl (by rfl) B.list (prg_1 (by rfl) B.range (pe_callB call_len_seq (by rfl) B.len PySem.boot_len (pa_cons (pv 0) pa_nil)))))
      (pss_cons (ps_set (i := 3) scExch.nd rfl (.inl rfl) (pe_callTy call_list_of (by rfl) B.list boot_list (pa_cons (pv 1) pa_nil)))
      (pss_cons (ps_while PassesOwn.never (pt_cmpR (op_neD hr.units) (pv 2) (pe_lst pa_nil) (nomark _))
        (pss_cons (ps_set (i := 4) scExch.nd rfl (.inr rfl) (pe_cal C2 hr (by rfl) (pa_cons (pv 0) (pa_cons (pv 1) (pa_cons (pv 2) pa_nil)))))
        (pss_cons (ps_for PassesOwn.never rfl (pi_list (pv 4)) (pg_name (i := 5) scExch.nd rfl (.inl rfl))
          (pss_one (ps_asg (pe_ix ix_list (pv 1) (pe_cal C1 hr3 (by rfl) (pa_cons (pv 0) (pa_cons (pv 1) (pa_cons (pv 2) (pa_cons (pv 5) pa_nil))))) (fun _ _ => rfl)) (pg_sub (pv 3) (pv 5) set_list))))
        (pss_one (ps_setLc (i := 2) (own := [("person", 5)]) (g := gName 5) (te := tVar 5) (by rfl) scExch.nd rfl rfl (sw_true rfl rfl rfl (by decide +kernel)) (pi_list (pv 2)) (blkOk_by (own := [("person", 5)]) (N := ["wishes", "own", "there", "given", "ring", "person"]) (sc := defScope sExch) (by decide +kernel))
          (fun _ _ _ _ _ => pg_name (i := 5) scExch.nd rfl (Or.inl rfl)) (fun _ _ _ _ _ => pts_one (pt_cmpR (r := rIn K true) op_notIn_seq (pv 5) (pv 4) (by rfl))) (fun _ _ _ _ _ => pv 5))))))
      (pss_one (ps_ret (pv 3))))), ?_⟩
    obtain ⟨rs, hw1, hw2, hw3⟩ := hw.sql
    have hlen : (rs.map V.ref).length = n := by rw [List.length_map, hw3, hg.len]
    have hol := each_len hown
    refine ⟨_, rfl, a, _, rfl, .inl (SqL.of hw1), ?_⟩
    rw [hlen]
    refine ⟨(n : Int), rfl, RgOk.of_le (by omega) (by omega) (by omega) (by omega), fun t0 nt0 => ?_⟩
    have s1 : Same H (upd H t0 (.lst (rgV 0 (n : Int)))) := same_upd nt0
    refine ⟨_, rfl, b, _, rfl, .inl (s1.seq hb), fun gv ngv => ?_⟩
    have ntg : t0 ≠ gv := ne_of_none upd_same ngv
    have ngv0 : H gv = none := s1.free ngv
    refine ⟨fun m σ H' => ∃ (th : Addr) (l g : List Nat) (v4 v5 : Option V), σ = [some (.ref a), some (.ref b), some (.ref th), some (.ref gv), v4, v5] ∧ Same H H' ∧ H' th = some (.lst (nV l)) ∧ H' gv = some (.lst (nV g)) ∧ th ≠ gv ∧ l.length ≤ n ∧ g.length = n ∧ ExRun n ws own m l g (Rc57.traded n ws own),
      ⟨n, t0, List.range n, own, none, none, rfl, s1.updN ngv, by rw [upd_ne ntg, upd_same, rgV_nat], upd_same, ntg, by rw [List.length_range]; exact Nat.le_refl _, hol, exchanged_is hg hown⟩, ?_⟩
    rintro m σ H1 ⟨th, l, g, v4, v5, rfl, s1, hth, hgv, ntg, hll, hgl, run⟩
    refine ⟨_, rfl, Nat.zero_le _, fun e ne => ?_⟩
    have se : Same H1 (upd H1 e (.lst [])) := same_upd ne
    refine ⟨_, _, dp_nV (SqL.of (se _ _ hth)), dp_nV (l := []) (SqL.of upd_same), dN_shaped _, dN_shaped _, _, rfl, ?_⟩
    rw [dN_eqv]
    have s2 := s1.trans se
    have hth2 := se _ _ hth
    have hgv2 := se _ _ hgv
    generalize upd H1 e (.lst []) = H2 at s2 hth2 hgv2 ⊢
    cases run with
    | stop =>
      rw [decide_eq_true rfl]
      exact iteF ⟨_, rfl, q gv _ s2 hgv2⟩
    | @go k _ _ _ s0 r hne hl ra hsub run2 =>
      rw [decide_eq_false hne]
      refine iteT ⟨fun σ' H' => ∃ (th : Addr) (l g : List Nat) (v4 v5 : Option V), σ' = [some (.ref a), some (.ref b), some (.ref th), some (.ref gv), v4, v5] ∧ Same H H' ∧ H' th = some (.lst (nV l)) ∧ H' gv = some (.lst (nV g)) ∧ th ≠ gv ∧ l.length ≤ n ∧ g.length = n ∧ ExRun n ws own k l g (Rc57.traded n ws own),
        fun σ' H' h => ⟨k, Nat.lt_succ_self k, h⟩, ?_⟩
      refine ⟨_, rfl, _, rfl, _, rfl, a, b, th, n, ws, own, l, s0, r, rfl, hw.same s2, hg, s2.seq hb, hown, SqL.of hth2, hne, by omega, hl, ra, fun R H3 s3 nR hR => ?_⟩
      have t3 := s2.trans s3
      have hgv3 := s3 _ _ hgv2
      have hth3 := s3 _ _ hth2
      have nRg : R ≠ gv := (ne_of_none hgv2 nR).symm
      have hln : ∀ i ∈ s0 :: r, i < n := fun i hi => hl i (hsub i hi)
      refine ⟨_, rfl, R, rfl, ⟨_, SqL.of hR⟩, for_list (K := K) (a := R) (xs := nV (s0 :: r)) (fun j σ H' => ∃ v5, σ = [some (.ref a), some (.ref b), some (.ref th), some (.ref gv), some (.ref R), v5] ∧ Same H H' ∧ H' th = some (.lst (nV l)) ∧ H' R = some (.lst (nV (s0 :: r))) ∧ H' gv = some (.lst (nV (setAll g ((pairsOf ws own l (s0 :: r)).take j)))))
        ⟨v5, rfl, t3, hth3, hR, hgv3⟩ (fun j σ H' _ ⟨_, _, _, _, e, _⟩ => SqL.of e) ?_ ?_⟩
      · rintro j x σ H4 hj ⟨v5, rfl, s4, h1, h2, h3⟩
        obtain ⟨hjl, rfl⟩ := nV_some hj
        have hp := hln _ (getD_mem hjl)
        have hz : (pairsOf ws own l (s0 :: r))[j]? = some ((s0 :: r).getD j 0, own.getD (Rc57.looks ws own l ((s0 :: r).getD j 0)) 0) := by
          unfold pairsOf
          rw [List.getElem?_map, List.getD_eq_getElem?_getD, List.getElem?_eq_getElem hjl]
          rfl
        rw [setAll_more hz]
        have hlk := hl _ (looks_mem hg hown hl hne hp)
        generalize (s0 :: r).getD j 0 = i at hp hlk ⊢
        refine ⟨_, rfl, _, rfl, _, rfl, _, rfl, _, rfl, a, b, th, n, ws, own, l, i, rfl, hw.same s4, hg, s4.seq hb, hown, SqL.of h1, hne, by omega, hl, hp, fun H5 s5 => ?_⟩
        have t5 := s4.trans s5
        refine ⟨b, _, ((Rc57.looks ws own l i : Nat) : Int), _, rfl, rfl, t5.seq hb, nV_at (by rw [hol]; exact hlk), ?_⟩
        refine ⟨_, rfl, _, rfl, gv, _, (i : Int), i, rfl, rfl, s5 _ _ h3, ixN_nat (by rw [nV_length, setAll_len, hgl]; exact hp), ?_⟩
        rw [nV_set]
        refine ⟨_, rfl, t5.putN ngv0, ?_, ?_, upd_same⟩
        · rw [upd_ne ntg]
          exact s5 _ _ h1
        · rw [upd_ne nRg]
          exact s5 _ _ h2
      · rintro σ H4 ⟨v5, rfl, s4, h1, h2, h3⟩
        have hpl : (pairsOf ws own l (s0 :: r)).length = (s0 :: r).length := List.length_map ..
        rw [nV_length, ← hpl, List.take_length] at h3
        refine ⟨_, rfl, th, rfl, ⟨_, SqL.of h1⟩, fun D nD => ?_⟩
        have nDg : D ≠ gv := (ne_of_none h3 nD).symm
        have nDR : D ≠ R := (ne_of_none h2 nD).symm
        have nDt : D ≠ th := (ne_of_none h1 nD).symm
        have nD0 : H D = none := s4.free nD
        refine lc_list (K := K) (a := th) (xs := nV l) (fun i H' => Same H H' ∧ H' th = some (.lst (nV l)) ∧ H' R = some (.lst (nV (s0 :: r))) ∧ H' gv = some (.lst (nV (setAll g (pairsOf ws own l (s0 :: r))))) ∧ H' D = some (.lst (nV (without (l.take i) (s0 :: r)))))
          ⟨s4.updN nD, by rw [upd_ne nDt.symm]; exact h1, by rw [upd_ne nDR.symm]; exact h2, by rw [upd_ne nDg.symm]; exact h3, upd_same⟩ (fun i H' _ ⟨_, e, _⟩ => SqL.of e) ?_ ?_
        · rintro i x H5 hi ⟨s5, g1, g2, g3, g4⟩
          obtain ⟨hil, rfl⟩ := nV_some hi
          refine ⟨rfl, _, rfl, _, rfl, R, nV (s0 :: r), rfl, .inl (SqL.of g2), rfl, nV_flat _, _, rfl, ?_⟩
          rw [show (if true = true then !inV (iV (l.getD i 0)) (nV (s0 :: r)) else inV (iV (l.getD i 0)) (nV (s0 :: r))) = !(s0 :: r).contains (l.getD i 0) by rw [if_pos rfl, in_nV]]
          cases c : (s0 :: r).contains (l.getD i 0) with
          | true =>
            refine iteF ⟨s5, g1, g2, g3, ?_⟩
            rw [without_less hil c]
            exact g4
          | false =>
            refine iteT ⟨_, rfl, _, g4, ?_, s5.putN nD0, by rw [upd_ne nDt.symm]; exact g1, by rw [upd_ne nDR.symm]; exact g2, by rw [upd_ne nDg.symm]; exact g3, ?_⟩
            · rw [nV_length]
              refine size_lt (Nat.le_trans (without_len _ _) ?_)
              rw [List.length_take]
              omega
            · rw [upd_same, without_more hil c, nV_append]
              rfl
        · rintro H5 ⟨s5, g1, g2, g3, g4⟩
          rw [nV_length, List.take_length] at g4
          exact ⟨D, _, _, _, _, rfl, s5, g4, g3, nDg, Nat.le_trans (without_len _ _) hll, by rw [setAll_len]; exact hgl, run2⟩
end
end Wg

/-! eating.py: the parts eaten, eaten_by, till_one_goes -/
namespace Wg
open PySem PySem.Spec PyProof.Rows L2

/-! ### what the loops reckon -/
def eatM (ws : List (List Nat)) (L : List (Nat × Nat)) : List Nat := ws.map fun row => (row.filter fun x => L.getD x (0, 1) != (0, 1)).headD 0
def farM (E : List Nat) (L : List (Nat × Nat)) (x : Nat) : Nat × Nat := fr (L.getD x (0, 1)).1 ((L.getD x (0, 1)).2 * E.count x)
def lessM (a b : Nat × Nat) : Bool := decide (a.1 * b.2 < b.1 * a.2)
def tillM (E : List Nat) (L : List (Nat × Nat)) (l : List Nat) : Nat × Nat := l.foldl (fun least x => if lessM (farM E L x) least = true then farM E L x else least) (1, 1)
def plusM (a b : Nat × Nat) : Nat × Nat := fr (a.1 * b.2 + b.1 * a.2) (a.2 * b.2)
def minusM (a b : Nat × Nat) : Nat × Nat := fr (a.1 * b.2 - b.1 * a.2) (a.2 * b.2)
def timesM (a : Nat × Nat) (m : Nat) : Nat × Nat := fr (a.1 * m) a.2
def sharesUpTo (S : List (List (Nat × Nat))) (E : List Nat) (far : Nat × Nat) : Nat → List (List (Nat × Nat))
  | 0 => S
  | j + 1 => (sharesUpTo S E far j).set j (((sharesUpTo S E far j).getD j []).set (E.getD j 0) (plusM (((sharesUpTo S E far j).getD j []).getD (E.getD j 0) (0, 1)) far))
def leftM (L : List (Nat × Nat)) (E : List Nat) (far : Nat × Nat) : List (Nat × Nat) := (List.range L.length).map fun x => minusM (L.getD x (0, 1)) (timesM far (E.count x))

/-! ### things at addresses -/
def AllAt {α : Type} (R : Addr → α → Prop) : List Addr → List α → Prop
  | [], [] => True
  | r :: rs, w :: ws => R r w ∧ AllAt R rs ws
  | _, _ => False
theorem AllAt.len {α : Type} {R : Addr → α → Prop} : ∀ {rs : List Addr} {ws : List α}, AllAt R rs ws → rs.length = ws.length
  | [], [], _ => rfl
  | _ :: _, _ :: _, h => by
    rw [List.length_cons, List.length_cons, AllAt.len h.2]
  | [], _ :: _, h => h.elim
  | _ :: _, [], h => h.elim
theorem AllAt.imp {α : Type} {R R' : Addr → α → Prop} : ∀ {rs : List Addr} {ws : List α}, (∀ r ∈ rs, ∀ w, R r w → R' r w) → AllAt R rs ws → AllAt R' rs ws
  | [], [], _, _ => trivial
  | r :: _, _ :: _, s, h => ⟨s r List.mem_cons_self _ h.1, AllAt.imp (fun q hq => s q (List.mem_cons_of_mem _ hq)) h.2⟩
  | [], _ :: _, _, h => h.elim
  | _ :: _, [], _, h => h.elim
theorem AllAt.get {α : Type} {R : Addr → α → Prop} {d : α} : ∀ {rs : List Addr} {ws : List α} {i : Nat}, AllAt R rs ws → i < ws.length → ∃ r, rs[i]? = some r ∧ R r (ws.getD i d)
  | [], [], _, _, h => absurd h (by simp)
  | r :: _, _ :: _, 0, h, _ => ⟨r, rfl, h.1⟩
  | _ :: _, _ :: _, i + 1, h, hi => AllAt.get (i := i) h.2 (by simpa using hi)
  | [], _ :: _, _, h, _ => h.elim
  | _ :: _, [], _, h, _ => h.elim
theorem AllAt.append {α : Type} {R : Addr → α → Prop} : ∀ {rs ss : List Addr} {ws vs : List α}, AllAt R rs ws → AllAt R ss vs → AllAt R (rs ++ ss) (ws ++ vs)
  | [], _, [], _, _, h => h
  | _ :: _, _, _ :: _, _, h, g => ⟨h.1, AllAt.append h.2 g⟩
  | [], _, _ :: _, _, h, _ => h.elim
  | _ :: _, _, [], _, h, _ => h.elim
/-- one changed, the others as they were -/
theorem AllAt.setAt {α : Type} {R R' : Addr → α → Prop} {r' : Addr} {x : α} (hx : R' r' x) : ∀ {rs : List Addr} {ws : List α} {i : Nat}, (∀ j r w, j ≠ i → rs[j]? = some r → R r w → R' r w) → AllAt R rs ws → AllAt R' (rs.set i r') (ws.set i x)
  | [], [], _, _, _ => trivial
  | r :: rs, w :: ws, 0, s, h => ⟨hx, h.2.imp fun q hq v hv => by
      obtain ⟨j, hj⟩ := List.mem_iff_getElem?.mp hq
      exact s (j + 1) q v (Nat.succ_ne_zero j) hj hv⟩
  | r :: rs, w :: ws, i + 1, s, h => ⟨s 0 r w (Nat.succ_ne_zero i).symm rfl h.1, AllAt.setAt hx (i := i) (fun j q v hj e hv => s (j + 1) q v (by omega) e hv) h.2⟩
  | [], _ :: _, _, _, h => h.elim
  | _ :: _, [], _, _, h => h.elim
theorem set_same {α : Type} : ∀ {l : List α} {i : Nat} {x : α}, l[i]? = some x → l.set i x = l
  | [], _, _, h => by simp at h
  | y :: l, 0, x, h => by
    have e : y = x := Option.some.inj h
    subst e
    rfl
  | y :: l, i + 1, x, h => by
    show y :: l.set i x = y :: l
    rw [set_same (l := l) (i := i) h]
abbrev FrAt (K : PySem.W.Frag) (H : Hp) : List Addr → List (Nat × Nat) → Prop := AllAt fun p q => TF K H p q
/-- the list of parts at a -/
def FAt (K : PySem.W.Frag) (H : Hp) (a : Addr) (L : List (Nat × Nat)) : Prop := ∃ ps : List Addr, H a = some (.lst (ps.map V.ref)) ∧ FrAt K H ps L
theorem FrAt.same {K : PySem.W.Frag} {H H' : Hp} {ps : List Addr} {L : List (Nat × Nat)} (s : Same H H') (h : FrAt K H ps L) : FrAt K H' ps L := h.imp fun _ _ _ z => z.same s
theorem FAt.same {K : PySem.W.Frag} {H H' : Hp} {a : Addr} {L : List (Nat × Nat)} (s : Same H H') (h : FAt K H a L) : FAt K H' a L := by
  obtain ⟨ps, h1, h2⟩ := h
  exact ⟨ps, s _ _ h1, h2.same s⟩
/-- a tuple stands where a list is written -/
theorem TF.put {K : PySem.W.Frag} {H : Hp} {p a : Addr} {q : Nat × Nat} {ys zs : List V} (hp : H p = some (.lst ys)) (h : TF K H a q) : TF K (upd H p (.lst zs)) a q := by
  rcases h with (h | ⟨o, h⟩) | h
  · have n : a ≠ p := ne_of h hp (by intro z; cases z)
    exact .inl (.inl (by rw [upd_ne n]; exact h))
  · have n : a ≠ p := ne_of h hp (by intro z; cases z)
    exact .inl (.inr ⟨o, by rw [upd_ne n]; exact h⟩)
  · exact .inr h

/-! ### parts as data -/
def dF (q : Nat × Nat) : PyData := .tuple [.int (q.1 : Int), .int (q.2 : Int)]
theorem dp_TF {K : PySem.W.Frag} {H : Hp} {p : Addr} {q : Nat × Nat} (h : TF K H p q) : Dp K H (.ref p) (dF q) := .tup h (.cons (.int _) (.cons (.int _) .nil))
theorem dF_lay (q : Nat × Nat) : (dF q).canLay0 = true := by simp [dF, PyData.canLay0, PyData.canLayAll0]
theorem dF_depth (q : Nat × Nat) : (dF q).depth = 1 := by simp [dF, PyData.depth, PyData.depthAll]
theorem dF_shaped (q : Nat × Nat) : SeqAt.shaped (dF q) = true := by
  have h := dF_depth q
  show ((dF q).canLay0 && decide ((dF q).depth ≤ 64)) = true
  rw [Bool.and_eq_true]
  exact ⟨dF_lay q, decide_eq_true (by omega)⟩
theorem dF_eqv (a b : Nat × Nat) : PyData.eqv (dF a) (dF b) = decide (a = b) := by
  obtain ⟨a1, a2⟩ := a
  obtain ⟨b1, b2⟩ := b
  have e : PyData.eqv (dF (a1, a2)) (dF (b1, b2)) = (((a1 : Int) == (b1 : Int)) && (((a2 : Int) == (b2 : Int)) && true)) := by simp only [dF, PyData.eqv, PyData.eqvAll]
  rw [e]
  by_cases h1 : a1 = b1
  · by_cases h2 : a2 = b2
    · subst h1 h2
      simp
    · have q : ((a2 : Int) == (b2 : Int)) = false := beq_eq_false_iff_ne.mpr (by omega)
      rw [q, Bool.false_and, Bool.and_false, decide_eq_false]
      exact fun z => h2 (Prod.mk.inj z).2
  · have q : ((a1 : Int) == (b1 : Int)) = false := beq_eq_false_iff_ne.mpr (by omega)
    rw [q, Bool.false_and, decide_eq_false]
    exact fun z => h1 (Prod.mk.inj z).1
theorem dFs_lay : ∀ l : List (Nat × Nat), PyData.canLayAll0 (l.map dF) = true
  | [] => by simp [PyData.canLayAll0]
  | z :: zs => by simp [PyData.canLayAll0, dF_lay z, dFs_lay zs]
theorem dFs_depth : ∀ l : List (Nat × Nat), PyData.depthAll (l.map dF) ≤ 1 + 1
  | [] => by simp [PyData.depthAll]
  | z :: zs => by
    have h1 := dFs_depth zs
    have h2 := dF_depth z
    simp only [List.map_cons, PyData.depthAll]
    omega
theorem dFs_shaped (l : List (Nat × Nat)) : SeqAt.shaped (.list (l.map dF)) = true := by
  have h1 := dFs_depth l
  have h2 : PyData.depth (.list (l.map dF)) ≤ 64 := by
    simp only [PyData.depth]
    omega
  show (PyData.canLay0 (.list (l.map dF)) && decide (PyData.depth (.list (l.map dF)) ≤ 64)) = true
  rw [Bool.and_eq_true]
  exact ⟨by simp only [PyData.canLay0]; exact dFs_lay l, decide_eq_true h2⟩
theorem dFs_eqvAll : ∀ a b : List (Nat × Nat), PyData.eqvAll (a.map dF) (b.map dF) = decide (a = b)
  | [], [] => by simp [PyData.eqvAll]
  | [], _ :: _ => by simp [PyData.eqvAll]
  | _ :: _, [] => by simp [PyData.eqvAll]
  | x :: a, y :: b => by
    simp only [List.map_cons, PyData.eqvAll, dF_eqv, dFs_eqvAll a b]
    by_cases c : x = y
    · subst c
      simp
    · simp [c]
theorem dFs_eqv (a b : List (Nat × Nat)) : PyData.eqv (.list (a.map dF)) (.list (b.map dF)) = decide (a = b) := by
  simp only [PyData.eqv, dFs_eqvAll]
theorem dp_FrAt {K : PySem.W.Frag} {H : Hp} : ∀ {ps : List Addr} {L : List (Nat × Nat)}, FrAt K H ps L → DpAll K H (ps.map V.ref) (L.map dF)
  | [], [], _ => .nil
  | _ :: _, _ :: _, h => .cons (dp_TF h.1) (dp_FrAt h.2)
  | [], _ :: _, h => h.elim
  | _ :: _, [], h => h.elim
theorem dp_FAt {K : PySem.W.Frag} {H : Hp} {a : Addr} {L : List (Nat × Nat)} (h : FAt K H a L) : Dp K H (.ref a) (.list (L.map dF)) := by
  obtain ⟨ps, h1, h2⟩ := h
  exact .lst (SqL.of h1) (dp_FrAt h2)

/-- the module's two parts -/
structure Cst (K : PySem.W.Frag) (mg : Str → Option Value) (nA wA : Addr) : Prop where
  mgN : mg "NOTHING" = some (.ref nA)
  mgW : mg "WHOLE" = some (.ref wA)
  tN : ∀ H, TF K H nA (0, 1)
  tW : ∀ H, TF K H wA (1, 1)

section
variable {P : Program} {w : World} {K : PySem.W.Frag} {mg : Str → Option Value} {base : Heap} {nA wA : Addr}

abbrev sEatenBy : Stmt := top 11
theorem scEatenBy : FnScope ["wishes", "left", "found", "row", "thing"] ["wishes", "left"] (defScope sEatenBy) := ⟨rfl, rfl, rfl, by decide +kernel, rfl, by decide +kernel, by decide +kernel⟩
def spEatenBy (K : PySem.W.Frag) : Sp := fun vs H Q _ => ∃ (a l : Addr) (ws : List (List Nat)) (L : List (Nat × Nat)), vs = [.ref a, .ref l] ∧ WAt H a ws ∧ ws.length ≤ 1000 ∧ FAt K H l L ∧ (∀ row ∈ ws, row.length ≤ 1000 ∧ (∀ x ∈ row, x < L.length) ∧ (row.filter fun x => L.getD x (0, 1) != (0, 1)) ≠ []) ∧
  ∀ p H', Same H H' → H p = none → H' p = some (.lst (nV (eatM ws L))) → Q (.ref p) H'
theorem filter_more {p : Nat → Bool} {l : List Nat} {j : Nat} (h : j < l.length) (c : p (l.getD j 0) = true) : (l.take (j + 1)).filter p = (l.take j).filter p ++ [l.getD j 0] := by
  rw [take_moreD h, List.filter_append, List.filter_cons_of_pos c, List.filter_nil]
theorem filter_less {p : Nat → Bool} {l : List Nat} {j : Nat} (h : j < l.length) (c : p (l.getD j 0) = false) : (l.take (j + 1)).filter p = (l.take j).filter p := by
  rw [take_moreD h, List.filter_append, List.filter_cons_of_neg (by rw [c]; exact Bool.false_ne_true), List.filter_nil, List.append_nil]
theorem ne_dec (a b : Nat × Nat) : (!decide (a = b)) = (a != b) := by
  rw [bne, Bool.beq_eq_decide_eq]
theorem eatM_more {ws : List (List Nat)} {L : List (Nat × Nat)} {j : Nat} (h : j < ws.length) : eatM (ws.take (j + 1)) L = eatM (ws.take j) L ++ [((ws.getD j []).filter fun x => L.getD x (0, 1) != (0, 1)).headD 0] := by
  have e : ws[j]? = some (ws.getD j []) := by
    rw [List.getD_eq_getElem?_getD, List.getElem?_eq_getElem h]
    rfl
  unfold eatM
  rw [take_more e, List.map_append]
  rfl
theorem eatM_len (ws : List (List Nat)) (L : List (Nat × Nat)) : (eatM ws L).length = ws.length := List.length_map ..
theorem ok_eaten_by {f : Addr} {fd : FuncData} (F : Fun K "eaten_by" "eaten_by" sEatenBy f fd) (T : Cst K mg nA wA) : FnOk P w K mg base CX0 1 f fd ["wishes", "left"] (spEatenBy K) := by
  refine F.ok scEatenBy (fun vs H Q E h => ?_) (fun cdv A outer s H vs Q E hr h => ?_)
  · obtain ⟨a, l, ws, L, rfl, _⟩ := h
    rfl
  · obtain ⟨a, l, ws, L, rfl, hw, hwl, hl, hrow, q⟩ := h
    refine ⟨_, pss_cons (ps_set (i := 2) scEatenBy.nd rfl (.inl rfl) (pe_lst pa_nil))
      (pss_cons (ps_for PassesOwn.never rfl (pi_list (pv 0)) (pg_name (i := 3) scEatenBy.nd rfl (.inl rfl))
        (pss_one (ps_expr (pe_bm PySem.F.plainAttrs_list PySem.F.slot_list_append PySem.F.type_list_append mt_append (pv 2) (pa_cons (pe_ix ix_list
            (pe_lc (own := [("thing", 4)]) (g := gName 4) (te := tVar 4) (by rfl) scEatenBy.nd (pi_list (pv 3)) (blkOk_by (own := [("thing", 4)]) (N := ["wishes", "left", "found", "row", "thing"]) (sc := defScope sEatenBy) (by decide +kernel))
              (fun _ _ _ _ _ => pg_name (i := 4) scEatenBy.nd rfl (Or.inl rfl))
              (fun _ _ _ _ _ => pts_one (pt_cmpR (r := rNeD K) (op_neD hr.units) (pe_ix (r := rIxL K) ix_list (pv 1) (pv 4) (fun _ _ => rfl)) (pe_glob (v := .ref nA) rfl T.mgN rfl) (nomark _)))
              (fun _ _ _ _ _ => pv 4)) pe_int (fun _ _ => rfl)) pa_nil)))))
      (pss_one (ps_ret (pv 2)))), ?_⟩
    obtain ⟨rs, hw1, hw2, hw3⟩ := hw.sql
    refine ⟨Nat.zero_le _, fun o no => ?_⟩
    have s0 : Same H (upd H o (.lst [])) := same_upd no
    refine ⟨_, rfl, a, rfl, ⟨_, SqL.of (s0 _ _ hw1)⟩, for_list (K := K) (a := a) (xs := rs.map V.ref) (fun j σ H' => ∃ v3, σ = [some (.ref a), some (.ref l), some (.ref o), v3, none] ∧ Same H H' ∧ H' o = some (.lst (nV (eatM (ws.take j) L))))
      ⟨none, rfl, s0, upd_same⟩ (fun j σ H' _ ⟨_, _, s1, _⟩ => SqL.of (s1 _ _ hw1)) ?_ ?_⟩
    · rintro j x σ H1 hj ⟨v3, rfl, s1, h1⟩
      obtain ⟨r, hr1, rfl⟩ := refs_some hj
      obtain ⟨hjl, hro⟩ := hw2.item hr1
      rw [eatM_more hjl]
      obtain ⟨hr0, hr2, hr3⟩ := hrow _ (getD_mem' (d := []) hjl)
      generalize ws.getD j [] = row at *
      refine ⟨_, rfl, .inl ⟨rfl, _, SqL.of h1⟩, ?_⟩
      refine ⟨_, rfl, r, rfl, ⟨_, SqL.of (s1 _ _ hro)⟩, fun D nD => ?_⟩
      have nDo : o ≠ D := ne_of_none h1 nD
      have nD0 : H D = none := s1.free nD
      refine lc_list (K := K) (a := r) (xs := nV row) (fun i H' => Same H H' ∧ H' o = some (.lst (nV (eatM (ws.take j) L))) ∧ H' D = some (.lst (nV ((row.take i).filter fun x => L.getD x (0, 1) != (0, 1)))))
        ⟨s1.updN nD, by rw [upd_ne nDo]; exact h1, upd_same⟩ (fun i H' _ ⟨s2, _⟩ => SqL.of (s2 _ _ hro)) ?_ ?_
      · rintro i x H2 hi ⟨s2, h2, h3⟩
        obtain ⟨hil, rfl⟩ := nV_some hi
        obtain ⟨ps, hl1, hl2⟩ := hl.same s2
        have hx := hr2 _ (getD_mem hil)
        obtain ⟨p, hp1, hp2⟩ := hl2.get (d := (0, 1)) hx
        refine ⟨rfl, _, rfl, _, rfl, l, _, ((row.getD i 0 : Nat) : Int), .ref p, rfl, rfl, SqL.of hl1, atI_nat (refs_get hp1), ?_⟩
        refine ⟨_, _, dp_TF hp2, dp_TF (T.tN _), dF_shaped _, dF_shaped _, _, rfl, ?_⟩
        rw [dF_eqv, ne_dec]
        cases c : (L.getD (row.getD i 0) (0, 1) != (0, 1)) with
        | true =>
          refine iteT ⟨_, rfl, _, h3, ?_, s2.putN nD0, by rw [upd_ne nDo]; exact h2, ?_⟩
          · rw [nV_length]
            refine size_lt (Nat.le_trans (List.length_filter_le ..) ?_)
            rw [List.length_take]
            omega
          · rw [upd_same, filter_more (p := fun x => L.getD x (0, 1) != (0, 1)) hil c, nV_append]
            rfl
        | false =>
          refine iteF ⟨s2, h2, ?_⟩
          rw [filter_less (p := fun x => L.getD x (0, 1) != (0, 1)) hil c]
          exact h3
      · rintro H2 ⟨s2, h2, h3⟩
        rw [nV_length, List.take_length] at h3
        have hpos := List.length_pos_iff.mpr hr3
        refine ⟨D, _, 0, _, rfl, rfl, SqL.of h3, nV_at0 hpos, o, _, _, rfl, rfl, h2, ?_, ?_⟩
        · rw [nV_length, eatM_len, List.length_take]
          exact size_lt (by omega)
        · refine ⟨_, rfl, s2.putN no, ?_⟩
          rw [upd_same, nV_append]
          congr 3
          show [iV _] = [iV _]
          congr 2
          generalize (row.filter fun x => L.getD x (0, 1) != (0, 1)) = z
          cases z with
          | nil => rfl
          | cons u z => rfl
    · rintro σ H1 ⟨v3, rfl, s1, h1⟩
      refine ⟨_, rfl, q o H1 s1 no ?_⟩
      rw [List.length_map, hw3, List.take_length] at h1
      exact h1

abbrev sTill : Stmt := top 12
theorem scTill : FnScope ["eaten", "left", "least", "thing", "far"] ["eaten", "left"] (defScope sTill) := ⟨rfl, rfl, rfl, by decide +kernel, rfl, by decide +kernel, by decide +kernel⟩
def spTill (K : PySem.W.Frag) : Sp := fun vs H Q _ => ∃ (e l : Addr) (E : List Nat) (L : List (Nat × Nat)), vs = [.ref e, .ref l] ∧ SqL K H e (nV E) ∧ E.length ≤ 1000 ∧ FAt K H l L ∧ (∀ x ∈ E, x < L.length ∧ Small (L.getD x (0, 1)) ∧ 0 < (L.getD x (0, 1)).2 ∧ Small (farM E L x)) ∧
  ∀ p H', Same H H' → TF K H' p (tillM E L E) → Q (.ref p) H'
theorem small_one : Small (1, 1) := ⟨by decide, by decide⟩
theorem tillM_small {E : List Nat} {L : List (Nat × Nat)} : ∀ (l : List Nat) (b : Nat × Nat), (∀ x ∈ l, Small (farM E L x)) → Small b → Small (l.foldl (fun least x => if lessM (farM E L x) least = true then farM E L x else least) b)
  | [], _, _, hb => hb
  | x :: l, b, h, hb => by
    refine tillM_small l _ (fun y hy => h y (List.mem_cons_of_mem _ hy)) ?_
    show Small (if lessM (farM E L x) b = true then farM E L x else b)
    split
    · exact h x List.mem_cons_self
    · exact hb
theorem count_nV (E : List Nat) (x : Nat) : (E.map fun (x : Nat) => (x : Int)).count (x : Int) = E.count x := by
  induction E with
  | nil => rfl
  | cons y E ih =>
    rw [List.map_cons, List.count_cons, List.count_cons, ih]
    congr 1
    by_cases c : y = x
    · subst c
      simp
    · have h1 : ((y : Int) == (x : Int)) = false := beq_eq_false_iff_ne.mpr (by omega)
      have h2 : (y == x) = false := beq_eq_false_iff_ne.mpr c
      rw [h1, h2]
theorem tillM_more {E l : List Nat} {L : List (Nat × Nat)} {j : Nat} (h : j < l.length) : tillM E L (l.take (j + 1)) = if lessM (farM E L (l.getD j 0)) (tillM E L (l.take j)) = true then farM E L (l.getD j 0) else tillM E L (l.take j) := by
  unfold tillM
  rw [take_moreD h, List.foldl_append]
  rfl
theorem ok_till {f : Addr} {fd : FuncData} (F : Fun K "till_one_goes" "till_one_goes" sTill f fd) (T : Cst K mg nA wA) (C1 : Cal P w K mg base "over" 3 ["one", "many"] (spOver K)) (C2 : Cal P w K mg base "is_less" 1 ["one", "other"] (spLess K)) :
    FnOk P w K mg base CX0 4 f fd ["eaten", "left"] (spTill K) := by
  refine F.ok scTill (fun vs H Q E h => ?_) (fun cdv A outer s H vs Q E hr h => ?_)
  · obtain ⟨e, l, E, L, rfl, _⟩ := h
    rfl
  · obtain ⟨e, l, E, L, rfl, he, hel, hl, hall, q⟩ := h
    have hr1 : Room 1 _ := hr.mono (by decide)
    refine ⟨_, pss_cons (ps_set (i := 2) scTill.nd rfl (.inl rfl) (pe_glob (v := .ref wA) rfl T.mgW rfl))
      (pss_cons (ps_for PassesOwn.never rfl (pi_list (pv 0)) (pg_name (i := 3) scTill.nd rfl (.inl rfl))
        (pss_cons (ps_set (i := 4) scTill.nd rfl (.inl rfl) (pe_cal C1 hr (by rfl) (pa_cons (pe_ix ix_list (pv 1) (pv 3) (fun _ _ => rfl)) (pa_cons (pe_bm PySem.F.plainAttrs_list PySem.F.slot_list_count PySem.F.type_list_count mt_lcount (pv 0) (pa_cons (pv 3) pa_nil)) pa_nil))))
        (pss_one (ps_if (pt_val (pe_cal C2 hr1 (by rfl) (pa_cons (pv 4) (pa_cons (pv 2) pa_nil)))) (pss_one (ps_set (i := 2) scTill.nd rfl (.inl rfl) (pv 4))) pss_nil))))
      (pss_one (ps_ret (pv 2)))), ?_⟩
    refine ⟨_, rfl, e, rfl, ⟨_, he⟩, for_list (K := K) (a := e) (xs := nV E) (fun j σ H' => ∃ lp v3 v4, σ = [some (.ref e), some (.ref l), some (.ref lp), v3, v4] ∧ Same H H' ∧ TF K H' lp (tillM E L (E.take j)))
      ⟨wA, none, none, rfl, Same.refl _, T.tW _⟩ (fun j σ H' _ ⟨_, _, _, _, s1, _⟩ => s1.seq he) ?_ ?_⟩
    · rintro j x σ H1 hj ⟨lp, v3, v4, rfl, s1, h1⟩
      obtain ⟨hjl, rfl⟩ := nV_some hj
      rw [tillM_more hjl]
      have hsm : Small (tillM E L (E.take j)) := tillM_small _ _ (fun x hx => (hall x (List.mem_of_mem_take hx)).2.2.2) small_one
      obtain ⟨a1, a2, a3, a4⟩ := hall _ (getD_mem hjl)
      have hcnt : 0 < E.count (E.getD j 0) := List.count_pos_iff.mpr (getD_mem hjl)
      have hcl : E.count (E.getD j 0) ≤ E.length := List.count_le_length
      generalize E.getD j 0 = x at *
      obtain ⟨ps, hl1, hl2⟩ := hl.same s1
      obtain ⟨p, hp1, hp2⟩ := hl2.get (d := (0, 1)) a1
      refine ⟨_, rfl, _, rfl, l, _, (x : Int), .ref p, rfl, rfl, SqL.of hl1, atI_nat (refs_get hp1), ?_⟩
      refine ⟨_, rfl, .inl ⟨rfl, _, s1.seq he⟩, _, rfl, e, E.map (fun (x : Nat) => (x : Int)), (x : Int), rfl, rfl, by rw [← nV_ints]; exact s1.seq he, ?_⟩
      refine ⟨p, E.count x, L.getD x (0, 1), by rw [count_nV]; rfl, hp2, a2, a3, hcnt, Nat.lt_of_le_of_lt (Nat.le_trans hcl hel) (by decide), fun r H2 s2 hr2 => ?_⟩
      refine ⟨_, rfl, _, rfl, r, lp, _, _, rfl, hr2, h1.same s2, a4, hsm, _, rfl, ?_⟩
      refine ite2 (fun c => ?_) (fun c => ?_)
      · refine ⟨_, rfl, r, _, _, rfl, s1.trans s2, ?_⟩
        have c' : lessM (farM E L x) (tillM E L (E.take j)) = true := c
        rw [if_pos c']
        exact hr2
      · refine ⟨lp, _, _, rfl, s1.trans s2, ?_⟩
        have c' : ¬ lessM (farM E L x) (tillM E L (E.take j)) = true := c
        rw [if_neg c']
        exact h1.same s2
    · rintro σ H1 ⟨lp, v3, v4, rfl, s1, h1⟩
      rw [nV_length, List.take_length] at h1
      exact ⟨_, rfl, q lp H1 s1 h1⟩
end
end Wg

/-! eating.py: eaten_shares -/
namespace Wg
open PySem PySem.Spec PyProof.Rows L2

structure EOk (n : Nat) (ws : List (List Nat)) (L : List (Nat × Nat)) (S : List (List (Nat × Nat))) : Prop where
  ll : L.length = n
  sl : S.length = n
  sr : ∀ i, i < n → (S.getD i []).length = n
  some : ∀ row ∈ ws, (row.filter fun x => L.getD x (0, 1) != (0, 1)) ≠ []
  ls : ∀ x, x < n → Small (L.getD x (0, 1)) ∧ 0 < (L.getD x (0, 1)).2
  fs : ∀ x ∈ eatM ws L, Small (farM (eatM ws L) L x)
  ss : ∀ i x, i < n → x < n → Small ((S.getD i []).getD x (0, 1)) ∧ 0 < ((S.getD i []).getD x (0, 1)).2
  tp : 0 < (tillM (eatM ws L) L (eatM ws L)).2
  ts : ∀ x, x < n → Small (timesM (tillM (eatM ws L) L (eatM ws L)) ((eatM ws L).count x)) ∧ 0 < (timesM (tillM (eatM ws L) L (eatM ws L)) ((eatM ws L).count x)).2 ∧
    (timesM (tillM (eatM ws L) L (eatM ws L)) ((eatM ws L).count x)).1 * (L.getD x (0, 1)).2 ≤ (L.getD x (0, 1)).1 * (timesM (tillM (eatM ws L) L (eatM ws L)) ((eatM ws L).count x)).2
inductive EatRun (n : Nat) (ws : List (List Nat)) : Nat → List (Nat × Nat) → List (List (Nat × Nat)) → List (List (Nat × Nat)) → Prop where
  | stop {k : Nat} {S : List (List (Nat × Nat))} : EatRun n ws k (List.replicate n (0, 1)) S S
  | go {k : Nat} {L : List (Nat × Nat)} {S S' : List (List (Nat × Nat))} : L ≠ List.replicate n (0, 1) → EOk n ws L S →
      EatRun n ws k (leftM L (eatM ws L) (tillM (eatM ws L) L (eatM ws L))) (sharesUpTo S (eatM ws L) (tillM (eatM ws L) L (eatM ws L)) n) S' → EatRun n ws (k + 1) L S S'

theorem getD_set_ne {α : Type} {l : List α} {i j : Nat} {x d : α} (h : i ≠ j) : (l.set i x).getD j d = l.getD j d := by
  rw [List.getD_eq_getElem?_getD, List.getElem?_set_ne h, ← List.getD_eq_getElem?_getD]
theorem getD_set_eq {α : Type} {l : List α} {i : Nat} {x d : α} (h : i < l.length) : (l.set i x).getD i d = x := by
  rw [List.getD_eq_getElem?_getD, List.getElem?_set_self h]
  rfl
theorem sharesUpTo_ge (S : List (List (Nat × Nat))) (E : List Nat) (far : Nat × Nat) : ∀ (j i : Nat), j ≤ i → (sharesUpTo S E far j).getD i [] = S.getD i []
  | 0, _, _ => rfl
  | j + 1, i, h => by
    show ((sharesUpTo S E far j).set j _).getD i [] = _
    rw [getD_set_ne (by omega), sharesUpTo_ge S E far j i (by omega)]
theorem sharesUpTo_len (S : List (List (Nat × Nat))) (E : List Nat) (far : Nat × Nat) : ∀ j : Nat, (sharesUpTo S E far j).length = S.length
  | 0 => rfl
  | j + 1 => by
    show ((sharesUpTo S E far j).set j _).length = _
    rw [List.length_set, sharesUpTo_len S E far j]
theorem leftM_get {L : List (Nat × Nat)} {E : List Nat} {far : Nat × Nat} {x : Nat} (h : x < L.length) : (leftM L E far)[x]? = some (minusM (L.getD x (0, 1)) (timesM far (E.count x))) := by
  unfold leftM
  rw [List.getElem?_map, List.getElem?_range h]
  rfl
theorem leftM_len (L : List (Nat × Nat)) (E : List Nat) (far : Nat × Nat) : (leftM L E far).length = L.length := by
  unfold leftM
  rw [List.length_map, List.length_range]
theorem eatM_mem {n : Nat} {ws : List (List Nat)} {L : List (Nat × Nat)} (g : Gd n ws) (h : ∀ row ∈ ws, (row.filter fun x => L.getD x (0, 1) != (0, 1)) ≠ []) : ∀ x ∈ eatM ws L, x < n := by
  intro x hx
  obtain ⟨row, hr, e⟩ := List.mem_map.mp hx
  have hne := h row hr
  have he := g.all row hr
  rw [← e]
  cases hz : (row.filter fun x => L.getD x (0, 1) != (0, 1)) with
  | nil => exact absurd hz hne
  | cons u z =>
    have : u ∈ row.filter fun x => L.getD x (0, 1) != (0, 1) := by
      rw [hz]
      exact List.mem_cons_self
    exact (each_mem he).mp (List.mem_filter.mp this).1

/-- the rows of shares -/
abbrev ShAt (K : PySem.W.Frag) (H : Hp) : List Addr → List (List (Nat × Nat)) → Prop := AllAt fun r fs => ∃ ts : List Addr, H r = some (.lst (ts.map V.ref)) ∧ FrAt K H ts fs
theorem ShAt.same {K : PySem.W.Frag} {H H' : Hp} {ps : List Addr} {S : List (List (Nat × Nat))} (s : Same H H') (h : ShAt K H ps S) : ShAt K H' ps S :=
  h.imp fun _ _ _ ⟨ts, h1, h2⟩ => ⟨ts, s _ _ h1, h2.same s⟩
/-- all that was, but the lists at rs -/
def But (rs : List Addr) (H H' : Hp) : Prop := ∀ b o, H b = some o → b ∉ rs → H' b = some o
theorem frAt_rep {K : PySem.W.Frag} {H : Hp} {p : Addr} {q : Nat × Nat} (h : TF K H p q) : ∀ n : Nat, FrAt K H (List.replicate n p) (List.replicate n q)
  | 0 => trivial
  | n + 1 => ⟨h, frAt_rep h n⟩
theorem TF.but {K : PySem.W.Frag} {H H' : Hp} {rs : List Addr} {a : Addr} {q : Nat × Nat} (hr : ∀ r ∈ rs, ∃ ys, H r = some (.lst ys)) (b : But rs H H') (h : TF K H a q) : TF K H' a q := by
  have no : ∀ {o : HO}, H a = some o → (∀ ys, o ≠ .lst ys) → a ∉ rs := fun e d m => by
    obtain ⟨ys, hy⟩ := hr a m
    rw [hy] at e
    exact d ys (Option.some.inj e).symm
  rcases h with (h | ⟨o, h⟩) | h
  · exact .inl (.inl (b _ _ h (no h (fun ys z => by cases z))))
  · exact .inl (.inr ⟨o, b _ _ h (no h (fun ys z => by cases z))⟩)
  · exact .inr h

section
variable {P : Program} {w : World} {K : PySem.W.Frag} {mg : Str → Option Value} {base : Heap} {nA wA : Addr}

abbrev sEatenShares : Stmt := top 13
theorem scEatenShares : FnScope ["wishes", "left", "thing", "shares", "eaten", "far", "person", "row"] ["wishes"] (defScope sEatenShares) := ⟨rfl, rfl, rfl, by decide +kernel, rfl, by decide +kernel, by decide +kernel⟩
def spEatenShares (K : PySem.W.Frag) : Sp := fun vs H Q _ => ∃ (a : Addr) (n k : Nat) (ws : List (List Nat)) (S' : List (List (Nat × Nat))), vs = [.ref a] ∧ WAt H a ws ∧ Gd n ws ∧ n ≤ 1000 ∧
  EatRun n ws k (List.replicate n (1, 1)) (List.replicate n (List.replicate n (0, 1))) S' ∧
  ∀ p H' rs, Same H H' → H' p = some (.lst (rs.map V.ref)) → ShAt K H' rs S' → Q (.ref p) H'
theorem ok_eaten_shares {f : Addr} {fd : FuncData} (F : Fun K "eaten_shares" "eaten_shares" sEatenShares f fd) (B : Bl mg) (T : Cst K mg nA wA)
    (C1 : Cal P w K mg base "eaten_by" 1 ["wishes", "left"] (spEatenBy K)) (C2 : Cal P w K mg base "till_one_goes" 4 ["eaten", "left"] (spTill K))
    (C3 : Cal P w K mg base "plus" 3 ["one", "other"] (spPlus K)) (C4 : Cal P w K mg base "minus" 3 ["one", "other"] (spMinus K)) (C5 : Cal P w K mg base "times" 3 ["one", "many"] (spTimes K)) :
    FnOk P w K mg base CX0 5 f fd ["wishes"] (spEatenShares K) := by
  refine F.ok scEatenShares (fun vs H Q E h => ?_) (fun cdv A outer s H vs Q E hr h => ?_)
  · obtain ⟨a, n, k, ws, S', rfl, _⟩ := h
    rfl
  · obtain ⟨a, n, k, ws, S', rfl, hw, hg, hn, run, q⟩ := h
    have hr1 : Room 1 _ := hr.mono (by decide)
    have hr3 : Room 3 _ := hr.mono (by decide)
    refine ⟨_, pss_cons (ps_set (i := 1) scEatenShares.nd rfl (.inr rfl)
        (pe_lc (own := [("row", 7)]) (g := gName 7) (tt := tYes) (te := tC (.ref wA)) (by rfl) scEatenShares.nd (pi_list (pv 0)) (blkOk_by (own := [("row", 7)]) (N := ["wishes", "left", "thing", "shares", "eaten", "far", "person", "row"]) (sc := defScope sEatenShares) (by decide +kernel))
          (fun _ _ _ _ _ => pg_name (i := 7) scEatenShares.nd rfl (Or.inl rfl)) (fun _ _ _ _ _ => pts_nil) (fun _ _ _ _ _ => pe_glob (v := .ref wA) rfl T.mgW rfl)))
      (pss_cons (ps_setLc (i := 3) (own := [("row", 7)]) (g := gName 7) (tt := tYes) (te := tLc (iList K (tVar 7)) (gName 2) tYes (tC (.ref nA)) [2]) (by rfl) scEatenShares.nd rfl rfl (sw_true rfl rfl rfl (by decide +kernel)) (pi_list (pv 0))
          (blkOk_by (own := [("row", 7)]) (N := ["wishes", "left", "thing", "shares", "eaten", "far", "person", "row"]) (sc := defScope sEatenShares) (by decide +kernel))
          (fun _ _ _ _ _ => pg_name (i := 7) scEatenShares.nd rfl (Or.inl rfl)) (fun _ _ _ _ _ => pts_nil)
          (fun _ _ _ _ _ => pe_lc (own := [("thing", 2)]) (g := gName 2) (tt := tYes) (te := tC (.ref nA)) (by rfl) scEatenShares.nd (pi_list (pv 7)) (blkOk_by (own := [("thing", 2)]) (N := ["wishes", "left", "thing", "shares", "eaten", "far", "person", "row"]) (sc := { kind := .function, names := [(".0", .local), ("row", .local)], isGenerator := false, isCoroutine := false }) (by decide +kernel))
            (fun _ _ _ _ _ => pg_name (i := 2) scEatenShares.nd rfl (Or.inl rfl)) (fun _ _ _ _ _ => pts_nil) (fun _ _ _ _ _ => pe_glob (v := .ref nA) rfl T.mgN rfl)))
      (pss_cons (ps_while PassesOwn.never (pt_cmpR (op_neD hr.units) (pv 1)
          (pe_lc (own := [("row", 7)]) (g := gName 7) (tt := tYes) (te := tC (.ref nA)) (by rfl) scEatenShares.nd (pi_list (pv 0)) (blkOk_by (own := [("row", 7)]) (N := ["wishes", "left", "thing", "shares", "eaten", "far", "person", "row"]) (sc := defScope sEatenShares) (by decide +kernel))
            (fun _ _ _ _ _ => pg_name (i := 7) scEatenShares.nd rfl (Or.inl rfl)) (fun _ _ _ _ _ => pts_nil) (fun _ _ _ _ _ => pe_glob (v := .ref nA) rfl T.mgN rfl)) (nomark _))
        (pss_cons (ps_set (i := 4) scEatenShares.nd rfl (.inr rfl) (pe_cal C1 hr1 (by rfl) (pa_cons (pv 0) (pa_cons (pv 1) pa_nil))))
        (pss_cons (ps_set (i := 5) scEatenShares.nd rfl (.inr rfl) (pe_cal C2 hr (by rfl) (pa_cons (pv 4) (pa_cons (pv 1) pa_nil))))
        (pss_cons (ps_for PassesOwn.never rfl (pi_enum (by rfl) B.enumerate (pa_cons (pv 4) pa_nil)) (pg_tup rfl (pgs_cons (pg_name (i := 6) scEatenShares.nd rfl (.inl rfl)) (pgs_cons (pg_name (i := 2) scEatenShares.nd rfl (.inl rfl)) pgs_nil)))
          (pss_one (ps_asg (pe_cal C3 hr3 (by rfl) (pa_cons (pe_ix ix_list (pe_ix ix_list (pv 3) (pv 6) (fun _ _ => rfl)) (pv 2) (fun _ _ => rfl)) (pa_cons (pv 5) pa_nil))) (pg_sub (pe_ix ix_list (pv 3) (pv 6) (fun _ _ => rfl)) (pv 2) set_list))))
        (pss_one (ps_set (i := 1) scEatenShares.nd rfl (.inr rfl)
          (pe_lc (own := [("thing", 2)]) (g := gName 2) (tt := tYes) (te := tCall (spMinus K) [] E0 (tCons (tOp (rIxL K) (tVar 1) (tVar 2)) (tCons (tCall (spTimes K) [] E0 (tCons (tVar 5) (tCons (tBM K "list" (rCntI K) (tVar 4) (tCons (tVar 2) tNil)) tNil))) tNil)))
            (by rfl) scEatenShares.nd (pi_range1 (by rfl) B.range (pa_cons (pe_callB call_len_seq (by rfl) B.len PySem.boot_len (pa_cons (pv 1) pa_nil)) pa_nil)) (blkOk_by (own := [("thing", 2)]) (N := ["wishes", "left", "thing", "shares", "eaten", "far", "person", "row"]) (sc := defScope sEatenShares) (by decide +kernel))
            (fun _ _ _ _ _ => pg_name (i := 2) scEatenShares.nd rfl (Or.inl rfl)) (fun _ _ _ _ _ => pts_nil)
            (fun _ _ _ _ _ => pe_cal C4 hr3 (by rfl) (pa_cons (pe_ix (r := rIxL K) ix_list (pv 1) (pv 2) (fun _ _ => rfl)) (pa_cons (pe_cal C5 hr3 (by rfl) (pa_cons (pv 5) (pa_cons (pe_bm PySem.F.plainAttrs_list PySem.F.slot_list_count PySem.F.type_list_count mt_lcount (pv 4) (pa_cons (pv 2) pa_nil)) pa_nil))) pa_nil))))))))))
      (pss_one (ps_ret (pv 3))))), ?_⟩
    obtain ⟨rs, hw1, hw2, hw3⟩ := hw.sql
    have hlen : (rs.map V.ref).length = n := by rw [List.length_map, hw3, hg.len]
    refine ⟨_, rfl, a, rfl, ⟨_, SqL.of hw1⟩, fun la nla => lc_list (K := K) (a := a) (xs := rs.map V.ref) (fun i H' => Same H H' ∧ H' la = some (.lst ((List.replicate i wA).map V.ref))) ⟨same_upd nla, upd_same⟩ (fun i H' _ ⟨s1, _⟩ => SqL.of (s1 _ _ hw1)) ?_ ?_⟩
    · rintro i x H' hi ⟨s1, h1⟩
      have hil := (List.getElem?_eq_some_iff.mp hi).1
      refine ⟨rfl, iteT (B := True) ⟨_, h1, ?_, s1.putN nla, ?_⟩⟩
      · rw [List.length_map, List.length_replicate]
        exact size_lt (by omega)
      · rw [upd_same, List.replicate_succ', List.map_append]
        rfl
    · rintro H1 ⟨s1, h1⟩
      rw [hlen] at h1
      have fa1 : FAt K H1 la (List.replicate n (1, 1)) := ⟨List.replicate n wA, h1, frAt_rep (T.tW _) n⟩
      refine ⟨_, rfl, a, rfl, ⟨_, SqL.of (s1 _ _ hw1)⟩, fun sa nsa => ?_⟩
      have nsa0 : H sa = none := s1.free nsa
      have nls : la ≠ sa := ne_of_none h1 nsa
      refine lc_list (K := K) (a := a) (xs := rs.map V.ref) (fun i H' => ∃ srs, Same H H' ∧ FAt K H' la (List.replicate n (1, 1)) ∧ H' sa = some (.lst (srs.map V.ref)) ∧ ShAt K H' srs (List.replicate i (List.replicate n (0, 1))) ∧ srs.Nodup ∧ (∀ r ∈ srs, H r = none ∧ r ≠ sa ∧ r ≠ la))
        ⟨[], s1.updN nsa, fa1.same (same_upd nsa), upd_same, trivial, List.nodup_nil, fun r hr => absurd hr (by simp)⟩ (fun i H' _ ⟨_, s2, _⟩ => SqL.of (s2 _ _ hw1)) ?_ ?_
      · rintro i x H2 hi ⟨srs, s2, fa2, h2, sh2, nd2, nn2⟩
        have hil := (List.getElem?_eq_some_iff.mp hi).1
        obtain ⟨r, hr1, rfl⟩ := refs_some hi
        obtain ⟨hjl, hro⟩ := hw2.item hr1
        have hrl : (ws.getD i []).length = n := each_len (hg.all _ (getD_mem' (d := []) hjl))
        refine ⟨rfl, iteT (B := True) ?_⟩
        refine ⟨_, rfl, r, rfl, ⟨_, SqL.of (s2 _ _ hro)⟩, fun D nD => lc_list (K := K) (a := r) (xs := nV (ws.getD i [])) (fun i' H' => Same H2 H' ∧ H' D = some (.lst ((List.replicate i' nA).map V.ref))) ⟨same_upd nD, upd_same⟩ (fun i' H' _ ⟨s3, _⟩ => SqL.of (s3 _ _ (s2 _ _ hro))) ?_ ?_⟩
        · rintro i' x H3 hi' ⟨s3, h3⟩
          obtain ⟨hi'l, rfl⟩ := nV_some hi'
          refine ⟨rfl, iteT (B := True) ⟨_, h3, ?_, s3.putN nD, ?_⟩⟩
          · rw [List.length_map, List.length_replicate]
            exact size_lt (by omega)
          · rw [upd_same, List.replicate_succ', List.map_append]
            rfl
        · rintro H3 ⟨s3, h3⟩
          rw [nV_length, hrl] at h3
          have nD0 : H D = none := s2.free nD
          have nDs : D ≠ sa := (ne_of_none h2 nD).symm
          have nDl : D ≠ la := by
            obtain ⟨ps, hp, _⟩ := fa2
            exact (ne_of_none hp nD).symm
          have hsa3 : H3 sa = some (.lst (srs.map V.ref)) := s3 _ _ h2
          have sh3 := ShAt.same s3 sh2
          have fa3 := fa2.same s3
          have key : ∀ {b : Addr} {o : HO}, H3 b = some o → b ≠ sa → (upd H3 sa (.lst (srs.map V.ref ++ [.ref D]))) b = some o := fun e d => by
            rw [upd_ne d]
            exact e
          refine ⟨_, hsa3, ?_, srs ++ [D], (s2.trans s3).putN nsa0, ?_, ?_, ?_, ?_, ?_⟩
          · rw [List.length_map, AllAt.len sh2, List.length_replicate]
            exact size_lt (by omega)
          · obtain ⟨ps, hp, hf⟩ := fa3
            exact ⟨ps, key hp nls, hf.imp fun _ _ _ z => z.put hsa3⟩
          · rw [upd_same, List.map_append]
            rfl
          · rw [List.replicate_succ']
            refine AllAt.append ?_ ⟨⟨List.replicate n nA, key h3 nDs, frAt_rep (T.tN _) n⟩, trivial⟩
            exact sh3.imp fun r hr fs ⟨ts, e1, e2⟩ => ⟨ts, key e1 (nn2 r hr).2.1, e2.imp fun _ _ _ z => z.put hsa3⟩
          · rw [List.nodup_append]
            refine ⟨nd2, by simp, fun r hr q hq => ?_⟩
            rw [List.mem_singleton.mp hq]
            rintro rfl
            obtain ⟨k', hk'⟩ := List.mem_iff_getElem?.mp hr
            have hk2 : k' < (List.replicate i (List.replicate n ((0, 1) : Nat × Nat))).length := by
              have := (List.getElem?_eq_some_iff.mp hk').1
              rw [AllAt.len sh2] at this
              exact this
            obtain ⟨r', hr', ts, e1, _⟩ := AllAt.get (d := []) sh2 hk2
            rw [hk'] at hr'
            obtain rfl := Option.some.inj hr'
            rw [nD] at e1
            cases e1
          · intro r hr
            rcases List.mem_append.mp hr with hr | hr
            · exact nn2 r hr
            · obtain rfl := List.mem_singleton.mp hr
              exact ⟨nD0, nDs, nDl⟩
      · rintro H2 ⟨srs, s2, fa2, h2, sh2, nd2, nn2⟩
        rw [hlen] at sh2
        refine ⟨fun m σ H' => ∃ (la : Addr) (L : List (Nat × Nat)) (S : List (List (Nat × Nat))) (v2 v4 v5 v6 : Option V), σ = [some (.ref a), some (.ref la), v2, some (.ref sa), v4, v5, v6, none] ∧ Same H H' ∧ FAt K H' la L ∧ H' sa = some (.lst (srs.map V.ref)) ∧ ShAt K H' srs S ∧ la ≠ sa ∧ (∀ r ∈ srs, r ≠ la) ∧ EatRun n ws m L S S',
          ⟨k, la, _, _, none, none, none, none, rfl, s2, fa2, h2, sh2, nls, fun r hr => (nn2 r hr).2.2, run⟩, ?_⟩
        clear sh2 fa2 run nls h2 s2 fa1 h1 nsa
        rintro m σ H3 ⟨la, L, S, v2, v4, v5, v6, rfl, s3, fa3, h3, sh3, nls, nlr, run⟩
        refine ⟨_, rfl, _, rfl, a, rfl, ⟨_, SqL.of (s3 _ _ hw1)⟩, fun D nD => lc_list (K := K) (a := a) (xs := rs.map V.ref) (fun i H' => Same H3 H' ∧ H' D = some (.lst ((List.replicate i nA).map V.ref))) ⟨same_upd nD, upd_same⟩ (fun i H' _ ⟨s4, _⟩ => SqL.of (s4 _ _ (s3 _ _ hw1))) ?_ ?_⟩
        · rintro i x H4 hi ⟨s4, h4⟩
          have hil := (List.getElem?_eq_some_iff.mp hi).1
          refine ⟨rfl, iteT (B := True) ⟨_, h4, ?_, s4.putN nD, ?_⟩⟩
          · rw [List.length_map, List.length_replicate]
            exact size_lt (by omega)
          · rw [upd_same, List.replicate_succ', List.map_append]
            rfl
        · rintro H4 ⟨s4, h4⟩
          rw [hlen] at h4
          have faD : FAt K H4 D (List.replicate n (0, 1)) := ⟨_, h4, frAt_rep (T.tN _) n⟩
          have fa4 := fa3.same s4
          have t4 := s3.trans s4
          have hsa4 := s4 _ _ h3
          have sh4 := ShAt.same s4 sh3
          refine ⟨_, _, dp_FAt fa4, dp_FAt faD, dFs_shaped _, dFs_shaped _, _, rfl, ?_⟩
          rw [dFs_eqv]
          cases run with
          | stop =>
            rw [decide_eq_true rfl]
            exact iteF ⟨_, rfl, q sa H4 srs t4 hsa4 sh4⟩
          | @go k' _ _ _ hne ok run2 =>
            rw [decide_eq_false hne]
            refine iteT ⟨fun σ' H' => ∃ (la : Addr) (L : List (Nat × Nat)) (S : List (List (Nat × Nat))) (v2 v4 v5 v6 : Option V), σ' = [some (.ref a), some (.ref la), v2, some (.ref sa), v4, v5, v6, none] ∧ Same H H' ∧ FAt K H' la L ∧ H' sa = some (.lst (srs.map V.ref)) ∧ ShAt K H' srs S ∧ la ≠ sa ∧ (∀ r ∈ srs, r ≠ la) ∧ EatRun n ws k' L S S',
              fun σ' H' h => ⟨k', Nat.lt_succ_self k', h⟩, ?_⟩
            have hEl := eatM_len ws L
            have hEm := eatM_mem hg ok.some
            have hws := hg.len
            have hEsz : (eatM ws L).length = n := by rw [hEl, hws]
            refine ⟨_, rfl, _, rfl, a, la, ws, L, rfl, hw.same t4, by omega, fa4, fun row hrow => ⟨by rw [each_len (hg.all row hrow)]; omega, fun x hx => by rw [ok.ll]; exact (each_mem (hg.all row hrow)).mp hx, ok.some row hrow⟩, fun e H5 s5 ne he => ?_⟩
            have fa5 := fa4.same s5
            refine ⟨_, rfl, _, rfl, e, la, eatM ws L, L, rfl, SqL.of he, by omega, fa5, fun x hx => ⟨by rw [ok.ll]; exact hEm x hx, (ok.ls x (hEm x hx)).1, (ok.ls x (hEm x hx)).2, ok.fs x hx⟩, fun fp H6 s6 hfp => ?_⟩
            have hfs : Small (tillM (eatM ws L) L (eatM ws L)) := tillM_small _ _ (fun x hx => ok.fs x hx) small_one
            have hft := ok.tp
            have hts := ok.ts
            generalize hEE : eatM ws L = EE at *
            generalize tillM EE L EE = far at *
            have t6 := t4.trans (s5.trans s6)
            have fa6 := fa5.same s6
            have he6 := s6 _ _ he
            have hsa6 : H6 sa = some (.lst (srs.map V.ref)) := s6 _ _ (s5 _ _ hsa4)
            have sh6 := ShAt.same s6 (ShAt.same s5 sh4)
            have hrl : ∀ r ∈ srs, ∃ ys, H6 r = some (.lst ys) := fun r hr => by
              obtain ⟨j, hj⟩ := List.mem_iff_getElem?.mp hr
              have hj2 : j < S.length := by
                have := (List.getElem?_eq_some_iff.mp hj).1
                rw [AllAt.len sh6] at this
                exact this
              obtain ⟨r', hr', ts, e1, _⟩ := AllAt.get (d := []) sh6 hj2
              rw [hj] at hr'
              obtain rfl := Option.some.inj hr'
              exact ⟨_, e1⟩
            have ner : ∀ r ∈ srs, r ≠ e := fun r hr z => by
              obtain ⟨j, hj⟩ := List.mem_iff_getElem?.mp hr
              have hj2 : j < S.length := by
                have := (List.getElem?_eq_some_iff.mp hj).1
                rw [AllAt.len sh4] at this
                exact this
              obtain ⟨r', hr', ts, e1, _⟩ := AllAt.get (d := []) sh4 hj2
              rw [hj] at hr'
              obtain rfl := Option.some.inj hr'
              rw [z, ne] at e1
              cases e1
            have hsrl : srs.length = n := by rw [AllAt.len sh6, ok.sl]
            refine ⟨_, rfl, e, nV EE, rfl, SqL.of he6, for_it (walk_enum (K := K) (a := e) (xs := nV EE)) (fun j σ H' => ∃ v2 v6, σ = [some (.ref a), some (.ref la), v2, some (.ref sa), some (.ref e), some (.ref fp), v6, none] ∧ Same H H' ∧ But srs H6 H' ∧ ShAt K H' srs (sharesUpTo S EE far j))
              ⟨v2, v6, rfl, t6, fun b o e _ => e, sh6⟩ (fun j σ H' _ ⟨_, _, _, _, b, _⟩ => SqL.of (b _ _ he6 fun m => ner e m rfl)) ?_ ?_⟩
            · rintro j x σ H7 H8 hj ⟨v2, v6, rfl, s7, b7, sh7⟩ ⟨Tp, x1, x2, rfl, nT, rfl, e1, e2⟩
              rw [nV_length] at hj
              obtain rfl := (Option.some.inj e1)
              obtain ⟨_, rfl⟩ := nV_some e2
              have hjn : j < n := by omega
              have hx := hEm _ (getD_mem hj)
              have sT : Same H7 (upd H7 Tp (.tup [iV j, iV (EE.getD j 0)])) := same_upd nT
              have s8 := s7.trans sT
              have sh8 := ShAt.same sT sh7
              have hjs : j < (sharesUpTo S EE far j).length := by
                rw [sharesUpTo_len, ok.sl]
                exact hjn
              obtain ⟨r, hr1, ts, hr2, hr3⟩ := AllAt.get (d := []) sh8 hjs
              have hrm : r ∈ srs := List.mem_of_getElem? hr1
              have hrow : (sharesUpTo S EE far j).getD j [] = S.getD j [] := sharesUpTo_ge S EE far j j (Nat.le_refl j)
              have hxl : EE.getD j 0 < ((sharesUpTo S EE far j).getD j []).length := by
                rw [hrow, ok.sr j hjn]
                exact hx
              obtain ⟨t, ht1, ht2⟩ := AllAt.get (d := (0, 1)) hr3 hxl
              obtain ⟨hs1, hs2⟩ := ok.ss j (EE.getD j 0) hjn hx
              rw [← hrow] at hs1 hs2
              have hsa7 : H7 sa = some (.lst (srs.map V.ref)) := b7 _ _ hsa6 fun m => (nn2 sa m).2.1 rfl
              have hsa8 := sT _ _ hsa7
              have hfp7 : TF K H7 fp far := TF.but hrl b7 hfp
              have hfp8 := hfp7.same sT
              have nTr : ∀ q ∈ srs, q ≠ Tp := fun q hq z => by
                obtain ⟨i, hi⟩ := List.mem_iff_getElem?.mp hq
                have hi2 : i < (sharesUpTo S EE far j).length := by
                  have := (List.getElem?_eq_some_iff.mp hi).1
                  rw [AllAt.len sh7] at this
                  exact this
                obtain ⟨r', hr', ts, e1, _⟩ := AllAt.get (d := []) sh7 hi2
                rw [hi] at hr'
                obtain rfl := Option.some.inj hr'
                rw [z, nT] at e1
                cases e1
              have b8 : But srs H6 (upd H7 Tp (.tup [iV j, iV (EE.getD j 0)])) := fun b o e m => sT _ _ (b7 b o e m)
              refine ⟨Tp, _, rfl, SqT.of upd_same, rfl, _, [_], rfl, _, [], rfl, rfl, ?_⟩
              generalize upd H7 Tp (.tup [iV j, iV (EE.getD j 0)]) = H8 at *
              generalize hxx : EE.getD j 0 = x at *
              refine ⟨_, rfl, _, rfl, sa, _, (j : Int), .ref r, rfl, rfl, SqL.of hsa8, atI_nat (refs_get hr1), ?_⟩
              refine ⟨_, rfl, r, _, (x : Int), .ref t, rfl, rfl, SqL.of hr2, atI_nat (refs_get ht1), ?_⟩
              refine ⟨_, rfl, t, fp, _, _, rfl, ht2, hfp8, hs1, hfs, hs2, hft, fun p H9 s9 hp => ?_⟩
              have hr9 := s9 _ _ hr2
              refine ⟨_, rfl, _, rfl, sa, _, (j : Int), .ref r, rfl, rfl, SqL.of (s9 _ _ hsa8), atI_nat (refs_get hr1), ?_⟩
              refine ⟨_, rfl, r, _, (x : Int), x, rfl, rfl, hr9, ixN_nat (by rw [List.length_map, AllAt.len hr3]; exact hxl), ?_⟩
              have est : (ts.map V.ref).set x (.ref p) = (ts.set x p).map V.ref := (List.map_set ..).symm
              rw [est]
              refine ⟨_, _, rfl, (s8.trans s9).putN (nn2 r hrm).1, fun b o e m => ?_, ?_⟩
              · rw [upd_ne (fun z => m (by rw [z]; exact hrm))]
                exact s9 _ _ (b8 b o e m)
              · have h := AllAt.setAt (R := fun r fs => ∃ ts : List Addr, H9 r = some (.lst (ts.map V.ref)) ∧ FrAt K H9 ts fs) (R' := fun q fs => ∃ ts' : List Addr, (upd H9 r (.lst ((ts.set x p).map V.ref))) q = some (.lst (ts'.map V.ref)) ∧ FrAt K (upd H9 r (.lst ((ts.set x p).map V.ref))) ts' fs)
                  (r' := r) (x := ((sharesUpTo S EE far j).getD j []).set x (plusM (((sharesUpTo S EE far j).getD j []).getD x (0, 1)) far)) (rs := srs) (ws := sharesUpTo S EE far j) (i := j)
                  ⟨ts.set x p, upd_same, AllAt.setAt (R := fun p q => TF K H9 p q) (hp.put hr9) (fun i q w _ _ h => h.put hr9) (FrAt.same s9 hr3)⟩
                  (fun i q fs hij hq ⟨ts', e1, e2⟩ => ⟨ts', by
                    have nqr : q ≠ r := fun z => by
                      subst z
                      have hlt := (List.getElem?_eq_some_iff.mp hq).1
                      exact hij ((List.getElem?_inj hlt nd2).mp (hq.trans hr1.symm))
                    rw [upd_ne nqr]
                    exact e1, e2.imp fun _ _ _ z => z.put hr9⟩) (ShAt.same s9 sh8)
                rw [set_same hr1] at h
                have eS : sharesUpTo S EE far (j + 1) = (sharesUpTo S EE far j).set j (((sharesUpTo S EE far j).getD j []).set x (plusM (((sharesUpTo S EE far j).getD j []).getD x (0, 1)) far)) := by
                  rw [← hxx]
                  rfl
                rw [eS]
                exact h
            · rintro σ H7 ⟨v2, v6, rfl, s7, b7, sh7⟩
              rw [nV_length, hEsz] at sh7
              have nsas : sa ∉ srs := fun m => (nn2 sa m).2.1 rfl
              have nlas : la ∉ srs := fun m => nlr la m rfl
              have hsa7 : H7 sa = some (.lst (srs.map V.ref)) := b7 _ _ hsa6 nsas
              have he7 : H7 e = some (.lst (nV EE)) := b7 _ _ he6 fun m => ner e m rfl
              have hfp7 : TF K H7 fp far := TF.but hrl b7 hfp
              obtain ⟨ps, hp6, hf6⟩ := fa6
              have hla7 : H7 la = some (.lst (ps.map V.ref)) := b7 _ _ hp6 nlas
              have hf7 : FrAt K H7 ps L := hf6.imp fun _ _ _ z => TF.but hrl b7 z
              have hpl : (ps.map V.ref).length = n := by rw [List.length_map, AllAt.len hf7, ok.ll]
              refine ⟨_, rfl, la, _, rfl, .inl (SqL.of hla7), ?_⟩
              rw [hpl]
              refine ⟨(n : Int), rfl, by omega, by omega, fun D nD => ?_⟩
              have nD0 : H D = none := s7.free nD
              have nDsa : D ≠ sa := (ne_of_none hsa7 nD).symm
              have nDr : ∀ r ∈ srs, r ≠ D := fun r hr z => by
                obtain ⟨j, hj⟩ := List.mem_iff_getElem?.mp hr
                have hj2 : j < (sharesUpTo S EE far n).length := by
                  have := (List.getElem?_eq_some_iff.mp hj).1
                  rw [AllAt.len sh7] at this
                  exact this
                obtain ⟨r', hr', ts, e1, _⟩ := AllAt.get (d := []) sh7 hj2
                rw [hj] at hr'
                obtain rfl := Option.some.inj hr'
                rw [z, nD] at e1
                cases e1
              refine lc_rangeN (n := n) (fun i H' => ∃ qs : List Addr, Same H7 H' ∧ H' D = some (.lst (qs.map V.ref)) ∧ FrAt K H' qs ((leftM L EE far).take i))
                ⟨[], same_upd nD, upd_same, trivial⟩ ?_ ?_
              · rintro i H8 hi ⟨qs, s8, h8, f8⟩
                have hiL : i < L.length := by rw [ok.ll]; exact hi
                have hf8 := FrAt.same s8 hf7
                obtain ⟨p, hp1, hp2⟩ := AllAt.get (d := (0, 1)) hf8 hiL
                obtain ⟨c1, c2⟩ := ok.ls i hi
                obtain ⟨d1, d2, d3⟩ := hts i hi
                refine ⟨rfl, iteT (B := True) ?_⟩
                refine ⟨_, rfl, _, rfl, la, _, (i : Int), .ref p, rfl, rfl, SqL.of (s8 _ _ hla7), atI_nat (refs_get hp1), ?_⟩
                refine ⟨_, rfl, _, rfl, .inl ⟨rfl, _, SqL.of (s8 _ _ he7)⟩, _, rfl, e, EE.map (fun (x : Nat) => (x : Int)), (i : Int), rfl, rfl, by rw [← nV_ints]; exact SqL.of (s8 _ _ he7), ?_⟩
                refine ⟨fp, EE.count i, far, by rw [count_nV]; rfl, hfp7.same s8, hfs, hft, fun r1 H9 s9 hr9 => ?_⟩
                refine ⟨p, r1, L.getD i (0, 1), timesM far (EE.count i), rfl, hp2.same s9, hr9, c1, d1, c2, d2, d3, fun r2 H10 s10 hr10 => ?_⟩
                have t10 := s9.trans s10
                have h10 := t10 _ _ h8
                refine ⟨_, h10, ?_, qs ++ [r2], (s8.trans t10).putN nD, by rw [upd_same, List.map_append]; rfl, ?_⟩
                · rw [List.length_map, AllAt.len f8, List.length_take]
                  exact size_lt (by omega)
                · rw [take_more (leftM_get hiL)]
                  refine AllAt.append ((FrAt.same t10 f8).imp fun _ _ _ z => z.put h10) ⟨?_, trivial⟩
                  exact TF.put h10 hr10
              · rintro H8 ⟨qs, s8, h8, f8⟩
                have hll : (leftM L EE far).length = n := by rw [leftM_len, ok.ll]
                rw [← hll, List.take_length] at f8
                exact ⟨D, _, _, _, _, _, _, rfl, s7.trans s8, ⟨qs, h8, f8⟩, s8 _ _ hsa7, ShAt.same s8 sh7, nDsa, nDr, run2⟩
end
end Wg

/-! The mathematics of eating: parts against numbers of one unit. -/
namespace Wg
open Rc57

/-! ### parts -/
theorem fr_scale {a b c : Nat} (h : 0 < c) : fr (a * c) (b * c) = fr a b := by
  unfold fr
  rw [Nat.gcd_mul_right, Nat.mul_div_mul_right _ _ h, Nat.mul_div_mul_right _ _ h]
theorem fr_congr {a u b v : Nat} (h : a * v = b * u) (hu : 0 < u) (hv : 0 < v) : fr a u = fr b v := by
  rw [← fr_scale (a := a) (b := u) hv, ← fr_scale (a := b) (b := v) hu, h, Nat.mul_comm u v]
theorem fr_cross {a u : Nat} : (fr a u).1 * u = a * (fr a u).2 := by
  unfold fr
  show a / Nat.gcd a u * u = a * (u / Nat.gcd a u)
  rw [Nat.div_mul_right_comm (Nat.gcd_dvd_left a u), Nat.mul_div_assoc _ (Nat.gcd_dvd_right a u)]
theorem fr_pos {a u : Nat} (hu : 0 < u) : 0 < (fr a u).2 := Nat.div_pos (Nat.gcd_le_right _ hu) (Nat.gcd_pos_of_pos_right _ hu)
theorem fr_le1 (a u : Nat) : (fr a u).1 ≤ a := Nat.div_le_self ..
theorem fr_le2 (a u : Nat) : (fr a u).2 ≤ u := Nat.div_le_self ..
theorem fr_zero {u : Nat} (hu : 0 < u) : fr 0 u = (0, 1) := by
  unfold fr
  rw [Nat.gcd_zero_left, Nat.zero_div, Nat.div_self hu]
theorem fr_one {u : Nat} (hu : 0 < u) : fr u u = (1, 1) := by
  unfold fr
  rw [Nat.gcd_self, Nat.div_self hu]
theorem fr_ne {a u : Nat} (ha : 0 < a) : (fr a u).1 ≠ 0 := Nat.ne_of_gt (Nat.div_pos (Nat.gcd_le_left _ ha) (Nat.gcd_pos_of_pos_left _ ha))
theorem fr_small {a u : Nat} (ha : a < 2 ^ 64) (hu : u < 2 ^ 64) : Small (fr a u) := ⟨Nat.lt_of_le_of_lt (fr_le1 a u) ha, Nat.lt_of_le_of_lt (fr_le2 a u) hu⟩
theorem plus_fr {a u b v : Nat} (hu : 0 < u) (hv : 0 < v) : plusM (fr a u) (fr b v) = fr (a * v + b * u) (u * v) := by
  unfold plusM
  have h1 := fr_cross (a := a) (u := u)
  have h2 := fr_cross (a := b) (u := v)
  have p1 := fr_pos (a := a) hu
  have p2 := fr_pos (a := b) hv
  refine fr_congr ?_ (Nat.mul_pos p1 p2) (Nat.mul_pos hu hv)
  generalize (fr a u).1 = x1 at *
  generalize (fr a u).2 = x2 at *
  generalize (fr b v).1 = y1 at *
  generalize (fr b v).2 = y2 at *
  calc (x1 * y2 + y1 * x2) * (u * v) = (x1 * u) * (y2 * v) + (y1 * v) * (x2 * u) := by
        rw [Nat.add_mul]
        congr 1
        · rw [Nat.mul_mul_mul_comm]
        · rw [Nat.mul_comm u v, Nat.mul_mul_mul_comm]
    _ = (a * x2) * (y2 * v) + (b * y2) * (x2 * u) := by rw [h1, h2]
    _ = (a * v + b * u) * (x2 * y2) := by
        rw [Nat.add_mul]
        congr 1
        · simp only [Nat.mul_comm, Nat.mul_left_comm, Nat.mul_assoc]
        · simp only [Nat.mul_comm, Nat.mul_left_comm, Nat.mul_assoc]
theorem minus_fr {a u b v : Nat} (hu : 0 < u) (hv : 0 < v) : minusM (fr a u) (fr b v) = fr (a * v - b * u) (u * v) := by
  unfold minusM
  have h1 := fr_cross (a := a) (u := u)
  have h2 := fr_cross (a := b) (u := v)
  have p1 := fr_pos (a := a) hu
  have p2 := fr_pos (a := b) hv
  refine fr_congr ?_ (Nat.mul_pos p1 p2) (Nat.mul_pos hu hv)
  generalize (fr a u).1 = x1 at *
  generalize (fr a u).2 = x2 at *
  generalize (fr b v).1 = y1 at *
  generalize (fr b v).2 = y2 at *
  calc (x1 * y2 - y1 * x2) * (u * v) = (x1 * u) * (y2 * v) - (y1 * v) * (x2 * u) := by
        rw [Nat.sub_mul]
        congr 1
        · rw [Nat.mul_mul_mul_comm]
        · rw [Nat.mul_comm u v, Nat.mul_mul_mul_comm]
    _ = (a * x2) * (y2 * v) - (b * y2) * (x2 * u) := by rw [h1, h2]
    _ = (a * v - b * u) * (x2 * y2) := by
        rw [Nat.sub_mul]
        congr 1
        · simp only [Nat.mul_comm, Nat.mul_left_comm, Nat.mul_assoc]
        · simp only [Nat.mul_comm, Nat.mul_left_comm, Nat.mul_assoc]
theorem times_fr {a u : Nat} (hu : 0 < u) (m : Nat) : timesM (fr a u) m = fr (a * m) u := by
  unfold timesM
  refine fr_congr ?_ (fr_pos hu) hu
  rw [Nat.mul_right_comm, fr_cross, Nat.mul_right_comm]
theorem over_fr {a u c : Nat} (hu : 0 < u) (hc : 0 < c) : fr (fr a u).1 ((fr a u).2 * c) = fr a (u * c) := by
  refine fr_congr ?_ (Nat.mul_pos (fr_pos hu) hc) (Nat.mul_pos hu hc)
  rw [← Nat.mul_assoc, fr_cross, Nat.mul_assoc]
theorem less_fr {a b u : Nat} (hu : 0 < u) : lessM (fr a u) (fr b u) = decide (a < b) := by
  unfold lessM
  have h1 := fr_cross (a := a) (u := u)
  have h2 := fr_cross (a := b) (u := u)
  have p1 := fr_pos (a := a) hu
  have p2 := fr_pos (a := b) hu
  generalize (fr a u).1 = x1 at *
  generalize (fr a u).2 = x2 at *
  generalize (fr b u).1 = y1 at *
  generalize (fr b u).2 = y2 at *
  refine decide_eq_decide.mpr ?_
  have e1 : x1 * y2 * u = a * (x2 * y2) := by
    rw [Nat.mul_right_comm, h1, Nat.mul_assoc]
  have e2 : y1 * x2 * u = b * (x2 * y2) := by
    rw [Nat.mul_right_comm, h2, Nat.mul_assoc, Nat.mul_comm y2]
  have p3 := Nat.mul_pos p1 p2
  constructor
  · intro h
    have := Nat.mul_lt_mul_of_pos_right h hu
    rw [e1, e2] at this
    exact Nat.lt_of_mul_lt_mul_right this
  · intro h
    have := Nat.mul_lt_mul_of_pos_right h p3
    rw [← e1, ← e2] at this
    exact Nat.lt_of_mul_lt_mul_right this

/-! ### the meal in parts -/
def Lr (m : Meal) : List (Nat × Nat) := m.left.map fun a => fr a m.unit
def Sr (m : Meal) : List (List (Nat × Nat)) := m.eaten.map fun r => r.map fun a => fr a m.unit
theorem Lr_get {m : Meal} {x : Nat} (h : x < m.left.length) : (Lr m).getD x (0, 1) = fr (m.left.getD x 0) m.unit := by
  unfold Lr
  rw [List.getD_eq_getElem?_getD, List.getElem?_map, List.getD_eq_getElem?_getD, List.getElem?_eq_getElem h]
  rfl
theorem Sr_get {m : Meal} {i : Nat} (h : i < m.eaten.length) : (Sr m).getD i [] = (m.eaten.getD i []).map fun a => fr a m.unit := by
  unfold Sr
  rw [List.getD_eq_getElem?_getD, List.getElem?_map, List.getD_eq_getElem?_getD, List.getElem?_eq_getElem h]
  rfl
theorem row_get {r : List Nat} {u x : Nat} (h : x < r.length) : (r.map fun a => fr a u).getD x (0, 1) = fr (r.getD x 0) u := by
  rw [List.getD_eq_getElem?_getD, List.getElem?_map, List.getD_eq_getElem?_getD, List.getElem?_eq_getElem h]
  rfl
def nz (n : Nat) (l : List Nat) : Nat := ((List.range n).filter fun x => l.getD x 0 != 0).length
structure MOk (n k : Nat) (m : Meal) : Prop where
  up : 0 < m.unit
  ub : m.unit * factorial n ^ k ≤ 2 ^ 40
  ll : m.left.length = n
  lb : ∀ x, m.left.getD x 0 ≤ m.unit
  el : m.eaten.length = n
  er : ∀ i, i < n → (m.eaten.getD i []).length = n
  eb : ∀ i x, (m.eaten.getD i []).getD x 0 ≤ (n - k) * m.unit
  kn : k ≤ n
  z : nz n m.left ≤ k
theorem factorial_pos : ∀ n, 0 < factorial n
  | 0 => Nat.one_pos
  | n + 1 => Nat.mul_pos (Nat.succ_pos n) (factorial_pos n)
theorem dvd_factorial : ∀ {n c : Nat}, 0 < c → c ≤ n → c ∣ factorial n
  | 0, c, h, h2 => absurd h (by omega)
  | n + 1, c, h, h2 => by
    show c ∣ (n + 1) * factorial n
    by_cases e : c = n + 1
    · rw [e]
      exact Nat.dvd_mul_right ..
    · exact Nat.dvd_trans (dvd_factorial h (by omega)) (Nat.dvd_mul_left ..)
theorem map_range_getD {g : Nat → Nat} {n i : Nat} (h : i < n) : ((List.range n).map g).getD i 0 = g i := by
  rw [List.getD_eq_getElem?_getD, List.getElem?_map, List.getElem?_range h]
  rfl

/-! what they eat -/
def eatN (n : Nat) (w : Wishes) (left : List Nat) : List Nat := (List.range n).map fun i => (eats w left i).getD 0
theorem headD_filter {p : Nat → Bool} (l : List Nat) : (l.filter p).headD 0 = (l.find? p).getD 0 := by
  rw [List.headD_eq_head?_getD, List.head?_filter]
theorem eat_is {n : Nat} {w : Wishes} (g : Gd n w) {m : Meal} (hl : m.left.length = n) (hu : 0 < m.unit) : eatM w (Lr m) = eatN n w m.left := by
  unfold eatM eatN
  have e : w = (List.range n).map fun i => orderOf w i := by
    have := map_getD_range w []
    rw [g.len] at this
    exact this.symm
  conv => lhs; arg 2; rw [e]
  rw [List.map_map]
  refine List.map_congr_left fun i hi => ?_
  have hi := List.mem_range.mp hi
  show ((orderOf w i).filter fun x => (Lr m).getD x (0, 1) != (0, 1)).headD 0 = _
  rw [headD_filter]
  unfold eats
  congr 1
  refine find_congr fun x hx => ?_
  have hx := (g.mem hi).mp hx
  rw [Lr_get (by omega)]
  by_cases c : m.left.getD x 0 = 0
  · rw [c, fr_zero hu]
    rfl
  · rw [bne_iff_ne.mpr c]
    refine bne_iff_ne.mpr fun z => ?_
    have := fr_ne (a := m.left.getD x 0) (u := m.unit) (by omega)
    rw [z] at this
    exact this rfl
theorem eats_some {n : Nat} {w : Wishes} (g : Gd n w) {left : List Nat} {i x : Nat} (hi : i < n) (hx : x < n) (hne : left.getD x 0 ≠ 0) : ∃ y, eats w left i = some y ∧ y < n ∧ left.getD y 0 ≠ 0 := by
  obtain ⟨y, e, py, my, _⟩ := find_first (orderOf w i) (fun x => left.getD x 0 != 0) x ((g.mem hi).mpr hx) (bne_iff_ne.mpr hne)
  exact ⟨y, e, (g.mem hi).mp my, bne_iff_ne.mp py⟩
theorem eaters_is {n : Nat} {w : Wishes} {left : List Nat} (h : ∀ i, i < n → ∃ y, eats w left i = some y) (x : Nat) : eaters n w left x = (eatN n w left).count x := by
  unfold eaters eatN
  rw [List.count_eq_countP, List.countP_map, ← List.countP_eq_length_filter]
  refine List.countP_congr fun i hi => ?_
  obtain ⟨y, e⟩ := h i (List.mem_range.mp hi)
  show (eats w left i == some x) = true ↔ ((eats w left i).getD 0 == x) = true
  rw [e]
  simp
theorem getD_eatN {n : Nat} {w : Wishes} {left : List Nat} {i : Nat} (h : i < n) : (eatN n w left).getD i 0 = (eats w left i).getD 0 := map_range_getD h
theorem foldl_min : ∀ (l : List Nat) (b : Nat), (l.foldl min b = b ∨ l.foldl min b ∈ l) ∧ l.foldl min b ≤ b ∧ ∀ y ∈ l, l.foldl min b ≤ y
  | [], b => ⟨.inl rfl, Nat.le_refl _, fun y h => absurd h (by simp)⟩
  | t :: l, b => by
    obtain ⟨h1, h2, h3⟩ := foldl_min l (min b t)
    show ((l.foldl min (min b t)) = b ∨ (l.foldl min (min b t)) ∈ t :: l) ∧ (l.foldl min (min b t)) ≤ b ∧ ∀ y ∈ t :: l, (l.foldl min (min b t)) ≤ y
    refine ⟨?_, by omega, fun y hy => ?_⟩
    · rcases h1 with h1 | h1
      · rw [h1]
        by_cases c : b ≤ t
        · left; omega
        · right
          rw [show min b t = t by omega]
          exact List.mem_cons_self
      · exact .inr (List.mem_cons_of_mem _ h1)
    · rcases List.mem_cons.mp hy with rfl | hy
      · omega
      · exact h3 y hy
def lowest (v : Nat → Nat) (l : List Nat) (b : Nat) : Nat := l.foldl (fun t x => if v x < t then v x else t) b
theorem lowest_spec (v : Nat → Nat) : ∀ (l : List Nat) (b : Nat), (lowest v l b = b ∨ ∃ x ∈ l, lowest v l b = v x) ∧ lowest v l b ≤ b ∧ ∀ x ∈ l, lowest v l b ≤ v x
  | [], b => ⟨.inl rfl, Nat.le_refl _, fun y h => absurd h (by simp)⟩
  | x :: l, b => by
    obtain ⟨h1, h2, h3⟩ := lowest_spec v l (if v x < b then v x else b)
    have e : lowest v (x :: l) b = lowest v l (if v x < b then v x else b) := rfl
    rw [e]
    refine ⟨?_, ?_, fun y hy => ?_⟩
    · rcases h1 with h1 | ⟨y, hy, h1⟩
      · rw [h1]
        split
        · exact .inr ⟨x, List.mem_cons_self, rfl⟩
        · exact .inl rfl
      · exact .inr ⟨y, List.mem_cons_of_mem _ hy, h1⟩
    · refine Nat.le_trans h2 ?_
      split <;> omega
    · rcases List.mem_cons.mp hy with rfl | hy
      · refine Nat.le_trans h2 ?_
        split <;> omega
      · exact h3 y hy
/-- the time of a bite, as the specification reckons it -/
def timeN (n : Nat) (w : Wishes) (left : List Nat) : Nat :=
  (((List.range n).filter fun x => decide (0 < eaters n w left x)).map fun x => left.getD x 0 * factorial n / eaters n w left x).foldl min
    ((((List.range n).filter fun x => decide (0 < eaters n w left x)).map fun x => left.getD x 0 * factorial n / eaters n w left x).headD 0)
theorem bite_eq (n : Nat) (w : Wishes) (m : Meal) : bite n w m = ⟨m.unit * factorial n, (List.range n).map (fun x => m.left.getD x 0 * factorial n - eaters n w m.left x * timeN n w m.left),
    (List.range n).map (fun i => (List.range n).map (fun x => (m.eaten.getD i []).getD x 0 * factorial n + (if eats w m.left i = some x then timeN n w m.left else 0)))⟩ := rfl

section
variable {n : Nat} {w : Wishes} {m : Meal}
structure Bt (n : Nat) (w : Wishes) (m : Meal) : Prop where
  g : Gd n w
  up : 0 < m.unit
  ll : m.left.length = n
  lb : ∀ x, m.left.getD x 0 ≤ m.unit
  ev : ∀ i, i < n → ∃ y, eats w m.left i = some y ∧ y < n ∧ m.left.getD y 0 ≠ 0
  n0 : 0 < n
def vN (n : Nat) (w : Wishes) (m : Meal) (x : Nat) : Nat := m.left.getD x 0 * factorial n / eaters n w m.left x
theorem Bt.el (b : Bt n w m) (x : Nat) : eaters n w m.left x = (eatN n w m.left).count x := eaters_is (fun i hi => let ⟨y, h, _⟩ := b.ev i hi; ⟨y, h⟩) x
theorem Bt.mem (b : Bt n w m) {x : Nat} (h : x ∈ eatN n w m.left) : x < n ∧ m.left.getD x 0 ≠ 0 := by
  obtain ⟨i, hi, rfl⟩ := List.mem_map.mp h
  obtain ⟨y, e, h1, h2⟩ := b.ev i (List.mem_range.mp hi)
  rw [e]
  exact ⟨h1, h2⟩
theorem Bt.cnt (b : Bt n w m) {x : Nat} : 0 < eaters n w m.left x ↔ x ∈ eatN n w m.left := by
  rw [b.el]
  exact List.count_pos_iff
theorem eaters_le (x : Nat) : eaters n w m.left x ≤ n := by
  unfold eaters
  refine Nat.le_trans (List.length_filter_le ..) ?_
  rw [List.length_range]
  exact Nat.le_refl _
theorem Bt.v_mul (b : Bt n w m) {x : Nat} (h : x ∈ eatN n w m.left) : vN n w m x * eaters n w m.left x = m.left.getD x 0 * factorial n := by
  unfold vN
  exact Nat.div_mul_cancel (Nat.dvd_trans (dvd_factorial (b.cnt.mpr h) (eaters_le x)) (Nat.dvd_mul_left ..))
theorem Bt.v_le (b : Bt n w m) {x : Nat} : vN n w m x ≤ m.unit * factorial n :=
  Nat.le_trans (Nat.div_le_self ..) (Nat.mul_le_mul_right _ (b.lb x))
theorem Bt.E0 (b : Bt n w m) : ∃ x, x ∈ eatN n w m.left := ⟨_, List.mem_map.mpr ⟨0, List.mem_range.mpr b.n0, rfl⟩⟩
theorem Bt.time (b : Bt n w m) : lowest (vN n w m) (eatN n w m.left) (m.unit * factorial n) = timeN n w m.left ∧ (∃ x ∈ eatN n w m.left, timeN n w m.left = vN n w m x) ∧ ∀ x ∈ eatN n w m.left, timeN n w m.left ≤ vN n w m x := by
  obtain ⟨h1, h2, h3⟩ := lowest_spec (vN n w m) (eatN n w m.left) (m.unit * factorial n)
  obtain ⟨x0, hx0⟩ := b.E0
  have hl : ∃ x ∈ eatN n w m.left, lowest (vN n w m) (eatN n w m.left) (m.unit * factorial n) = vN n w m x := by
    rcases h1 with h1 | h1
    · refine ⟨x0, hx0, Nat.le_antisymm (h3 x0 hx0) ?_⟩
      rw [h1]
      exact b.v_le
    · exact h1
  have hmem : ∀ x ∈ eatN n w m.left, vN n w m x ∈ (((List.range n).filter fun x => decide (0 < eaters n w m.left x)).map fun x => m.left.getD x 0 * factorial n / eaters n w m.left x) := fun x hx =>
    List.mem_map.mpr ⟨x, List.mem_filter.mpr ⟨List.mem_range.mpr (b.mem hx).1, decide_eq_true (b.cnt.mpr hx)⟩, rfl⟩
  obtain ⟨k1, k2, k3⟩ := foldl_min (((List.range n).filter fun x => decide (0 < eaters n w m.left x)).map fun x => m.left.getD x 0 * factorial n / eaters n w m.left x) ((((List.range n).filter fun x => decide (0 < eaters n w m.left x)).map fun x => m.left.getD x 0 * factorial n / eaters n w m.left x).headD 0)
  have hhead : (((List.range n).filter fun x => decide (0 < eaters n w m.left x)).map fun x => m.left.getD x 0 * factorial n / eaters n w m.left x).headD 0 ∈ (((List.range n).filter fun x => decide (0 < eaters n w m.left x)).map fun x => m.left.getD x 0 * factorial n / eaters n w m.left x) := by
    have := hmem x0 hx0
    generalize (((List.range n).filter fun x => decide (0 < eaters n w m.left x)).map fun x => m.left.getD x 0 * factorial n / eaters n w m.left x) = l at *
    cases l with
    | nil => simp at this
    | cons a l => exact List.mem_cons_self
  have ht : ∃ x ∈ eatN n w m.left, timeN n w m.left = vN n w m x := by
    have : timeN n w m.left ∈ (((List.range n).filter fun x => decide (0 < eaters n w m.left x)).map fun x => m.left.getD x 0 * factorial n / eaters n w m.left x) := by
      rcases k1 with k1 | k1
      · unfold timeN
        rw [k1]
        exact hhead
      · exact k1
    obtain ⟨x, hx, e⟩ := List.mem_map.mp this
    exact ⟨x, b.cnt.mp (of_decide_eq_true (List.mem_filter.mp hx).2), e.symm⟩
  have tle : ∀ x ∈ eatN n w m.left, timeN n w m.left ≤ vN n w m x := fun x hx => k3 _ (hmem x hx)
  refine ⟨?_, ht, tle⟩
  obtain ⟨x, hx, e⟩ := hl
  obtain ⟨y, hy, e'⟩ := ht
  have a1 := tle x hx
  have a2 := h3 y hy
  omega
theorem Bt.t_mul (b : Bt n w m) (x : Nat) : eaters n w m.left x * timeN n w m.left ≤ m.left.getD x 0 * factorial n := by
  by_cases c : x ∈ eatN n w m.left
  · rw [← b.v_mul c, Nat.mul_comm]
    exact Nat.mul_le_mul_right _ (b.time.2.2 x c)
  · have : eaters n w m.left x = 0 := Nat.eq_zero_of_not_pos fun h => c (b.cnt.mp h)
    rw [this, Nat.zero_mul]
    exact Nat.zero_le _
theorem Bt.far (b : Bt n w m) {x : Nat} (h : x ∈ eatN n w m.left) : farM (eatN n w m.left) (Lr m) x = fr (vN n w m x) (m.unit * factorial n) := by
  have hx := (b.mem h).1
  unfold farM
  rw [Lr_get (by rw [b.ll]; exact hx), ← b.el, over_fr b.up (b.cnt.mpr h)]
  refine fr_congr ?_ (Nat.mul_pos b.up (b.cnt.mpr h)) (Nat.mul_pos b.up (factorial_pos n))
  have := b.v_mul h
  calc m.left.getD x 0 * (m.unit * factorial n) = (m.left.getD x 0 * factorial n) * m.unit := by simp only [Nat.mul_comm, Nat.mul_left_comm, Nat.mul_assoc]
    _ = (vN n w m x * eaters n w m.left x) * m.unit := by rw [this]
    _ = vN n w m x * (m.unit * eaters n w m.left x) := by simp only [Nat.mul_comm, Nat.mul_left_comm, Nat.mul_assoc]
theorem Bt.till (b : Bt n w m) : tillM (eatN n w m.left) (Lr m) (eatN n w m.left) = fr (timeN n w m.left) (m.unit * factorial n) := by
  have up' := Nat.mul_pos b.up (factorial_pos n)
  have h : ∀ (l : List Nat) (t : Nat), (∀ x ∈ l, x ∈ eatN n w m.left) → l.foldl (fun least x => if lessM (farM (eatN n w m.left) (Lr m) x) least = true then farM (eatN n w m.left) (Lr m) x else least) (fr t (m.unit * factorial n)) = fr (lowest (vN n w m) l t) (m.unit * factorial n) := by
    intro l
    induction l with
    | nil => intro t _; rfl
    | cons x l ih =>
      intro t hl
      show l.foldl _ (if lessM (farM (eatN n w m.left) (Lr m) x) (fr t (m.unit * factorial n)) = true then farM (eatN n w m.left) (Lr m) x else fr t (m.unit * factorial n)) = fr (lowest (vN n w m) l (if vN n w m x < t then vN n w m x else t)) _
      rw [b.far (hl x List.mem_cons_self), less_fr up']
      by_cases c : vN n w m x < t
      · rw [if_pos (decide_eq_true c), if_pos c]
        exact ih _ fun y hy => hl y (List.mem_cons_of_mem _ hy)
      · rw [if_neg (by rw [decide_eq_false c]; exact Bool.false_ne_true), if_neg c]
        exact ih _ fun y hy => hl y (List.mem_cons_of_mem _ hy)
  unfold tillM
  rw [← fr_one up', h _ _ fun x hx => hx, b.time.1]
theorem Bt.left (b : Bt n w m) : leftM (Lr m) (eatN n w m.left) (tillM (eatN n w m.left) (Lr m) (eatN n w m.left)) = Lr (bite n w m) := by
  have up' := Nat.mul_pos b.up (factorial_pos n)
  have hll : (Lr m).length = n := by
    unfold Lr
    rw [List.length_map, b.ll]
  rw [b.till, bite_eq]
  unfold leftM
  rw [hll]
  show _ = ((List.range n).map fun x => m.left.getD x 0 * factorial n - eaters n w m.left x * timeN n w m.left).map fun a => fr a (m.unit * factorial n)
  rw [List.map_map]
  refine List.map_congr_left fun x hx => ?_
  have hx := List.mem_range.mp hx
  show minusM ((Lr m).getD x (0, 1)) (timesM (fr (timeN n w m.left) (m.unit * factorial n)) ((eatN n w m.left).count x)) = fr (m.left.getD x 0 * factorial n - eaters n w m.left x * timeN n w m.left) (m.unit * factorial n)
  rw [Lr_get (by rw [b.ll]; exact hx), times_fr up', minus_fr b.up up', ← b.el]
  refine fr_congr ?_ (Nat.mul_pos b.up up') up'
  have e : m.left.getD x 0 * (m.unit * factorial n) - timeN n w m.left * eaters n w m.left x * m.unit = (m.left.getD x 0 * factorial n - eaters n w m.left x * timeN n w m.left) * m.unit := by
    rw [Nat.sub_mul]
    congr 1
    · simp only [Nat.mul_comm, Nat.mul_left_comm, Nat.mul_assoc]
    · simp only [Nat.mul_comm, Nat.mul_left_comm, Nat.mul_assoc]
  rw [e, Nat.mul_assoc]
theorem sharesUpTo_lt (S : List (List (Nat × Nat))) (E : List Nat) (far : Nat × Nat) : ∀ (j i : Nat), i < j → i < S.length → (sharesUpTo S E far j).getD i [] = (S.getD i []).set (E.getD i 0) (plusM ((S.getD i []).getD (E.getD i 0) (0, 1)) far)
  | 0, _, h, _ => absurd h (by omega)
  | j + 1, i, h, hi => by
    show ((sharesUpTo S E far j).set j _).getD i [] = _
    by_cases c : i = j
    · subst c
      rw [getD_set_eq (by rw [sharesUpTo_len]; exact hi), sharesUpTo_ge S E far i i (Nat.le_refl i)]
    · rw [getD_set_ne (fun z => c z.symm), sharesUpTo_lt S E far j i (by omega) hi]
theorem ext_getD {α : Type} {a b : List α} {d : α} {n : Nat} (ha : a.length = n) (hb : b.length = n) (h : ∀ i, i < n → a.getD i d = b.getD i d) : a = b := by
  apply List.ext_getElem (by omega)
  intro i h1 h2
  have := h i (by omega)
  rw [List.getD_eq_getElem?_getD, List.getD_eq_getElem?_getD, List.getElem?_eq_getElem h1, List.getElem?_eq_getElem h2] at this
  exact this
theorem Bt.shares (b : Bt n w m) (hl : m.eaten.length = n) (hr : ∀ i, i < n → (m.eaten.getD i []).length = n) :
    sharesUpTo (Sr m) (eatN n w m.left) (tillM (eatN n w m.left) (Lr m) (eatN n w m.left)) n = Sr (bite n w m) := by
  have up' := Nat.mul_pos b.up (factorial_pos n)
  have hsl : (Sr m).length = n := by
    unfold Sr
    rw [List.length_map, hl]
  rw [b.till, bite_eq]
  refine ext_getD (d := []) (n := n) (by rw [sharesUpTo_len, hsl]) (by unfold Sr; rw [List.length_map, List.length_map, List.length_range]) fun i hi => ?_
  obtain ⟨y, ey, hy, _⟩ := b.ev i hi
  rw [sharesUpTo_lt _ _ _ n i hi (by rw [hsl]; exact hi), Sr_get (by rw [hl]; exact hi), getD_eatN hi, ey]
  have hri := hr i hi
  have e2 : (Sr ⟨m.unit * factorial n, (List.range n).map (fun x => m.left.getD x 0 * factorial n - eaters n w m.left x * timeN n w m.left),
    (List.range n).map (fun i => (List.range n).map (fun x => (m.eaten.getD i []).getD x 0 * factorial n + (if eats w m.left i = some x then timeN n w m.left else 0)))⟩).getD i [] =
      ((List.range n).map (fun x => (m.eaten.getD i []).getD x 0 * factorial n + (if eats w m.left i = some x then timeN n w m.left else 0))).map fun a => fr a (m.unit * factorial n) := by
    rw [Sr_get (by rw [List.length_map, List.length_range]; exact hi)]
    congr 1
    rw [List.getD_eq_getElem?_getD, List.getElem?_map, List.getElem?_range hi]
    rfl
  rw [e2]
  generalize m.eaten.getD i [] = r at *
  show (r.map fun a => fr a m.unit).set y (plusM ((r.map fun a => fr a m.unit).getD y (0, 1)) (fr (timeN n w m.left) (m.unit * factorial n))) = _
  refine ext_getD (d := (0, 1)) (n := n) (by rw [List.length_set, List.length_map, hri]) (by rw [List.length_map, List.length_map, List.length_range]) fun x hx => ?_
  rw [row_get (r := (List.range n).map _) (by rw [List.length_map, List.length_range]; exact hx), map_range_getD hx, ey]
  by_cases c : y = x
  · subst c
    rw [getD_set_eq (by rw [List.length_map, hri]; exact hx), if_pos rfl, row_get (by rw [hri]; exact hx), plus_fr b.up up']
    refine fr_congr ?_ (Nat.mul_pos b.up up') up'
    have e : r.getD y 0 * (m.unit * factorial n) + timeN n w m.left * m.unit = (r.getD y 0 * factorial n + timeN n w m.left) * m.unit := by
      rw [Nat.add_mul]
      congr 1
      simp only [Nat.mul_comm, Nat.mul_left_comm, Nat.mul_assoc]
    rw [e, Nat.mul_assoc]
  · rw [getD_set_ne c, if_neg (fun z => c (Option.some.inj z)), row_get (by rw [hri]; exact hx), Nat.add_zero, fr_scale (factorial_pos n)]
theorem filter_lt {p q : Nat → Bool} {l : List Nat} (h : ∀ x ∈ l, q x = true → p x = true) {y : Nat} (hy : y ∈ l) (h1 : p y = true) (h2 : q y = false) : (l.filter q).length < (l.filter p).length := by
  have e : l.filter q = (l.filter p).filter q := by
    rw [List.filter_filter]
    refine List.filter_congr fun x hx => ?_
    cases c : q x with
    | false => rfl
    | true => rw [h x hx c]; rfl
  rw [e]
  exact List.length_filter_lt_length_iff_exists.mpr ⟨y, List.mem_filter.mpr ⟨hy, h1⟩, by rw [h2]; exact Bool.false_ne_true⟩
theorem Bt.nz_lt (b : Bt n w m) : nz n (bite n w m).left < nz n m.left := by
  unfold nz
  obtain ⟨y, hy, ty⟩ := b.time.2.1
  have hyn := b.mem hy
  rw [bite_eq]
  show ((List.range n).filter fun x => ((List.range n).map fun x => m.left.getD x 0 * factorial n - eaters n w m.left x * timeN n w m.left).getD x 0 != 0).length < _
  refine filter_lt (fun x hx h => ?_) (List.mem_range.mpr hyn.1) (bne_iff_ne.mpr hyn.2) ?_
  · rw [map_range_getD (List.mem_range.mp hx)] at h
    have h := bne_iff_ne.mp h
    refine bne_iff_ne.mpr fun z => h ?_
    rw [z, Nat.zero_mul, Nat.zero_sub]
  · rw [map_range_getD hyn.1, ty, Nat.mul_comm (eaters n w m.left y), b.v_mul hy, Nat.sub_self]
    rfl
theorem MOk.bt {k : Nat} (o : MOk n k m) (g : Gd n w) (h : ∃ x, x < n ∧ m.left.getD x 0 ≠ 0) : Bt n w m := by
  obtain ⟨x, hx, hne⟩ := h
  exact ⟨g, o.up, o.ll, o.lb, fun i hi => eats_some g hi hx hne, by omega⟩
theorem unit_le {u k : Nat} (h : u * factorial n ^ k ≤ 2 ^ 40) : u ≤ 2 ^ 40 :=
  Nat.le_trans (Nat.le_mul_of_pos_right u (Nat.pow_pos (factorial_pos n))) h
theorem MOk.eok {k : Nat} (o : MOk n (k + 1) m) (hn : n ≤ 8) (b : Bt n w m) : EOk n w (Lr m) (Sr m) := by
  have up' := Nat.mul_pos b.up (factorial_pos n)
  have hu := unit_le o.ub
  have hu' : m.unit * factorial n ≤ 2 ^ 40 := by
    have := o.ub
    rw [Nat.pow_succ, Nat.mul_comm (factorial n ^ k), ← Nat.mul_assoc] at this
    exact unit_le this
  have e := eat_is (m := m) b.g b.ll b.up
  have lt64 : ∀ {a : Nat}, a ≤ 2 ^ 40 → a < 2 ^ 64 := fun h => Nat.lt_of_le_of_lt h (by decide)
  refine ⟨by unfold Lr; rw [List.length_map, o.ll], by unfold Sr; rw [List.length_map, o.el], fun i hi => by rw [Sr_get (by rw [o.el]; exact hi), List.length_map, o.er i hi], ?_, ?_, ?_, ?_, ?_, ?_⟩
  · intro row hrow z
    obtain ⟨i, hi, ei⟩ := List.getElem_of_mem hrow
    have hin : i < n := by rw [← b.g.len]; exact hi
    obtain ⟨y, ey, hy, hne⟩ := b.ev i hin
    have hor : orderOf w i = row := by
      unfold orderOf
      rw [List.getD_eq_getElem?_getD, List.getElem?_eq_getElem hi]
      exact ei
    have hm : y ∈ row.filter fun x => (Lr m).getD x (0, 1) != (0, 1) := by
      refine List.mem_filter.mpr ⟨by rw [← hor]; exact (b.g.mem hin).mpr hy, bne_iff_ne.mpr fun z2 => ?_⟩
      rw [Lr_get (by rw [b.ll]; exact hy)] at z2
      exact fr_ne (a := m.left.getD y 0) (u := m.unit) (by omega) (congrArg Prod.fst z2)
    rw [z] at hm
    simp at hm
  · intro x hx
    rw [Lr_get (by rw [o.ll]; exact hx)]
    exact ⟨fr_small (lt64 (Nat.le_trans (o.lb x) hu)) (lt64 hu), fr_pos b.up⟩
  · intro x hx
    rw [e] at hx ⊢
    rw [b.far hx]
    exact fr_small (lt64 (Nat.le_trans b.v_le hu')) (lt64 hu')
  · intro i x hi hx
    rw [Sr_get (by rw [o.el]; exact hi), row_get (by rw [o.er i hi]; exact hx)]
    refine ⟨fr_small ?_ (lt64 hu), fr_pos b.up⟩
    refine Nat.lt_of_le_of_lt (Nat.le_trans (o.eb i x) (Nat.mul_le_mul (show n - (k + 1) ≤ 8 by omega) hu)) (by decide)
  · rw [e, b.till]
    exact fr_pos up'
  · intro x hx
    rw [e, b.till, times_fr up', ← b.el, Lr_get (by rw [o.ll]; exact hx)]
    have ht := b.t_mul x
    have htu : timeN n w m.left * eaters n w m.left x ≤ m.unit * factorial n := by
      rw [Nat.mul_comm]
      exact Nat.le_trans ht (Nat.mul_le_mul_right _ (b.lb x))
    refine ⟨fr_small (lt64 (Nat.le_trans htu hu')) (lt64 hu'), fr_pos up', ?_⟩
    have h1 := fr_cross (a := timeN n w m.left * eaters n w m.left x) (u := m.unit * factorial n)
    have h2 := fr_cross (a := m.left.getD x 0) (u := m.unit)
    generalize (fr (timeN n w m.left * eaters n w m.left x) (m.unit * factorial n)).1 = x1 at *
    generalize (fr (timeN n w m.left * eaters n w m.left x) (m.unit * factorial n)).2 = x2 at *
    generalize (fr (m.left.getD x 0) m.unit).1 = y1 at *
    generalize (fr (m.left.getD x 0) m.unit).2 = y2 at *
    refine Nat.le_of_mul_le_mul_right (c := m.unit * factorial n) ?_ up'
    calc x1 * y2 * (m.unit * factorial n) = (x1 * (m.unit * factorial n)) * y2 := Nat.mul_right_comm ..
      _ = (eaters n w m.left x * timeN n w m.left) * (x2 * y2) := by
        rw [h1]
        simp only [Nat.mul_comm, Nat.mul_left_comm, Nat.mul_assoc]
      _ ≤ (m.left.getD x 0 * factorial n) * (x2 * y2) := Nat.mul_le_mul_right _ ht
      _ = (m.left.getD x 0 * y2) * (x2 * factorial n) := by simp only [Nat.mul_comm, Nat.mul_left_comm, Nat.mul_assoc]
      _ = (y1 * m.unit) * (x2 * factorial n) := by rw [h2]
      _ = y1 * x2 * (m.unit * factorial n) := by simp only [Nat.mul_comm, Nat.mul_left_comm, Nat.mul_assoc]
theorem MOk.next {k : Nat} (o : MOk n (k + 1) m) (b : Bt n w m) : MOk n k (bite n w m) := by
  have up' := Nat.mul_pos b.up (factorial_pos n)
  have hz := b.nz_lt
  have oz := o.z
  have kn := o.kn
  rw [bite_eq] at hz ⊢
  refine ⟨up', ?_, by rw [List.length_map, List.length_range], ?_, by rw [List.length_map, List.length_range], ?_, ?_, by omega, by omega⟩
  · have := o.ub
    rw [Nat.pow_succ, Nat.mul_comm (factorial n ^ k), ← Nat.mul_assoc] at this
    exact this
  · intro x
    show ((List.range n).map fun x => m.left.getD x 0 * factorial n - eaters n w m.left x * timeN n w m.left).getD x 0 ≤ m.unit * factorial n
    by_cases c : x < n
    · rw [map_range_getD c]
      exact Nat.le_trans (Nat.sub_le ..) (Nat.mul_le_mul_right _ (b.lb x))
    · rw [List.getD_eq_getElem?_getD, List.getElem?_eq_none (by rw [List.length_map, List.length_range]; omega)]
      exact Nat.zero_le _
  · intro i hi
    show (((List.range n).map fun i => (List.range n).map fun x => (m.eaten.getD i []).getD x 0 * factorial n + (if eats w m.left i = some x then timeN n w m.left else 0)).getD i []).length = n
    rw [List.getD_eq_getElem?_getD, List.getElem?_map, List.getElem?_range hi]
    show ((List.range n).map _).length = n
    rw [List.length_map, List.length_range]
  · intro i x
    show (((List.range n).map fun i => (List.range n).map fun x => (m.eaten.getD i []).getD x 0 * factorial n + (if eats w m.left i = some x then timeN n w m.left else 0)).getD i []).getD x 0 ≤ (n - k) * (m.unit * factorial n)
    by_cases ci : i < n
    · rw [List.getD_eq_getElem?_getD (l := (List.range n).map _), List.getElem?_map, List.getElem?_range ci]
      show ((List.range n).map fun x => (m.eaten.getD i []).getD x 0 * factorial n + (if eats w m.left i = some x then timeN n w m.left else 0)).getD x 0 ≤ _
      by_cases cx : x < n
      · rw [map_range_getD cx]
        have h1 := Nat.mul_le_mul_right (factorial n) (o.eb i x)
        have h2 : (if eats w m.left i = some x then timeN n w m.left else 0) ≤ m.unit * factorial n := by
          split
          · obtain ⟨y, hy, ty⟩ := b.time.2.1
            rw [ty]
            exact b.v_le
          · exact Nat.zero_le _
        rw [Nat.mul_assoc] at h1
        have e : n - k = (n - (k + 1)) + 1 := by omega
        rw [e, Nat.succ_mul]
        omega
      · rw [List.getD_eq_getElem?_getD, List.getElem?_eq_none (by rw [List.length_map, List.length_range]; omega)]
        exact Nat.zero_le _
    · rw [List.getD_eq_getElem?_getD (l := (List.range n).map _), List.getElem?_eq_none (by rw [List.length_map, List.length_range]; omega)]
      exact Nat.zero_le _
theorem all_zero_of {k : Nat} (o : MOk n k m) (h : (m.left.all fun x => x == 0) = true) : Lr m = List.replicate n (0, 1) := by
  unfold Lr
  refine List.eq_replicate_iff.mpr ⟨by rw [List.length_map, o.ll], fun q hq => ?_⟩
  obtain ⟨x, hx, rfl⟩ := List.mem_map.mp hq
  have e : x = 0 := beq_iff_eq.mp (List.all_eq_true.mp h x hx)
  rw [e, fr_zero o.up]
theorem not_zero_of {k : Nat} (o : MOk n k m) (h : ¬ (m.left.all fun x => x == 0) = true) : ∃ x, x < n ∧ m.left.getD x 0 ≠ 0 := by
  false_or_by_contra
  rename_i no
  refine h (List.all_eq_true.mpr fun y hy => ?_)
  obtain ⟨x, hx, e⟩ := List.getElem_of_mem hy
  refine beq_iff_eq.mpr ?_
  false_or_by_contra
  rename_i hne
  refine no ⟨x, by rw [← o.ll]; exact hx, ?_⟩
  rw [List.getD_eq_getElem?_getD, List.getElem?_eq_getElem hx, e]
  exact hne
/-- the program's loop, against the specification's bites -/
theorem eatRun_of (hn : n ≤ 8) (g : Gd n w) : ∀ (k : Nat) (m : Meal), MOk n k m → EatRun n w k (Lr m) (Sr m) (Sr (bites n w k m))
  | 0, m, o => by
    have h : (m.left.all fun x => x == 0) = true := by
      false_or_by_contra
      rename_i no
      obtain ⟨x, hx, hne⟩ := not_zero_of o no
      have z := o.z
      unfold nz at z
      have hm : x ∈ (List.range n).filter fun x => m.left.getD x 0 != 0 := List.mem_filter.mpr ⟨List.mem_range.mpr hx, bne_iff_ne.mpr hne⟩
      have := List.length_pos_of_mem hm
      omega
    show EatRun n w 0 (Lr m) (Sr m) (Sr m)
    rw [all_zero_of o h]
    exact .stop
  | k + 1, m, o => by
    by_cases h : (m.left.all fun x => x == 0) = true
    · show EatRun n w (k + 1) (Lr m) (Sr m) (Sr (if (m.left.all fun x => x == 0) = true then m else bites n w k (bite n w m)))
      rw [if_pos h, all_zero_of o h]
      exact .stop
    · show EatRun n w (k + 1) (Lr m) (Sr m) (Sr (if (m.left.all fun x => x == 0) = true then m else bites n w k (bite n w m)))
      rw [if_neg h]
      obtain ⟨x, hx, hne⟩ := not_zero_of o h
      have b := o.bt g ⟨x, hx, hne⟩
      have e := eat_is (m := m) b.g b.ll b.up
      refine .go (fun z => ?_) (o.eok hn b) ?_
      · have h2 := Lr_get (m := m) (x := x) (by rw [o.ll]; exact hx)
        rw [z, List.getD_eq_getElem?_getD, List.getElem?_replicate, if_pos hx] at h2
        exact fr_ne (a := m.left.getD x 0) (u := m.unit) (by omega) (congrArg Prod.fst h2).symm
      · rw [e, b.left, b.shares o.el o.er]
        exact eatRun_of hn g k _ (o.next b)
theorem getD_rep {α : Type} {n i : Nat} {x d : α} (h : i < n) : (List.replicate n x).getD i d = x := by
  rw [List.getD_eq_getElem?_getD, List.getElem?_replicate, if_pos h]
  rfl
theorem meal_ok (hn : n ≤ 5) : MOk n n ⟨1, List.replicate n 1, List.replicate n (List.replicate n 0)⟩ := by
  refine ⟨Nat.one_pos, ?_, List.length_replicate, fun x => ?_, List.length_replicate, fun i hi => ?_, fun i x => ?_, Nat.le_refl n, ?_⟩
  · have h : ∀ n : Fin 6, 1 * factorial n.1 ^ n.1 ≤ 2 ^ 40 := by decide +kernel
    exact h ⟨n, by omega⟩
  · show (List.replicate n 1).getD x 0 ≤ 1
    rw [List.getD_eq_getElem?_getD, List.getElem?_replicate]
    split
    · exact Nat.le_refl 1
    · exact Nat.zero_le 1
  · show ((List.replicate n (List.replicate n 0)).getD i []).length = n
    rw [getD_rep hi, List.length_replicate]
  · show ((List.replicate n (List.replicate n 0)).getD i []).getD x 0 ≤ _
    have : ((List.replicate n (List.replicate n 0)).getD i []).getD x 0 = 0 := by
      by_cases c : i < n
      · rw [getD_rep c, getD_replicate]
      · rw [List.getD_eq_getElem?_getD (l := List.replicate n (List.replicate n 0)), List.getElem?_eq_none (by rw [List.length_replicate]; omega)]
        rfl
    rw [this]
    exact Nat.zero_le _
  · unfold nz
    refine Nat.le_trans (List.length_filter_le ..) ?_
    rw [List.length_range]
    exact Nat.le_refl n
theorem meal_run (hn : n ≤ 5) (g : Gd n w) : EatRun n w n (List.replicate n (1, 1)) (List.replicate n (List.replicate n (0, 1))) (Sr (meal n w)) := by
  have h := eatRun_of (by omega) g n _ (meal_ok hn)
  have e1 : Lr ⟨1, List.replicate n 1, List.replicate n (List.replicate n 0)⟩ = List.replicate n (1, 1) := by
    unfold Lr
    rw [List.map_replicate]
    show List.replicate n (fr 1 1) = _
    rw [fr_one Nat.one_pos]
  have e2 : Sr ⟨1, List.replicate n 1, List.replicate n (List.replicate n 0)⟩ = List.replicate n (List.replicate n (0, 1)) := by
    unfold Sr
    rw [List.map_replicate, List.map_replicate]
    show List.replicate n (List.replicate n (fr 0 1)) = _
    rw [fr_zero Nat.one_pos]
  rw [e1, e2] at h
  exact h
theorem shares_is : shares n w = (Sr (meal n w)).flatMap fun r => r.flatMap fun q => [q.1, q.2] := by
  unfold shares Sr
  rw [flatMap_map']
  refine flatMap_congr' fun r _ => ?_
  rw [flatMap_map']
  rfl
/-- how many numbers -/
theorem bites_ok (g : Gd n w) : ∀ (k : Nat) (m : Meal), MOk n k m → (bites n w k m).eaten.length = n ∧ ∀ i, i < n → ((bites n w k m).eaten.getD i []).length = n
  | 0, m, o => ⟨o.el, o.er⟩
  | k + 1, m, o => by
    show (if (m.left.all fun x => x == 0) = true then m else bites n w k (bite n w m)).eaten.length = n ∧ ∀ i, i < n → ((if (m.left.all fun x => x == 0) = true then m else bites n w k (bite n w m)).eaten.getD i []).length = n
    by_cases h : (m.left.all fun x => x == 0) = true
    · rw [if_pos h]
      exact ⟨o.el, o.er⟩
    · rw [if_neg h]
      exact bites_ok g k _ (o.next (o.bt g (not_zero_of o h)))
theorem flatMap_const {α β : Type} {f : α → List β} {c : Nat} : ∀ {l : List α}, (∀ x ∈ l, (f x).length = c) → (l.flatMap f).length = l.length * c
  | [], _ => by rw [List.flatMap_nil]; simp
  | x :: l, h => by
    rw [List.flatMap_cons, List.length_append, h x List.mem_cons_self, flatMap_const fun y hy => h y (List.mem_cons_of_mem _ hy), List.length_cons, Nat.succ_mul, Nat.add_comm]
theorem Sr_lens (hn : n ≤ 5) (g : Gd n w) : (Sr (meal n w)).length = n ∧ ∀ r ∈ Sr (meal n w), r.length = n := by
  obtain ⟨h1, h2⟩ := bites_ok g n _ (meal_ok hn)
  refine ⟨by unfold Sr; rw [List.length_map]; exact h1, fun r hr => ?_⟩
  obtain ⟨r0, h0, rfl⟩ := List.mem_map.mp hr
  obtain ⟨i, hi, e⟩ := List.getElem_of_mem h0
  rw [List.length_map]
  have : ((meal n w).eaten.getD i []).length = n := h2 i (by rw [← h1]; exact hi)
  rw [List.getD_eq_getElem?_getD, List.getElem?_eq_getElem hi] at this
  rw [← e]
  exact this
theorem shares_len (hn : n ≤ 5) (g : Gd n w) : (shares n w).length = 2 * n * n := by
  obtain ⟨h1, h2⟩ := Sr_lens hn g
  rw [shares_is, flatMap_const (c := n * 2) (fun r hr => by rw [flatMap_const (c := 2) (fun _ _ => rfl), h2 r hr]), h1]
  simp only [Nat.mul_comm, Nat.mul_left_comm, Nat.mul_assoc]
end
end Wg

/-! folk.py: the first half -/
namespace Wg
open PySem PySem.Spec PyProof.Rows L2

/-! ### instances -/
theorem lk_here {k : Str} {v : V} {r : List (Str × V)} : List.lookup k ((k, v) :: r) = some v := by
  have e : (k == k) = true := beq_self_eq_true k
  simp only [List.lookup, e]
theorem lk_past {k g : Str} {v : V} {r : List (Str × V)} (h : (k == g) = false) : List.lookup k ((g, v) :: r) = List.lookup k r := by
  simp only [List.lookup, h]
theorem put_here {f : Str} {v x : V} {r : List (Str × V)} : putF f v ((f, x) :: r) = (f, v) :: r := if_pos rfl
theorem put_past {f g : Str} {v x : V} {r : List (Str × V)} (h : ¬ g = f) : putF f v ((g, x) :: r) = (g, x) :: putF f v r := if_neg h
def fF (wa : Addr) : List (Str × V) := [("wishes", .ref wa)]
theorem fF_wishes (wa : Addr) : (fF wa).lookup ("wishes" : Str) = some (.ref wa) := lk_here
theorem fF_no (wa : Addr) {m : Str} (h : (m == ("wishes" : Str)) = false) : (fF wa).lookup m = none := (lk_past h).trans rfl
theorem fF_put (wa wb : Addr) : putF "wishes" (.ref wb) (fF wa) = fF wb := put_here
/-- the people's object, the list of its rows -/
def FolkAt (C : Addr) (H : Hp) (p wa : Addr) : Prop := ∃ dx, H p = some (.ins C dx (fF wa))
theorem FolkAt.same {C : Addr} {H H' : Hp} {p wa : Addr} (s : Same H H') (h : FolkAt C H p wa) : FolkAt C H' p wa := by
  obtain ⟨dx, h⟩ := h
  exact ⟨dx, s _ _ h⟩

/-! ### data: rows -/
def dR (ws : List (List Nat)) : List PyData := ws.map fun r => .list (dN r)
theorem dp_rows {K : PySem.W.Frag} {H : Hp} : ∀ {rs : List Addr} {ws : List (List Nat)}, RowsAt H rs ws → DpAll K H (rs.map V.ref) (dR ws)
  | [], [], _ => .nil
  | _ :: _, _ :: _, h => .cons (dp_nV (SqL.of h.1)) (dp_rows h.2)
  | [], _ :: _, h => h.elim
  | _ :: _, [], h => h.elim
theorem dp_WAt {K : PySem.W.Frag} {H : Hp} {a : Addr} {ws : List (List Nat)} (h : WAt H a ws) : Dp K H (.ref a) (.list (dR ws)) := by
  obtain ⟨rs, h1, h2⟩ := h
  exact .lst (SqL.of h1) (dp_rows h2)
theorem dR_lay : ∀ ws : List (List Nat), PyData.canLayAll0 (dR ws) = true
  | [] => by simp [PyData.canLayAll0, dR]
  | r :: ws => by
    have h1 := dR_lay ws
    have h2 : PyData.canLayAll0 (dN r) = true := by
      rw [dN_ints]
      exact ints_lay _
    unfold dR at h1 ⊢
    simp [PyData.canLayAll0, PyData.canLay0, h1, h2]
theorem dR_depth : ∀ ws : List (List Nat), PyData.depthAll (dR ws) ≤ 3
  | [] => by simp [PyData.depthAll, dR]
  | r :: ws => by
    have h1 := dR_depth ws
    have h2 : PyData.depthAll (dN r) ≤ 1 := by
      rw [dN_ints]
      exact ints_depth _
    unfold dR at h1 ⊢
    simp only [List.map_cons, PyData.depthAll, PyData.depth]
    omega
theorem dR_shaped (ws : List (List Nat)) : SeqAt.shaped (.list (dR ws)) = true := by
  have h1 := dR_depth ws
  have h2 : PyData.depth (.list (dR ws)) ≤ 64 := by
    simp only [PyData.depth]
    omega
  show (PyData.canLay0 (.list (dR ws)) && decide (PyData.depth (.list (dR ws)) ≤ 64)) = true
  rw [Bool.and_eq_true]
  exact ⟨by simp only [PyData.canLay0]; exact dR_lay ws, decide_eq_true h2⟩
theorem dR_nil (ws : List (List Nat)) : PyData.eqv (.list (dR ws)) (.list (dN [])) = decide (ws = []) := by
  cases ws with
  | nil => simp [PyData.eqv, PyData.eqvAll, dR, dN]
  | cons r ws => simp [PyData.eqv, PyData.eqvAll, dR, dN]
theorem dR_any (ws : List (List Nat)) : (dR ws).any (fun z => PyData.eqv z (.list (dN []))) = decide ([] ∈ ws) := by
  rw [Bool.eq_iff_iff, List.any_eq_true, decide_eq_true_iff]
  constructor
  · intro ⟨z, hz, e⟩
    obtain ⟨r, hr, rfl⟩ := List.mem_map.mp hz
    rw [dN_eqv, decide_eq_true_iff] at e
    exact e ▸ hr
  · intro h
    exact ⟨.list (dN []), List.mem_map.mpr ⟨[], h, rfl⟩, by rw [dN_eqv]; exact decide_eq_true rfl⟩

/-- the module's numbers -/
def Num (mg : Str → Option Value) (x : Str) (i : Int) : Prop := ∃ t, mg x = some (.int i t)
theorem pe_num {X : Cx} {x : Str} {i : Int} {pos : Pos} (h : Num X.mg x i) (hg : Gl X x) (hd : (x == ("__debug__" : Str)) = false := by decide) : PE X (.Name x pos) (tC (.int i)) := by
  obtain ⟨t, e⟩ := h
  exact pe_glob hg e ⟨t, rfl⟩ hd
structure Nums (mg : Str → Option Value) : Prop where
  notSo : Num mg "NOT_SO" (-1)
  tooMany : Num mg "TOO_MANY" (-2)
  noWishes : Num mg "NO_WISHES" (-3)
  nobody : Num mg "NOBODY" (-4)
  people : Num mg "MOST_PEOPLE" 16
  eaters : Num mg "MOST_EATERS" 8
  shares : Num mg "MOST_SHARES" 128
/-- the class of people -/
structure FTxt (K : PySem.W.Frag) (C : Addr) : Prop where
  cl : Cls K C
  nW : NoAttr K C "wishes"
theorem room65 {k : Nat} {A : Around} (r : Room k A) : A.units + 65 < cLine := by
  have := r.un
  omega

section
variable {P : Program} {w : World} {K : PySem.W.Frag} {mg : Str → Option Value} {base : Heap} {C : Addr}

abbrev sRoom : Stmt := top 40
theorem scRoom : FnScope ["most", "greatest"] ["most", "greatest"] (defScope sRoom) := ⟨rfl, rfl, rfl, by decide +kernel, rfl, by decide +kernel, by decide +kernel⟩
def spRoom : Sp := fun vs H Q _ => ∃ (z : Int) (m : Nat), vs = [.int z, iV m] ∧ Q (iV (Rc57.roomOf m z)) H
theorem ok_room {f : Addr} {fd : FuncData} (F : Fun K "room_for" "room_for" sRoom f fd) : FnOk P w K mg base CX0 1 f fd ["most", "greatest"] spRoom := by
  refine F.ok scRoom (fun vs H Q E h => ?_) (fun cdv A outer s H vs Q E hr h => ?_)
  · obtain ⟨z, m, rfl, _⟩ := h
    rfl
  · obtain ⟨z, m, rfl, q⟩ := h
    refine ⟨_, pss_cons (ps_if (pt_chain op_le op_le pe_int (pv 0) (pv 1)) (pss_one (ps_ret (pv 0))) pss_nil) (pss_one (ps_ret pe_int)), ?_⟩
    unfold Rc57.roomOf at q
    refine ⟨_, rfl, 1, z, rfl, rfl, _, rfl, ?_⟩
    refine ite2 (fun c => ?_) (fun c => ?_)
    · have c' := of_decide_eq_true c
      refine ⟨_, rfl, z, (m : Int), rfl, rfl, _, rfl, ?_⟩
      refine ite2 (fun d => ?_) (fun d => ?_)
      · have d' := of_decide_eq_true d
        rw [if_pos ⟨c', d'⟩] at q
        have e : iV z.toNat = .int z := by
          show V.int ((z.toNat : Nat) : Int) = V.int z
          rw [Int.toNat_of_nonneg (by omega)]
        rw [e] at q
        exact ⟨_, rfl, q⟩
      · rw [if_neg (fun x => d (decide_eq_true x.2))] at q
        exact q
    · refine ⟨false, rfl, iteF ?_⟩
      rw [if_neg (fun x => c (decide_eq_true x.1))] at q
      exact q

abbrev sFInit : Stmt := inClass (top 41) 0
theorem scFInit : FnScope ["self"] ["self"] (defScope sFInit) := ⟨rfl, rfl, rfl, by decide +kernel, rfl, by decide +kernel, by decide +kernel⟩
def spFInit (C : Addr) : Sp := fun vs H Q _ => ∃ (p dx : Addr), vs = [.ref p] ∧ H p = some (.ins C dx []) ∧
  ∀ H' wa, (∀ b o, H b = some o → b ≠ p → H' b = some o) → H wa = none → H' wa = some (.lst []) → FolkAt C H' p wa → Q .non H'
theorem ok_finit {f : Addr} {fd : FuncData} (F : Fun K "__init__" "Folk.__init__" sFInit f fd) (T : FTxt K C) : FnOk P w K mg base CX0 1 f fd ["self"] (spFInit C) := by
  refine F.ok scFInit (fun vs H Q E h => ?_) (fun cdv A outer s H vs Q E hr h => ?_)
  · obtain ⟨p, dx, rfl, _⟩ := h
    rfl
  · obtain ⟨p, dx, rfl, hp, q⟩ := h
    refine ⟨_, pss_one (ps_fld (pv 0) (pe_lst pa_nil) rfl), ?_⟩
    refine ⟨Nat.zero_le _, fun wa nwa => ?_⟩
    have npw : p ≠ wa := ne_of_none hp nwa
    refine ⟨_, rfl, p, C, dx, _, rfl, (by rw [upd_ne npw]; exact hp), T.cl, T.nW, (by show 0 < 1000; decide), ?_⟩
    refine q _ wa (fun b o e nb => ?_) nwa ?_ ⟨dx, upd_same⟩
    · rw [upd_ne nb, upd_ne (ne_of_none e nwa)]
      exact e
    · rw [upd_ne npw.symm, upd_same]

abbrev sBegin : Stmt := inClass (top 41) 1
theorem scBegin : FnScope ["self"] ["self"] (defScope sBegin) := ⟨rfl, rfl, rfl, by decide +kernel, rfl, by decide +kernel, by decide +kernel⟩
def spBegin (C : Addr) : Sp := fun vs H Q _ => ∃ (p wa0 : Addr), vs = [.ref p] ∧ FolkAt C H p wa0 ∧
  ∀ H' wa r, (∀ b o, H b = some o → b ≠ p → H' b = some o) → H wa = none → H' wa = some (.lst []) → FolkAt C H' p wa → H r = none → H' r = some (.lst [.int 0]) → Q (.ref r) H'
theorem ok_begin {f : Addr} {fd : FuncData} (F : Fun K "begin" "Folk.begin" sBegin f fd) (T : FTxt K C) : FnOk P w K mg base CX0 1 f fd ["self"] (spBegin C) := by
  refine F.ok scBegin (fun vs H Q E h => ?_) (fun cdv A outer s H vs Q E hr h => ?_)
  · obtain ⟨p, wa0, rfl, _⟩ := h
    rfl
  · obtain ⟨p, wa0, rfl, ⟨dx, hp⟩, q⟩ := h
    refine ⟨_, pss_cons (ps_fld (pv 0) (pe_lst pa_nil) rfl) (pss_one (ps_ret (pe_lst (pa_cons pe_int pa_nil)))), ?_⟩
    refine ⟨Nat.zero_le _, fun wa nwa => ?_⟩
    have npw : p ≠ wa := ne_of_none hp nwa
    refine ⟨_, rfl, p, C, dx, _, rfl, (by rw [upd_ne npw]; exact hp), T.cl, T.nW, (by show 1 < 1000; decide), ?_⟩
    rw [fF_put]
    refine ⟨by show 1 ≤ sizeLine; decide, fun r nr => ?_⟩
    have nrp : p ≠ r := ne_of_none upd_same nr
    rw [upd_ne nrp.symm] at nr
    have nwr : wa ≠ r := ne_of_none upd_same nr
    rw [upd_ne nwr.symm] at nr
    refine q _ wa r (fun b o e nb => ?_) nwa ?_ ⟨dx, ?_⟩ nr upd_same
    · rw [upd_ne (ne_of_none e nr), upd_ne nb, upd_ne (ne_of_none e nwa)]
      exact e
    · rw [upd_ne nwr, upd_ne npw.symm, upd_same]
    · rw [upd_ne nrp, upd_same]

abbrev sPeople : Stmt := inClass (top 41) 2
theorem scPeople : FnScope ["self", "many", "person"] ["self", "many"] (defScope sPeople) := ⟨rfl, rfl, rfl, by decide +kernel, rfl, by decide +kernel, by decide +kernel⟩
def spPeople (C : Addr) : Sp := fun vs H Q _ => ∃ (p wa0 : Addr) (z : Int), vs = [.ref p, .int z] ∧ FolkAt C H p wa0 ∧
  (¬ (1 ≤ z ∧ z ≤ 16) → ∀ H' r, Same H H' → H r = none → H' r = some (.lst [.int (-1)]) → Q (.ref r) H') ∧
  (∀ n : Nat, z = (n : Int) → 1 ≤ n → n ≤ 16 → ∀ H' wa rs r, (∀ b o, H b = some o → b ≠ p → H' b = some o) → H wa = none → H' wa = some (.lst (rs.map V.ref)) → RowsAt H' rs (List.replicate n []) → (∀ x ∈ rs, H x = none ∧ x ≠ wa) → FolkAt C H' p wa → H r = none → H' r = some (.lst [.int 0]) → Q (.ref r) H')
theorem ok_people {f : Addr} {fd : FuncData} (F : Fun K "people" "Folk.people" sPeople f fd) (T : FTxt K C) (B : Bl mg) (N : Nums mg) : FnOk P w K mg base CX0 1 f fd ["self", "many"] (spPeople C) := by
  refine F.ok scPeople (fun vs H Q E h => ?_) (fun cdv A outer s H vs Q E hr h => ?_)
  · obtain ⟨p, wa0, z, rfl, _⟩ := h
    rfl
  · obtain ⟨p, wa0, z, rfl, ⟨dx, hp⟩, q1, q2⟩ := h
    refine ⟨_, pss_cons (ps_if (pt_not (pt_chain op_le op_le pe_int (pv 1) (pe_num N.people (by rfl)))) (pss_one (ps_ret (pe_lst (pa_cons (pe_num N.notSo (by rfl)) pa_nil)))) pss_nil)
      (pss_cons (ps_fld (pv 0) (pe_lc (own := [("person", 2)]) (g := gName 2) (tt := tYes) (te := tLst tNil) (by rfl) scPeople.nd (pi_range1 (by rfl) B.range (pa_cons (pv 1) pa_nil)) (blkOk_by (own := [("person", 2)]) (N := ["self", "many", "person"]) (sc := defScope sPeople) (by decide +kernel))
          (fun _ _ _ _ _ => pg_name (i := 2) scPeople.nd rfl (Or.inl rfl)) (fun _ _ _ _ _ => pts_nil) (fun _ _ _ _ _ => pe_lst pa_nil)) rfl)
      (pss_one (ps_ret (pe_lst (pa_cons pe_int pa_nil))))), ?_⟩
    have no : (¬ (1 ≤ z ∧ z ≤ 16)) → tRet (tLst (tCons (tC (.int (-1))) tNil)) { nx := fun _ H' => Q .non H', rt := Q } (start ["self", "many", "person"] [.ref p, .int z]) H := fun c =>
      ⟨by show 1 ≤ sizeLine; decide, fun r nr => q1 c _ r (same_upd nr) nr upd_same⟩
    have yes : (1 ≤ z ∧ z ≤ 16) → sFld K (tVar 0) (tLc (iRng1 (tCons (tVar 1) tNil)) (gName 2) tYes (tLst tNil) [2]) "wishes" { nx := tRet (tLst (tCons (tC (.int 0)) tNil)) { nx := fun _ H' => Q .non H', rt := Q }, rt := Q } (start ["self", "many", "person"] [.ref p, .int z]) H := fun c => by
      obtain ⟨n, rfl⟩ : ∃ n : Nat, z = (n : Int) := ⟨z.toNat, by omega⟩
      refine ⟨_, rfl, (n : Int), rfl, by omega, by omega, fun D nD => lc_rangeN (n := n) (fun i H' => ∃ rs : List Addr, Same H H' ∧ H' D = some (.lst (rs.map V.ref)) ∧ RowsAt H' rs (List.replicate i []) ∧ ∀ x ∈ rs, H x = none ∧ x ≠ D)
        ⟨[], same_upd nD, upd_same, trivial, fun x hx => absurd hx (by simp)⟩ ?_ ?_⟩
      · rintro i H' hi ⟨rs, s1, h1, h2, h3⟩
        refine ⟨rfl, iteT (B := True) ⟨Nat.zero_le _, fun e ne => ?_⟩⟩
        have nDe : D ≠ e := ne_of_none h1 ne
        have hD2 : (upd H' e (.lst [])) D = some (.lst (rs.map V.ref)) := by rw [upd_ne nDe]; exact h1
        refine ⟨_, hD2, ?_, rs ++ [e], (s1.updN ne).putN nD, by rw [upd_same, List.map_append]; rfl, ?_, fun x hx => ?_⟩
        · rw [List.length_map, h2.len, List.length_replicate]
          exact size_lt (by omega)
        · rw [List.replicate_succ']
          refine RowsAt.append (RowsAt.keep (fun x hx o ho => ?_) (h2.same (same_upd (o := .lst []) ne))) ⟨by rw [upd_ne nDe.symm, upd_same]; rfl, trivial⟩
          rw [upd_ne (h3 x hx).2]
          exact ho
        · rcases List.mem_append.mp hx with hx | hx
          · exact h3 x hx
          · obtain rfl := List.mem_singleton.mp hx
            exact ⟨s1.free ne, nDe.symm⟩
      · rintro H1 ⟨rs, s1, h1, h2, h3⟩
        have hp1 := s1 _ _ hp
        have nDp : D ≠ p := fun z => by
          rw [z, hp] at nD
          cases nD
        refine ⟨_, rfl, p, C, dx, _, rfl, hp1, T.cl, T.nW, (by show 1 < 1000; decide), ?_⟩
        rw [fF_put]
        refine ⟨by show 1 ≤ sizeLine; decide, fun r nr => ?_⟩
        have nrp : p ≠ r := ne_of_none upd_same nr
        rw [upd_ne nrp.symm] at nr
        have nDr : D ≠ r := ne_of_none h1 nr
        refine q2 n rfl (by omega) (by omega) _ D rs r (fun b o e nb => ?_) nD ?_ ?_ h3 ⟨dx, ?_⟩ (s1.free nr) upd_same
        · rw [upd_ne (ne_of_none e (s1.free nr)), upd_ne nb]
          exact s1 _ _ e
        · rw [upd_ne nDr, upd_ne nDp]
          exact h1
        · refine RowsAt.keep (fun x hx o ho => ?_) h2
          have nxp : x ≠ p := fun z => by
            have := (h3 x hx).1
            rw [z, hp] at this
            cases this
          rw [upd_ne (ne_of_none ho nr), upd_ne nxp]
          exact ho
        · rw [upd_ne nrp, upd_same]
    refine ⟨_, rfl, 1, z, rfl, rfl, _, rfl, ?_⟩
    refine ite2 (fun c => ?_) (fun c => ?_)
    · have c' := of_decide_eq_true c
      refine ⟨z, 16, rfl, rfl, _, rfl, ?_⟩
      cases d : decide (z ≤ 16) with
      | true => exact iteF (yes ⟨c', of_decide_eq_true d⟩)
      | false => exact iteT (no fun x => by
          rw [decide_eq_true x.2] at d
          cases d)
    · exact ⟨false, rfl, iteT (no fun x => c (decide_eq_true x.1))⟩

abbrev sIsGift : Stmt := inClass (top 41) 3
theorem scIsGift : FnScope ["self", "row"] ["self", "row"] (defScope sIsGift) := ⟨rfl, rfl, rfl, by decide +kernel, rfl, by decide +kernel, by decide +kernel⟩
def spIsGift (K : PySem.W.Frag) (C : Addr) : Sp := fun vs H Q _ => ∃ (p wa ra : Addr) (xs : List V) (l : List Nat), vs = [.ref p, .ref ra] ∧ FolkAt C H p wa ∧ H wa = some (.lst xs) ∧ xs.length ≤ 1000 ∧ SqL K H ra (nV l) ∧ l.length < 64 ∧ ∀ H', Same H H' → Q (.bl (Rc57.each xs.length l)) H'
theorem ok_is_gift {f : Addr} {fd : FuncData} (F : Fun K "is_gift" "Folk.is_gift" sIsGift f fd) (T : FTxt K C) (B : Bl mg) (C1 : Cal P w K mg base "is_order" 1 ["row", "many"] (spIsOrder K)) : FnOk P w K mg base CX0 2 f fd ["self", "row"] (spIsGift K C) := by
  refine F.ok scIsGift (fun vs H Q E h => ?_) (fun cdv A outer s H vs Q E hr h => ?_)
  · obtain ⟨p, wa, ra, xs, l, rfl, _⟩ := h
    rfl
  · obtain ⟨p, wa, ra, xs, l, rfl, ⟨dx, hp⟩, hwa, hxl, hra, hl, q⟩ := h
    refine ⟨_, pss_one (ps_ret (pe_cal C1 hr (by rfl) (pa_cons (pv 1) (pa_cons (pe_callB call_len_seq (by rfl) B.len PySem.boot_len (pa_cons (pe_fld (pv 0) rfl) pa_nil)) pa_nil)))), ?_⟩
    refine ⟨_, rfl, _, rfl, p, C, dx, _, _, rfl, hp, T.cl, T.nW, fF_wishes _, wa, xs, rfl, .inl (SqL.of hwa), ?_⟩
    exact ⟨ra, l, xs.length, rfl, hra, hl, hxl, q⟩

abbrev sWish : Stmt := inClass (top 41) 4
theorem scWish : FnScope ["self", "person", "things"] ["self", "person", "things"] (defScope sWish) := ⟨rfl, rfl, rfl, by decide +kernel, rfl, by decide +kernel, by decide +kernel⟩
def spWish (K : PySem.W.Frag) (C : Addr) : Sp := fun vs H Q _ => ∃ (p wa ra : Addr) (rs : List Addr) (ws : List (List Nat)) (l : List Nat) (z : Int), vs = [.ref p, .int z, .ref ra] ∧ FolkAt C H p wa ∧ H wa = some (.lst (rs.map V.ref)) ∧ RowsAt H rs ws ∧ ws.length ≤ 1000 ∧ H ra = some (.lst (nV l)) ∧ l.length < 64 ∧
  (ws = [] → ∀ H' r, Same H H' → H r = none → H' r = some (.lst [.int (-4)]) → Q (.ref r) H') ∧
  (ws ≠ [] → (z < 0 ∨ (ws.length : Int) ≤ z ∨ Rc57.each ws.length l = false) → ∀ H' r, Same H H' → H r = none → H' r = some (.lst [.int (-1)]) → Q (.ref r) H') ∧
  (∀ i : Nat, z = (i : Int) → i < ws.length → Rc57.each ws.length l = true → ∀ H' r, (∀ b o, H b = some o → b ≠ wa → H' b = some o) → H' wa = some (.lst ((rs.set i ra).map V.ref)) → H r = none → H' r = some (.lst [.int 0]) → Q (.ref r) H')
theorem ok_wish {f : Addr} {fd : FuncData} (F : Fun K "wish" "Folk.wish" sWish f fd) (T : FTxt K C) (B : Bl mg) (N : Nums mg) (C1 : MCal P w K mg base C "is_gift" 2 ["self", "row"] (spIsGift K C)) : FnOk P w K mg base CX0 3 f fd ["self", "person", "things"] (spWish K C) := by
  refine F.ok scWish (fun vs H Q E h => ?_) (fun cdv A outer s H vs Q E hr h => ?_)
  · obtain ⟨p, wa, ra, rs, ws, l, z, rfl, _⟩ := h
    rfl
  · obtain ⟨p, wa, ra, rs, ws, l, z, rfl, ⟨dx, hp⟩, hwa, hrs, hwl, hra, hl, q1, q2, q3⟩ := h
    refine ⟨_, pss_cons (ps_if (pt_cmpR (op_eqD hr.units) (pe_fld (pv 0) rfl) (pe_lst pa_nil) (nomark _)) (pss_one (ps_ret (pe_lst (pa_cons (pe_num N.nobody (by rfl)) pa_nil)))) pss_nil)
      (pss_cons (ps_if (PW.pt (pw_or (pt_not (pt_chain op_le op_lt pe_int (pv 1) (pe_callB call_len_seq (by rfl) B.len PySem.boot_len (pa_cons (pe_fld (pv 0) rfl) pa_nil))))
          (pw_or1 (pt_not (pt_val (pe_mcal C1 hr T.cl (pv 0) (pa_cons (pv 2) pa_nil))))))) (pss_one (ps_ret (pe_lst (pa_cons (pe_num N.notSo (by rfl)) pa_nil)))) pss_nil)
      (pss_cons (ps_asg (pv 2) (pg_sub (pe_fld (pv 0) rfl) (pv 1) set_list))
      (pss_one (ps_ret (pe_lst (pa_cons pe_int pa_nil)))))), ?_⟩
    have hlen : (rs.map V.ref).length = ws.length := by rw [List.length_map, hrs.len]
    refine ⟨_, rfl, p, C, dx, _, _, rfl, hp, T.cl, T.nW, fF_wishes _, Nat.zero_le _, fun e ne => ?_⟩
    have s1 : Same H (upd H e (.lst [])) := same_upd ne
    have hw1 : WAt (upd H e (.lst [])) wa ws := ⟨rs, s1 _ _ hwa, hrs.same s1⟩
    refine ⟨_, _, dp_WAt hw1, dp_nV (l := []) (SqL.of upd_same), dR_shaped _, dN_shaped _, _, rfl, ?_⟩
    rw [dR_nil]
    have hp1 := s1 _ _ hp
    have hwa1 := s1 _ _ hwa
    have hra1 := s1 _ _ hra
    clear hw1
    generalize upd H e (.lst []) = H1 at *
    refine ite2 (fun c => ?_) (fun c => ?_)
    · exact ⟨by show 1 ≤ sizeLine; decide, fun r nr => q1 (of_decide_eq_true c) _ r (s1.updN nr) (s1.free nr) upd_same⟩
    · have hne : ws ≠ [] := fun x => c (decide_eq_true x)
      have no : ∀ H2 : Hp, Same H H2 → (z < 0 ∨ (ws.length : Int) ≤ z ∨ Rc57.each ws.length l = false) → tRet (tLst (tCons (tC (.int (-1))) tNil)) { nx := fun _ H' => Q .non H', rt := Q } (start ["self", "person", "things"] [.ref p, .int z, .ref ra]) H2 := fun H2 s2 d =>
        ⟨by show 1 ≤ sizeLine; decide, fun r nr => q2 hne d _ r (s2.updN nr) (s2.free nr) upd_same⟩
      refine ⟨_, rfl, 0, z, rfl, rfl, _, rfl, ?_⟩
      cases d : decide (0 ≤ z) with
      | false =>
        refine iteF ⟨false, rfl, ?_⟩
        exact iteT (iteT (no H1 s1 (.inl (by
          have := of_decide_eq_false d
          omega))))
      | true =>
        have d' := of_decide_eq_true d
        obtain ⟨i, rfl⟩ : ∃ i : Nat, z = (i : Int) := ⟨z.toNat, by omega⟩
        refine iteT ⟨_, rfl, p, C, dx, _, _, rfl, hp1, T.cl, T.nW, fF_wishes _, wa, _, rfl, .inl (SqL.of hwa1), ?_⟩
        rw [hlen]
        refine ⟨(i : Int), (ws.length : Int), rfl, rfl, _, rfl, ?_⟩
        cases e2 : decide ((i : Int) < (ws.length : Int)) with
        | false =>
          exact iteT (iteT (no H1 s1 (.inr (.inl (by
            have := of_decide_eq_false e2
            omega)))))
        | true =>
          have hi : i < ws.length := by
            have := of_decide_eq_true e2
            omega
          refine iteF ?_
          refine ⟨_, rfl, p, dx, _, rfl, hp1, fF_no _ (by decide +kernel), _, rfl, p, wa, ra, _, l, rfl, ⟨dx, hp1⟩, hwa1, by rw [hlen]; exact hwl, SqL.of hra1, hl, fun H2 s2 => ⟨_, rfl, ?_⟩⟩
          rw [hlen]
          have s3 := s1.trans s2
          cases e3 : Rc57.each ws.length l with
          | false => exact iteT (no H2 s3 (.inr (.inr e3)))
          | true =>
            refine iteF ?_
            refine ⟨_, rfl, _, rfl, p, C, dx, _, _, rfl, s2 _ _ hp1, T.cl, T.nW, fF_wishes _, _, rfl, wa, _, (i : Int), i, rfl, rfl, s2 _ _ hwa1, ixN_nat (by rw [hlen]; exact hi), ?_⟩
            refine ⟨by show 1 ≤ sizeLine; decide, fun r nr => ?_⟩
            have nwr : wa ≠ r := ne_of_none upd_same nr
            rw [upd_ne nwr.symm] at nr
            have nr0 : H r = none := s3.free nr
            refine q3 i rfl hi e3 _ r (fun b o eb nb => ?_) ?_ nr0 upd_same
            · rw [upd_ne (ne_of_none eb nr0), upd_ne nb]
              exact s3 _ _ eb
            · rw [upd_ne nwr, upd_same]
              congr 2
              exact (List.map_set ..).symm

abbrev sRefusal : Stmt := inClass (top 41) 5
theorem scRefusal : FnScope ["self"] ["self"] (defScope sRefusal) := ⟨rfl, rfl, rfl, by decide +kernel, rfl, by decide +kernel, by decide +kernel⟩
def refM (ws : List (List Nat)) : Int := if ws = [] then -4 else if [] ∈ ws then -3 else 0
def spRefusal (C : Addr) : Sp := fun vs H Q _ => ∃ (p wa : Addr) (ws : List (List Nat)), vs = [.ref p] ∧ FolkAt C H p wa ∧ WAt H wa ws ∧ ∀ H', Same H H' → Q (.int (refM ws)) H'
theorem ok_refusal {f : Addr} {fd : FuncData} (F : Fun K "refusal" "Folk.refusal" sRefusal f fd) (T : FTxt K C) (N : Nums mg) : FnOk P w K mg base CX0 1 f fd ["self"] (spRefusal C) := by
  refine F.ok scRefusal (fun vs H Q E h => ?_) (fun cdv A outer s H vs Q E hr h => ?_)
  · obtain ⟨p, wa, ws, rfl, _⟩ := h
    rfl
  · obtain ⟨p, wa, ws, rfl, ⟨dx, hp⟩, hw, q⟩ := h
    refine ⟨_, pss_cons (ps_if (pt_cmpR (op_eqD hr.units) (pe_fld (pv 0) rfl) (pe_lst pa_nil) (nomark _)) (pss_one (ps_ret (pe_num N.nobody (by rfl)))) pss_nil)
      (pss_cons (ps_if (pt_cmpR (op_inD (room65 hr)) (pe_lst pa_nil) (pe_fld (pv 0) rfl) (by rfl)) (pss_one (ps_ret (pe_num N.noWishes (by rfl)))) pss_nil)
      (pss_one (ps_ret pe_int))), ?_⟩
    unfold refM at q
    refine ⟨_, rfl, p, C, dx, _, _, rfl, hp, T.cl, T.nW, fF_wishes _, Nat.zero_le _, fun e ne => ?_⟩
    have s1 : Same H (upd H e (.lst [])) := same_upd ne
    refine ⟨_, _, dp_WAt (hw.same s1), dp_nV (l := []) (SqL.of upd_same), dR_shaped _, dN_shaped _, _, rfl, ?_⟩
    rw [dR_nil]
    refine ite2 (fun c => ?_) (fun c => ?_)
    · rw [if_pos (of_decide_eq_true c)] at q
      exact q _ s1
    · rw [if_neg (fun x => c (decide_eq_true x))] at q
      have hp1 := s1 _ _ hp
      have hw1 := hw.same s1
      generalize upd H e (.lst []) = H1 at *
      refine ⟨Nat.zero_le _, fun e ne => ?_⟩
      have s2 : Same H1 (upd H1 e (.lst [])) := same_upd ne
      refine ⟨_, rfl, p, C, dx, _, _, rfl, s2 _ _ hp1, T.cl, T.nW, fF_wishes _, ?_⟩
      refine ⟨_, _, dp_nV (l := []) (SqL.of upd_same), dp_WAt (hw1.same s2), dN_shaped _, dR_shaped _, _, rfl, ?_⟩
      rw [dR_any]
      refine ite2 (fun d => ?_) (fun d => ?_)
      · rw [if_pos (of_decide_eq_true d)] at q
        exact q _ (s1.trans s2)
      · rw [if_neg (fun x => d (decide_eq_true x))] at q
        exact q _ (s1.trans s2)

abbrev sFits : Stmt := inClass (top 41) 6
theorem scFits : FnScope ["self", "row", "most"] ["self", "row", "most"] (defScope sFits) := ⟨rfl, rfl, rfl, by decide +kernel, rfl, by decide +kernel, by decide +kernel⟩
def fitM (n : Nat) (l : List Nat) (z : Int) : Int := if Rc57.each n l = false then -1 else if Rc57.roomOf 16 z < n then -2 else 0
def spFits (K : PySem.W.Frag) (C : Addr) : Sp := fun vs H Q _ => ∃ (p wa ra : Addr) (xs : List V) (l : List Nat) (z : Int), vs = [.ref p, .ref ra, .int z] ∧ FolkAt C H p wa ∧ H wa = some (.lst xs) ∧ xs.length ≤ 1000 ∧ SqL K H ra (nV l) ∧ l.length < 64 ∧ ∀ H', Same H H' → Q (.int (fitM xs.length l z)) H'
theorem ok_fits {f : Addr} {fd : FuncData} (F : Fun K "fits" "Folk.fits" sFits f fd) (T : FTxt K C) (B : Bl mg) (N : Nums mg) (C1 : MCal P w K mg base C "is_gift" 2 ["self", "row"] (spIsGift K C))
    (C2 : Cal P w K mg base "room_for" 1 ["most", "greatest"] spRoom) : FnOk P w K mg base CX0 3 f fd ["self", "row", "most"] (spFits K C) := by
  refine F.ok scFits (fun vs H Q E h => ?_) (fun cdv A outer s H vs Q E hr h => ?_)
  · obtain ⟨p, wa, ra, xs, l, z, rfl, _⟩ := h
    rfl
  · obtain ⟨p, wa, ra, xs, l, z, rfl, ⟨dx, hp⟩, hwa, hxl, hra, hl, q⟩ := h
    have hr1 : Room 1 _ := hr.mono (by decide)
    refine ⟨_, pss_cons (ps_if (pt_not (pt_val (pe_mcal C1 hr T.cl (pv 0) (pa_cons (pv 1) pa_nil)))) (pss_one (ps_ret (pe_num N.notSo (by rfl)))) pss_nil)
      (pss_cons (ps_if (pt_cmpR op_gt (pe_callB call_len_seq (by rfl) B.len PySem.boot_len (pa_cons (pe_fld (pv 0) rfl) pa_nil)) (pe_cal C2 hr1 (by rfl) (pa_cons (pv 2) (pa_cons (pe_num N.people (by rfl)) pa_nil))) (nomark _)) (pss_one (ps_ret (pe_num N.tooMany (by rfl)))) pss_nil)
      (pss_one (ps_ret pe_int))), ?_⟩
    unfold fitM at q
    refine ⟨_, rfl, p, dx, _, rfl, hp, fF_no _ (by decide +kernel), _, rfl, p, wa, ra, xs, l, rfl, ⟨dx, hp⟩, hwa, hxl, hra, hl, fun H1 s1 => ⟨_, rfl, ?_⟩⟩
    cases c : Rc57.each xs.length l with
    | false =>
      rw [if_pos c] at q
      exact iteT (q _ s1)
    | true =>
      rw [if_neg (by rw [c]; exact Bool.noConfusion)] at q
      refine iteF ?_
      refine ⟨_, rfl, p, C, dx, _, _, rfl, s1 _ _ hp, T.cl, T.nW, fF_wishes _, wa, xs, rfl, .inl (SqL.of (s1 _ _ hwa)), ?_⟩
      refine ⟨_, rfl, z, 16, rfl, _, _, rfl, rfl, _, rfl, ?_⟩
      refine ite2 (fun d => ?_) (fun d => ?_)
      · have d' := of_decide_eq_true d
        rw [if_pos (by omega)] at q
        exact q _ s1
      · have d' : ¬ (((Rc57.roomOf 16 z : Nat) : Int) < (xs.length : Int)) := fun x => d (decide_eq_true x)
        rw [if_neg (by omega)] at q
        exact q _ s1
end
end Wg

/-! folk.py: what is asked -/
namespace Wg
open PySem PySem.Spec PyProof.Rows L2

/-! ### what is due -/
def ansV (a : Rc57.Ans) : List V := .int a.value :: nV a.numbers
def tradeA (n : Nat) (ws : List (List Nat)) (l : List Nat) (z : Int) : Rc57.Ans := if Rc57.each n l = false then Rc57.refused else Rc57.written 16 z (Rc57.traded n ws l)
def turnsA (n : Nat) (ws : List (List Nat)) (l : List Nat) (z : Int) : Rc57.Ans := if Rc57.each n l = false then Rc57.refused else Rc57.written 16 z (Rc57.turns n ws l)
def goodA (n : Nat) (ws : List (List Nat)) (l : List Nat) : Rc57.Ans := if Rc57.each n l = false then Rc57.refused else { value := if (Rc57.orders n (List.range n)).any (Rc57.isBetter n ws l) = true then 0 else 1 }
def orderA (n : Nat) (ws : List (List Nat)) (l : List Nat) (z : Int) : Rc57.Ans := if Rc57.each n l = false then Rc57.refused else match (Rc57.orders n (List.range n)).find? fun (o : List Nat) => Rc57.turns n ws o == l with
  | some o => Rc57.written 16 z o
  | none => { value := 0 }
def groupA (n : Nat) (ws : List (List Nat)) (l : List Nat) : Rc57.Ans := if (Rc57.each n (l.take n) && Rc57.each n (l.drop n)) = false then Rc57.refused else match (List.range (2 ^ n)).find? fun (k : Nat) => Rc57.blocks n ws (l.take n) (l.drop n) k with
  | some k => { value := 1, numbers := [k] }
  | none => { value := 0, numbers := [0] }
def eatA (n : Nat) (ws : List (List Nat)) (z : Int) : Rc57.Ans := Rc57.written 128 z (Rc57.shares n ws)
theorem fit_neg {n : Nat} {l t : List Nat} {z : Int} (h : fitM n l z < 0) (ht : t.length = n) : ansV (if Rc57.each n l = false then Rc57.refused else Rc57.written 16 z t) = [.int (fitM n l z)] := by
  unfold fitM at h ⊢
  by_cases c : Rc57.each n l = false
  · rw [if_pos c, if_pos c]
    rfl
  · rw [if_neg c] at h ⊢
    rw [if_neg c]
    unfold Rc57.written
    rw [ht]
    by_cases d : Rc57.roomOf 16 z < n
    · rw [if_pos d, if_pos d]
      rfl
    · rw [if_neg d] at h
      exact absurd h (by decide)
theorem fit_nn {n : Nat} {l : List Nat} {z : Int} (h : ¬ fitM n l z < 0) : Rc57.each n l = true ∧ ¬ Rc57.roomOf 16 z < n := by
  unfold fitM at h
  by_cases c : Rc57.each n l = false
  · rw [if_pos c] at h
    exact absurd (by decide) h
  · rw [if_neg c] at h
    refine ⟨by simpa using c, fun d => ?_⟩
    rw [if_pos d] at h
    exact absurd (by decide) h
theorem ans_written {n : Nat} {t : List Nat} {z : Int} (h : ¬ Rc57.roomOf 16 z < n) (ht : t.length = n) : ansV (Rc57.written 16 z t) = iV n :: nV t := by
  unfold Rc57.written
  rw [ht, if_neg h]
  rfl
theorem cut_take (l : List Nat) (n : Nat) : cutV (nV l) none (some (n : Int)) = nV (l.take n) := by
  unfold cutV
  rw [HT.sIx_none, HT.sIx_nat, nV_length]
  show (nV l).take (min n l.length - 0) = _
  unfold nV
  rw [← List.map_take, Nat.sub_zero]
  congr 1
  by_cases c : n ≤ l.length
  · rw [Nat.min_eq_left c]
  · rw [Nat.min_eq_right (by omega), List.take_of_length_le (Nat.le_refl _), List.take_of_length_le (by omega)]
theorem cut_drop (l : List Nat) (n : Nat) : cutV (nV l) (some (n : Int)) none = nV (l.drop n) := by
  unfold cutV
  rw [HT.sIx_none, HT.sIx_nat, nV_length]
  unfold nV
  rw [← List.map_drop, List.take_of_length_le (by rw [List.length_map, List.length_drop]; omega)]
  congr 1
  by_cases c : n ≤ l.length
  · rw [Nat.min_eq_left c]
  · rw [Nat.min_eq_right (by omega), List.drop_length, List.drop_eq_nil_of_le (by omega)]
def flatS (S : List (List (Nat × Nat))) : List Nat := S.flatMap fun r => r.flatMap fun q => [q.1, q.2]

section
variable {P : Program} {w : World} {K : PySem.W.Frag} {mg : Str → Option Value} {base : Heap} {C : Addr}

abbrev sTrade : Stmt := inClass (top 41) 7
theorem scTrade : FnScope ["self", "most", "own", "refusal"] ["self", "most", "own"] (defScope sTrade) := ⟨rfl, rfl, rfl, by decide +kernel, rfl, by decide +kernel, by decide +kernel⟩
def spTrade (K : PySem.W.Frag) (C : Addr) : Sp := fun vs H Q _ => ∃ (p wa ra : Addr) (n : Nat) (ws : List (List Nat)) (l : List Nat) (z : Int), vs = [.ref p, .int z, .ref ra] ∧ FolkAt C H p wa ∧ WAt H wa ws ∧ Gd n ws ∧ n ≤ 5 ∧ SqL K H ra (nV l) ∧ l.length < 64 ∧
  ∀ H' r, Same H H' → H r = none → H' r = some (.lst (ansV (tradeA n ws l z))) → Q (.ref r) H'
theorem ok_trade {f : Addr} {fd : FuncData} (F : Fun K "trade" "Folk.trade" sTrade f fd) (T : FTxt K C) (B : Bl mg) (C1 : MCal P w K mg base C "fits" 3 ["self", "row", "most"] (spFits K C))
    (C2 : Cal P w K mg base "exchanged" 5 ["wishes", "own"] (spExch K)) : FnOk P w K mg base CX0 6 f fd ["self", "most", "own"] (spTrade K C) := by
  refine F.ok scTrade (fun vs H Q E h => ?_) (fun cdv A outer s H vs Q E hr h => ?_)
  · obtain ⟨p, wa, ra, n, ws, l, z, rfl, _⟩ := h
    rfl
  · obtain ⟨p, wa, ra, n, ws, l, z, rfl, ⟨dx, hp⟩, hw, hg, hn, hra, hl, q⟩ := h
    have hr3 : Room 3 _ := hr.mono (by decide)
    refine ⟨_, pss_cons (ps_set (i := 3) scTrade.nd rfl (.inl rfl) (pe_mcal C1 hr3 T.cl (pv 0) (pa_cons (pv 2) (pa_cons (pv 1) pa_nil))))
      (pss_cons (ps_if (pt_cmpR op_lt (pv 3) pe_int (nomark _)) (pss_one (ps_ret (pe_lst (pa_cons (pv 3) pa_nil)))) pss_nil)
      (pss_one (ps_ret (pe_op op_cat (pe_lst (pa_cons (pe_callB call_len_seq (by rfl) B.len PySem.boot_len (pa_cons (pv 2) pa_nil)) pa_nil)) (pe_cal C2 hr (by rfl) (pa_cons (pe_fld (pv 0) rfl) (pa_cons (pv 2) pa_nil))))))), ?_⟩
    obtain ⟨rs, hw1, hw2, hw3⟩ := hw.sql
    have hlen : (rs.map V.ref).length = n := by rw [List.length_map, hw3, hg.len]
    refine ⟨_, rfl, p, dx, _, rfl, hp, fF_no _ (by decide +kernel), _, rfl, _, rfl, p, wa, ra, _, l, z, rfl, ⟨dx, hp⟩, hw1, by omega, hra, hl, fun H1 s1 => ?_⟩
    rw [hlen]
    refine ⟨_, rfl, fitM n l z, 0, rfl, rfl, _, rfl, ?_⟩
    refine ite2 (fun c => ?_) (fun c => ?_)
    · have c' := of_decide_eq_true c
      refine ⟨_, rfl, by show 1 ≤ sizeLine; decide, fun r nr => q _ r (s1.updN nr) (s1.free nr) ?_⟩
      unfold tradeA
      rw [fit_neg c' (traded_len n ws l)]
      exact upd_same
    · obtain ⟨c1, c2⟩ := fit_nn (fun x => c (decide_eq_true x))
      refine ⟨_, rfl, ra, _, rfl, .inl (s1.seq hra), by show 1 ≤ sizeLine; decide, fun a na => ?_⟩
      have s2 : Same H (upd H1 a (.lst [iV (nV l).length])) := s1.updN na
      refine ⟨_, rfl, p, C, dx, _, _, rfl, s2 _ _ hp, T.cl, T.nW, fF_wishes _, _, rfl, wa, ra, n, ws, l, rfl, hw.same s2, hg, by omega, s2.seq hra, c1, fun b H3 s3 hb => ?_⟩
      have s4 := s2.trans s3
      have ha3 := s3 _ _ (upd_same (H := H1) (a := a) (o := .lst [iV (nV l).length]))
      refine ⟨a, b, _, _, rfl, rfl, ha3, hb, ?_, fun r nr => q _ r (s4.updN nr) (s4.free nr) ?_⟩
      · show 1 + (nV (Rc57.traded n ws l)).length ≤ sizeLine
        rw [nV_length, traded_len]
        exact size_ok (by omega)
      · unfold tradeA
        rw [if_neg (by rw [c1]; exact Bool.noConfusion), ans_written c2 (traded_len n ws l), upd_same, nV_length, each_len c1]
        rfl

abbrev sTurns : Stmt := inClass (top 41) 8
theorem scTurns : FnScope ["self", "most", "order", "refusal"] ["self", "most", "order"] (defScope sTurns) := ⟨rfl, rfl, rfl, by decide +kernel, rfl, by decide +kernel, by decide +kernel⟩
def spTurns (K : PySem.W.Frag) (C : Addr) : Sp := fun vs H Q _ => ∃ (p wa ra : Addr) (n : Nat) (ws : List (List Nat)) (l : List Nat) (z : Int), vs = [.ref p, .int z, .ref ra] ∧ FolkAt C H p wa ∧ WAt H wa ws ∧ Gd n ws ∧ n ≤ 5 ∧ SqL K H ra (nV l) ∧ l.length < 64 ∧
  ∀ H' r, Same H H' → H r = none → H' r = some (.lst (ansV (turnsA n ws l z))) → Q (.ref r) H'
theorem ok_turns {f : Addr} {fd : FuncData} (F : Fun K "turns" "Folk.turns" sTurns f fd) (T : FTxt K C) (B : Bl mg) (C1 : MCal P w K mg base C "fits" 3 ["self", "row", "most"] (spFits K C))
    (C2 : Cal P w K mg base "in_turn" 3 ["wishes", "order"] (spInTurn K)) : FnOk P w K mg base CX0 4 f fd ["self", "most", "order"] (spTurns K C) := by
  refine F.ok scTurns (fun vs H Q E h => ?_) (fun cdv A outer s H vs Q E hr h => ?_)
  · obtain ⟨p, wa, ra, n, ws, l, z, rfl, _⟩ := h
    rfl
  · obtain ⟨p, wa, ra, n, ws, l, z, rfl, ⟨dx, hp⟩, hw, hg, hn, hra, hl, q⟩ := h
    refine ⟨_, pss_cons (ps_set (i := 3) scTurns.nd rfl (.inl rfl) (pe_mcal C1 hr T.cl (pv 0) (pa_cons (pv 2) (pa_cons (pv 1) pa_nil))))
      (pss_cons (ps_if (pt_cmpR op_lt (pv 3) pe_int (nomark _)) (pss_one (ps_ret (pe_lst (pa_cons (pv 3) pa_nil)))) pss_nil)
      (pss_one (ps_ret (pe_op op_cat (pe_lst (pa_cons (pe_callB call_len_seq (by rfl) B.len PySem.boot_len (pa_cons (pv 2) pa_nil)) pa_nil)) (pe_cal C2 hr (by rfl) (pa_cons (pe_fld (pv 0) rfl) (pa_cons (pv 2) pa_nil))))))), ?_⟩
    obtain ⟨rs, hw1, hw2, hw3⟩ := hw.sql
    have hlen : (rs.map V.ref).length = n := by rw [List.length_map, hw3, hg.len]
    refine ⟨_, rfl, p, dx, _, rfl, hp, fF_no _ (by decide +kernel), _, rfl, _, rfl, p, wa, ra, _, l, z, rfl, ⟨dx, hp⟩, hw1, by omega, hra, hl, fun H1 s1 => ?_⟩
    rw [hlen]
    refine ⟨_, rfl, fitM n l z, 0, rfl, rfl, _, rfl, ?_⟩
    refine ite2 (fun c => ?_) (fun c => ?_)
    · have c' := of_decide_eq_true c
      refine ⟨_, rfl, by show 1 ≤ sizeLine; decide, fun r nr => q _ r (s1.updN nr) (s1.free nr) ?_⟩
      unfold turnsA
      rw [fit_neg c' (turns_len n ws l)]
      exact upd_same
    · obtain ⟨c1, c2⟩ := fit_nn (fun x => c (decide_eq_true x))
      refine ⟨_, rfl, ra, _, rfl, .inl (s1.seq hra), by show 1 ≤ sizeLine; decide, fun a na => ?_⟩
      have s2 : Same H (upd H1 a (.lst [iV (nV l).length])) := s1.updN na
      refine ⟨_, rfl, p, C, dx, _, _, rfl, s2 _ _ hp, T.cl, T.nW, fF_wishes _, _, rfl, wa, ra, n, ws, l, rfl, hw.same s2, hg, hn, s2.seq hra, c1, fun b H3 s3 hb => ?_⟩
      have s4 := s2.trans s3
      have ha3 := s3 _ _ (upd_same (H := H1) (a := a) (o := .lst [iV (nV l).length]))
      rw [inTurn_is hg.len (fun i hi => hg.row hi) c1] at hb
      refine ⟨a, b, _, _, rfl, rfl, ha3, hb, ?_, fun r nr => q _ r (s4.updN nr) (s4.free nr) ?_⟩
      · show 1 + (nV (Rc57.turns n ws l)).length ≤ sizeLine
        rw [nV_length, turns_len]
        exact size_ok (by omega)
      · unfold turnsA
        rw [if_neg (by rw [c1]; exact Bool.noConfusion), ans_written c2 (turns_len n ws l), upd_same, nV_length, each_len c1]
        rfl

abbrev sGood : Stmt := inClass (top 41) 9
theorem scGood : FnScope ["self", "given"] ["self", "given"] (defScope sGood) := ⟨rfl, rfl, rfl, by decide +kernel, rfl, by decide +kernel, by decide +kernel⟩
def spGood (K : PySem.W.Frag) (C : Addr) : Sp := fun vs H Q _ => ∃ (p wa ra : Addr) (n : Nat) (ws : List (List Nat)) (l : List Nat), vs = [.ref p, .ref ra] ∧ FolkAt C H p wa ∧ WAt H wa ws ∧ Gd n ws ∧ n ≤ 5 ∧ SqL K H ra (nV l) ∧ l.length < 64 ∧
  ∀ H' r, Same H H' → H r = none → H' r = some (.lst (ansV (goodA n ws l))) → Q (.ref r) H'
theorem ok_good {f : Addr} {fd : FuncData} (F : Fun K "good" "Folk.good" sGood f fd) (T : FTxt K C) (B : Bl mg) (N : Nums mg) (C1 : MCal P w K mg base C "is_gift" 2 ["self", "row"] (spIsGift K C))
    (C2 : Cal P w K mg base "is_good" 3 ["wishes", "given"] (spIsGood K)) : FnOk P w K mg base CX0 4 f fd ["self", "given"] (spGood K C) := by
  refine F.ok scGood (fun vs H Q E h => ?_) (fun cdv A outer s H vs Q E hr h => ?_)
  · obtain ⟨p, wa, ra, n, ws, l, rfl, _⟩ := h
    rfl
  · obtain ⟨p, wa, ra, n, ws, l, rfl, ⟨dx, hp⟩, hw, hg, hn, hra, hl, q⟩ := h
    have hr2 : Room 2 _ := hr.mono (by decide)
    refine ⟨_, pss_cons (ps_if (pt_not (pt_val (pe_mcal C1 hr2 T.cl (pv 0) (pa_cons (pv 1) pa_nil)))) (pss_one (ps_ret (pe_lst (pa_cons (pe_num N.notSo (by rfl)) pa_nil)))) pss_nil)
      (pss_one (ps_ret (pe_lst (pa_cons (pe_callTy call_int1 (by rfl) B.int boot_int (pa_cons (pe_cal C2 hr (by rfl) (pa_cons (pe_fld (pv 0) rfl) (pa_cons (pv 1) pa_nil))) pa_nil)) pa_nil)))), ?_⟩
    obtain ⟨rs, hw1, hw2, hw3⟩ := hw.sql
    have hlen : (rs.map V.ref).length = n := by rw [List.length_map, hw3, hg.len]
    unfold goodA at q
    refine ⟨_, rfl, p, dx, _, rfl, hp, fF_no _ (by decide +kernel), _, rfl, p, wa, ra, _, l, rfl, ⟨dx, hp⟩, hw1, by omega, hra, hl, fun H1 s1 => ⟨_, rfl, ?_⟩⟩
    rw [hlen]
    cases c : Rc57.each n l with
    | false =>
      rw [if_pos c] at q
      exact iteT ⟨by show 1 ≤ sizeLine; decide, fun r nr => q _ r (s1.updN nr) (s1.free nr) upd_same⟩
    | true =>
      rw [if_neg (by rw [c]; exact Bool.noConfusion)] at q
      refine iteF ?_
      refine ⟨_, rfl, p, C, dx, _, _, rfl, s1 _ _ hp, T.cl, T.nW, fF_wishes _, _, rfl, wa, ra, n, ws, l, rfl, hw.same s1, hg, hn, s1.seq hra, c, fun H2 s2 => .inr ⟨_, rfl, by show 1 ≤ sizeLine; decide, fun r nr => ?_⟩⟩
      have s3 := s1.trans s2
      refine q _ r (s3.updN nr) (s3.free nr) ?_
      rw [good_is hn hg.len, upd_same]
      cases (Rc57.orders n (List.range n)).any (Rc57.isBetter n ws l) <;> rfl

abbrev sOrder : Stmt := inClass (top 41) 10
theorem scOrder : FnScope ["self", "most", "given", "refusal", "found"] ["self", "most", "given"] (defScope sOrder) := ⟨rfl, rfl, rfl, by decide +kernel, rfl, by decide +kernel, by decide +kernel⟩
def spOrder (K : PySem.W.Frag) (C : Addr) : Sp := fun vs H Q _ => ∃ (p wa ra : Addr) (n : Nat) (ws : List (List Nat)) (l : List Nat) (z : Int), vs = [.ref p, .int z, .ref ra] ∧ FolkAt C H p wa ∧ WAt H wa ws ∧ Gd n ws ∧ n ≤ 5 ∧ 1 ≤ n ∧ SqL K H ra (nV l) ∧ l.length < 64 ∧
  ∀ H' r, Same H H' → H r = none → H' r = some (.lst (ansV (orderA n ws l z))) → Q (.ref r) H'
theorem ok_order {f : Addr} {fd : FuncData} (F : Fun K "order" "Folk.order" sOrder f fd) (T : FTxt K C) (B : Bl mg) (N : Nums mg) (C1 : MCal P w K mg base C "fits" 3 ["self", "row", "most"] (spFits K C))
    (C2 : Cal P w K mg base "first_order" 4 ["wishes", "given"] (spFirst K)) : FnOk P w K mg base CX0 5 f fd ["self", "most", "given"] (spOrder K C) := by
  refine F.ok scOrder (fun vs H Q E h => ?_) (fun cdv A outer s H vs Q E hr h => ?_)
  · obtain ⟨p, wa, ra, n, ws, l, z, rfl, _⟩ := h
    rfl
  · obtain ⟨p, wa, ra, n, ws, l, z, rfl, ⟨dx, hp⟩, hw, hg, hn, h1n, hra, hl, q⟩ := h
    have hr3 : Room 3 _ := hr.mono (by decide)
    refine ⟨_, pss_cons (ps_set (i := 3) scOrder.nd rfl (.inl rfl) (pe_mcal C1 hr3 T.cl (pv 0) (pa_cons (pv 2) (pa_cons (pv 1) pa_nil))))
      (pss_cons (ps_if (pt_cmpR op_eq (pv 3) (pe_num N.notSo (by rfl)) (nomark _)) (pss_one (ps_ret (pe_lst (pa_cons (pv 3) pa_nil)))) pss_nil)
      (pss_cons (ps_set (i := 4) scOrder.nd rfl (.inl rfl) (pe_cal C2 hr (by rfl) (pa_cons (pe_fld (pv 0) rfl) (pa_cons (pv 2) pa_nil))))
      (pss_cons (ps_if (pt_cmpR (op_eqD hr.units) (pv 4) (pe_lst pa_nil) (nomark _)) (pss_one (ps_ret (pe_lst (pa_cons pe_int pa_nil)))) pss_nil)
      (pss_cons (ps_if (pt_cmpR op_lt (pv 3) pe_int (nomark _)) (pss_one (ps_ret (pe_lst (pa_cons (pv 3) pa_nil)))) pss_nil)
      (pss_one (ps_ret (pe_op op_cat (pe_lst (pa_cons (pe_callB call_len_seq (by rfl) B.len PySem.boot_len (pa_cons (pv 4) pa_nil)) pa_nil)) (pv 4)))))))), ?_⟩
    obtain ⟨rs, hw1, hw2, hw3⟩ := hw.sql
    have hlen : (rs.map V.ref).length = n := by rw [List.length_map, hw3, hg.len]
    unfold orderA at q
    refine ⟨_, rfl, p, dx, _, rfl, hp, fF_no _ (by decide +kernel), _, rfl, _, rfl, p, wa, ra, _, l, z, rfl, ⟨dx, hp⟩, hw1, by omega, hra, hl, fun H1 s1 => ?_⟩
    rw [hlen]
    refine ⟨_, rfl, rfl, _, rfl, ?_⟩
    refine ite2 (fun c => ?_) (fun c => ?_)
    · have c' : fitM n l z = -1 := V.int.inj (of_decide_eq_true c)
      have e : Rc57.each n l = false := by
        unfold fitM at c'
        by_cases d : Rc57.each n l = false
        · exact d
        · rw [if_neg d] at c'
          split at c' <;> exact absurd c' (by decide)
      rw [if_pos e] at q
      refine ⟨_, rfl, by show 1 ≤ sizeLine; decide, fun r nr => q _ r (s1.updN nr) (s1.free nr) ?_⟩
      rw [upd_same, c']
      rfl
    · have e : Rc57.each n l = true := by
        by_cases d : Rc57.each n l = false
        · refine absurd (decide_eq_true ?_) c
          show V.int (fitM n l z) = V.int (-1)
          unfold fitM
          rw [if_pos d]
        · simpa using d
      rw [if_neg (by rw [e]; exact Bool.noConfusion)] at q
      refine ⟨_, rfl, p, C, dx, _, _, rfl, s1 _ _ hp, T.cl, T.nW, fF_wishes _, _, rfl, wa, ra, n, ws, l, rfl, hw.same s1, hg, hn, s1.seq hra, fun fa H2 s2 hf => ?_⟩
      have s3 := s1.trans s2
      have hfirst := first_is hn hg l
      refine ⟨_, rfl, Nat.zero_le _, fun em nem => ?_⟩
      have s4 : Same H2 (upd H2 em (.lst [])) := same_upd nem
      refine ⟨_, _, dp_nV (SqL.of (s4 _ _ hf)), dp_nV (l := []) (SqL.of upd_same), dN_shaped _, dN_shaped _, _, rfl, ?_⟩
      rw [dN_eqv]
      have s5 := s3.trans s4
      have hf5 := s4 _ _ hf
      generalize upd H2 em (.lst []) = H5 at *
      cases hfi : (Rc57.orders n (List.range n)).find? (fun (o : List Nat) => Rc57.turns n ws o == l) with
      | none =>
        rw [hfi] at hfirst q
        have e0 : firstM ws l = [] := hfirst
        rw [decide_eq_true e0]
        exact iteT ⟨by show 1 ≤ sizeLine; decide, fun r nr => q _ r (s5.updN nr) (s5.free nr) upd_same⟩
      | some o =>
        rw [hfi] at hfirst q
        have e0 : firstM ws l = o := hfirst
        have ho := List.mem_of_find?_eq_some hfi
        rw [← orders_is n hn] at ho
        have hol := each_len (orders_each n hn o ho)
        have one : o ≠ [] := fun z => by
          rw [z] at hol
          simp at hol
          omega
        rw [e0] at hf5 ⊢
        rw [decide_eq_false one]
        refine iteF ?_
        refine ⟨_, rfl, fitM n l z, 0, rfl, rfl, _, rfl, ?_⟩
        refine ite2 (fun d => ?_) (fun d => ?_)
        · have d' := of_decide_eq_true d
          have h := fit_neg (t := o) d' hol
          rw [if_neg (by rw [e]; exact Bool.noConfusion)] at h
          refine ⟨_, rfl, by show 1 ≤ sizeLine; decide, fun r nr => q _ r (s5.updN nr) (s5.free nr) ?_⟩
          rw [h]
          exact upd_same
        · obtain ⟨_, c2⟩ := fit_nn (fun x => d (decide_eq_true x))
          refine ⟨_, rfl, fa, _, rfl, .inl (SqL.of hf5), by show 1 ≤ sizeLine; decide, fun a na => ?_⟩
          have s6 : Same H5 (upd H5 a (.lst [iV (nV o).length])) := same_upd na
          refine ⟨_, rfl, a, fa, _, _, rfl, rfl, upd_same, s6 _ _ hf5, ?_, fun r nr => q _ r ((s5.trans s6).updN nr) ((s5.trans s6).free nr) ?_⟩
          · rw [nV_length, hol]
            show 1 + n ≤ sizeLine
            exact size_ok (by omega)
          · rw [ans_written c2 hol, upd_same, nV_length, hol]
            rfl

abbrev sGroup : Stmt := inClass (top 41) 11
theorem scGroup : FnScope ["self", "both", "many", "own", "given", "number"] ["self", "both"] (defScope sGroup) := ⟨rfl, rfl, rfl, by decide +kernel, rfl, by decide +kernel, by decide +kernel⟩
def spGroup (K : PySem.W.Frag) (C : Addr) : Sp := fun vs H Q _ => ∃ (p wa ra : Addr) (n : Nat) (ws : List (List Nat)) (l : List Nat), vs = [.ref p, .ref ra] ∧ FolkAt C H p wa ∧ WAt H wa ws ∧ Gd n ws ∧ n ≤ 5 ∧ SqL K H ra (nV l) ∧ l.length < 64 ∧
  ∀ H' r, Same H H' → H r = none → H' r = some (.lst (ansV (groupA n ws l))) → Q (.ref r) H'
theorem ok_group {f : Addr} {fd : FuncData} (F : Fun K "group" "Folk.group" sGroup f fd) (T : FTxt K C) (B : Bl mg) (N : Nums mg) (C1 : MCal P w K mg base C "is_gift" 2 ["self", "row"] (spIsGift K C))
    (C2 : Cal P w K mg base "least_group" 4 ["wishes", "own", "given"] (spLeast K)) : FnOk P w K mg base CX0 5 f fd ["self", "both"] (spGroup K C) := by
  refine F.ok scGroup (fun vs H Q E h => ?_) (fun cdv A outer s H vs Q E hr h => ?_)
  · obtain ⟨p, wa, ra, n, ws, l, rfl, _⟩ := h
    rfl
  · obtain ⟨p, wa, ra, n, ws, l, rfl, ⟨dx, hp⟩, hw, hg, hn, hra, hl, q⟩ := h
    have hr2 : Room 2 _ := hr.mono (by decide)
    refine ⟨_, pss_cons (ps_set (i := 2) scGroup.nd rfl (.inl rfl) (pe_callB call_len_seq (by rfl) B.len PySem.boot_len (pa_cons (pe_fld (pv 0) rfl) pa_nil)))
      (pss_cons (ps_set (i := 3) scGroup.nd rfl (.inl rfl) (pe_slice sl_list (pv 1) po_none (po_some (pv 2))))
      (pss_cons (ps_set (i := 4) scGroup.nd rfl (.inl rfl) (pe_slice sl_list (pv 1) (po_some (pv 2)) po_none))
      (pss_cons (ps_if (PW.pt (pw_or (pt_not (pt_val (pe_mcal C1 hr2 T.cl (pv 0) (pa_cons (pv 3) pa_nil)))) (pw_or1 (pt_not (pt_val (pe_mcal C1 hr2 T.cl (pv 0) (pa_cons (pv 4) pa_nil))))))) (pss_one (ps_ret (pe_lst (pa_cons (pe_num N.notSo (by rfl)) pa_nil)))) pss_nil)
      (pss_cons (ps_set (i := 5) scGroup.nd rfl (.inl rfl) (pe_cal C2 hr (by rfl) (pa_cons (pe_fld (pv 0) rfl) (pa_cons (pv 3) (pa_cons (pv 4) pa_nil)))))
      (pss_one (ps_ret (pe_lst (pa_cons (pe_callTy call_int1 (by rfl) B.int boot_int (pa_cons (pe_cmpR op_gt (pv 5) pe_int (nomark _)) pa_nil)) (pa_cons (pv 5) pa_nil))))))))), ?_⟩
    obtain ⟨rs, hw1, hw2, hw3⟩ := hw.sql
    have hlen : (rs.map V.ref).length = n := by rw [List.length_map, hw3, hg.len]
    unfold groupA at q
    refine ⟨_, rfl, p, C, dx, _, _, rfl, hp, T.cl, T.nW, fF_wishes _, wa, _, rfl, .inl (SqL.of hw1), ?_⟩
    rw [hlen]
    refine ⟨_, rfl, _, rfl, (n : Int), rfl, ra, _, rfl, hra, fun oa noa => ?_⟩
    rw [cut_take]
    have s1 : Same H (upd H oa (.lst (nV (l.take n)))) := same_upd noa
    have hoa : (upd H oa (.lst (nV (l.take n)))) oa = some (.lst (nV (l.take n))) := upd_same
    generalize upd H oa (.lst (nV (l.take n))) = H1 at *
    refine ⟨_, rfl, _, rfl, (n : Int), rfl, ra, _, rfl, s1.seq hra, fun ga nga => ?_⟩
    rw [cut_drop]
    have s2 : Same H1 (upd H1 ga (.lst (nV (l.drop n)))) := same_upd nga
    have hga : (upd H1 ga (.lst (nV (l.drop n)))) ga = some (.lst (nV (l.drop n))) := upd_same
    have hoa2 := s2 _ _ hoa
    have s3 := s1.trans s2
    clear s1 s2 hoa
    generalize upd H1 ga (.lst (nV (l.drop n))) = H2 at *
    have lt1 : (l.take n).length < 64 := by
      rw [List.length_take]
      omega
    have lt2 : (l.drop n).length < 64 := by
      rw [List.length_drop]
      omega
    refine ⟨_, rfl, p, dx, _, rfl, s3 _ _ hp, fF_no _ (by decide +kernel), _, rfl, p, wa, oa, _, _, rfl, ⟨dx, s3 _ _ hp⟩, s3 _ _ hw1, by omega, SqL.of hoa2, lt1, fun H3 s4 => ⟨_, rfl, ?_⟩⟩
    rw [hlen]
    have s5 := s3.trans s4
    cases c : Rc57.each n (l.take n) with
    | false =>
      rw [if_pos (by rw [c]; rfl)] at q
      exact iteT (iteT ⟨by show 1 ≤ sizeLine; decide, fun r nr => q _ r (s5.updN nr) (s5.free nr) upd_same⟩)
    | true =>
      refine iteF ?_
      refine ⟨_, rfl, p, dx, _, rfl, s5 _ _ hp, fF_no _ (by decide +kernel), _, rfl, p, wa, ga, _, _, rfl, ⟨dx, s5 _ _ hp⟩, s5 _ _ hw1, by omega, SqL.of (s4 _ _ hga), lt2, fun H4 s6 => ⟨_, rfl, ?_⟩⟩
      rw [hlen]
      have s7 := s5.trans s6
      cases d : Rc57.each n (l.drop n) with
      | false =>
        rw [if_pos (by rw [c, d]; rfl)] at q
        exact iteT ⟨by show 1 ≤ sizeLine; decide, fun r nr => q _ r (s7.updN nr) (s7.free nr) upd_same⟩
      | true =>
        rw [if_neg (by rw [c, d]; exact Bool.noConfusion)] at q
        refine iteF ?_
        have t4 := s4.trans s6
        refine ⟨_, rfl, p, C, dx, _, _, rfl, s7 _ _ hp, T.cl, T.nW, fF_wishes _, _, rfl, _, rfl, wa, oa, ga, n, ws, _, _, rfl, hw.same s7, hg, hn, SqL.of (t4 _ _ hoa2), c, SqL.of (t4 _ _ hga), d, fun H5 s8 => ?_⟩
        have s9 := s7.trans s8
        obtain ⟨l1, l2⟩ := least_is hn hg.len c (l.drop n)
        refine ⟨_, rfl, _, 0, rfl, rfl, .inr ⟨_, rfl, _, rfl, by show 2 ≤ sizeLine; decide, fun r nr => q _ r (s9.updN nr) (s9.free nr) ?_⟩⟩
        rw [upd_same, l1]
        cases hfi : (List.range (2 ^ n)).find? (fun (k : Nat) => Rc57.blocks n ws (l.take n) (l.drop n) k) with
        | none => rfl
        | some k =>
          have hk := l2 k hfi
          have e : decide ((0 : Int) < ((k : Nat) : Int)) = true := decide_eq_true (by omega)
          show some (HO.lst [V.int (if decide ((0 : Int) < ((k : Nat) : Int)) then 1 else 0), iV k]) = some (HO.lst [V.int 1, iV k])
          rw [e]
          rfl

abbrev sEat : Stmt := inClass (top 41) 12
theorem scEat : FnScope ["self", "most", "many", "found", "row", "share"] ["self", "most"] (defScope sEat) := ⟨rfl, rfl, rfl, by decide +kernel, rfl, by decide +kernel, by decide +kernel⟩
def spEat (C : Addr) : Sp := fun vs H Q _ => ∃ (p wa : Addr) (n : Nat) (ws : List (List Nat)) (z : Int), vs = [.ref p, .int z] ∧ FolkAt C H p wa ∧ WAt H wa ws ∧ Gd n ws ∧ n ≤ 5 ∧ 1 ≤ n ∧
  ∀ H' r, Same H H' → H r = none → H' r = some (.lst (ansV (eatA n ws z))) → Q (.ref r) H'
theorem flatS_more {S : List (List (Nat × Nat))} {j : Nat} (h : j < S.length) : flatS (S.take (j + 1)) = flatS (S.take j) ++ (S.getD j []).flatMap fun q => [q.1, q.2] := by
  have e : S[j]? = some (S.getD j []) := by
    rw [List.getD_eq_getElem?_getD, List.getElem?_eq_getElem h]
    rfl
  unfold flatS
  rw [take_more e, List.flatMap_append, List.flatMap_cons, List.flatMap_nil, List.append_nil]
theorem flatR_more {R : List (Nat × Nat)} {i : Nat} (h : i < R.length) : ((R.take (i + 1)).flatMap fun q => [q.1, q.2]) = ((R.take i).flatMap fun q => [q.1, q.2]) ++ [(R.getD i (0, 1)).1, (R.getD i (0, 1)).2] := by
  have e : R[i]? = some (R.getD i (0, 1)) := by
    rw [List.getD_eq_getElem?_getD, List.getElem?_eq_getElem h]
    rfl
  rw [take_more e, List.flatMap_append, List.flatMap_cons, List.flatMap_nil, List.append_nil]
theorem flatR_len (R : List (Nat × Nat)) : (R.flatMap fun q => [q.1, q.2]).length = R.length * 2 := flatMap_const fun _ _ => rfl
theorem ok_eat {f : Addr} {fd : FuncData} (F : Fun K "eat" "Folk.eat" sEat f fd) (T : FTxt K C) (B : Bl mg) (N : Nums mg) (C1 : Cal P w K mg base "room_for" 1 ["most", "greatest"] spRoom)
    (C2 : Cal P w K mg base "eaten_shares" 5 ["wishes"] (spEatenShares K)) : FnOk P w K mg base CX0 6 f fd ["self", "most"] (spEat C) := by
  refine F.ok scEat (fun vs H Q E h => ?_) (fun cdv A outer s H vs Q E hr h => ?_)
  · obtain ⟨p, wa, n, ws, z, rfl, _⟩ := h
    rfl
  · obtain ⟨p, wa, n, ws, z, rfl, ⟨dx, hp⟩, hw, hg, hn, h1n, q⟩ := h
    have hr1 : Room 1 _ := hr.mono (by decide)
    refine ⟨_, pss_cons (ps_set (i := 2) scEat.nd rfl (.inl rfl) (pe_callB call_len_seq (by rfl) B.len PySem.boot_len (pa_cons (pe_fld (pv 0) rfl) pa_nil)))
      (pss_cons (ps_if (pt_cmpR op_gt (pv 2) (pe_num N.eaters (by rfl)) (nomark _)) (pss_one (ps_ret (pe_lst (pa_cons (pe_num N.notSo (by rfl)) pa_nil)))) pss_nil)
      (pss_cons (ps_if (pt_cmpR op_gt (pe_op op_mul (pe_op op_mul pe_int (pv 2)) (pv 2)) (pe_cal C1 hr1 (by rfl) (pa_cons (pv 1) (pa_cons (pe_num N.shares (by rfl)) pa_nil))) (nomark _)) (pss_one (ps_ret (pe_lst (pa_cons (pe_num N.tooMany (by rfl)) pa_nil)))) pss_nil)
      (pss_cons (ps_set (i := 3) scEat.nd rfl (.inl rfl) (pe_lst pa_nil))
      (pss_cons (ps_for PassesOwn.never rfl (pi_list (pe_cal C2 hr (by rfl) (pa_cons (pe_fld (pv 0) rfl) pa_nil))) (pg_name (i := 4) scEat.nd rfl (.inl rfl))
        (pss_one (ps_for PassesOwn.never rfl (pi_list (pv 4)) (pg_name (i := 5) scEat.nd rfl (.inl rfl))
          (pss_one (ps_expr (pe_bm PySem.F.plainAttrs_list PySem.F.slot_list_extend PySem.F.type_list_extend mt_extend (pv 3) (pa_cons (pe_callTy call_list_of (by rfl) B.list boot_list (pa_cons (pv 5) pa_nil)) pa_nil)))))))
      (pss_one (ps_ret (pe_op op_cat (pe_lst (pa_cons (pe_callB call_len_seq (by rfl) B.len PySem.boot_len (pa_cons (pv 3) pa_nil)) pa_nil)) (pv 3)))))))), ?_⟩
    obtain ⟨rs, hw1, hw2, hw3⟩ := hw.sql
    have hlen : (rs.map V.ref).length = n := by rw [List.length_map, hw3, hg.len]
    have hsl := shares_len hn hg
    unfold eatA Rc57.written at q
    rw [hsl] at q
    refine ⟨_, rfl, p, C, dx, _, _, rfl, hp, T.cl, T.nW, fF_wishes _, wa, _, rfl, .inl (SqL.of hw1), ?_⟩
    rw [hlen]
    refine ⟨_, rfl, (n : Int), 8, rfl, rfl, _, rfl, ?_⟩
    rw [decide_eq_false (show ¬ ((8 : Int) < (n : Int)) by omega)]
    refine iteF ?_
    refine ⟨_, rfl, 2, (n : Int), rfl, rfl, .inl ⟨by decide, by decide⟩, _, rfl, _, (n : Int), rfl, rfl, .inr ⟨by omega, by omega⟩, ?_⟩
    refine ⟨_, rfl, z, 128, rfl, _, _, rfl, rfl, _, rfl, ?_⟩
    have e2 : (2 : Int) * (n : Int) * (n : Int) = ((2 * n * n : Nat) : Int) := by
      rw [Int.natCast_mul, Int.natCast_mul]
      rfl
    refine ite2 (fun c => ?_) (fun c => ?_)
    · have c' : (((Rc57.roomOf 128 z : Nat) : Int) < (2 : Int) * (n : Int) * (n : Int)) := of_decide_eq_true c
      rw [e2] at c'
      rw [if_pos (by omega)] at q
      exact ⟨by show 1 ≤ sizeLine; decide, fun r nr => q _ r (same_upd nr) nr upd_same⟩
    · have c' : ¬ (((Rc57.roomOf 128 z : Nat) : Int) < (2 : Int) * (n : Int) * (n : Int)) := fun x => c (decide_eq_true x)
      rw [e2] at c'
      rw [if_neg (by omega)] at q
      obtain ⟨hS1, hS2⟩ := Sr_lens hn hg
      have hSf : flatS (Sr (Rc57.meal n ws)) = Rc57.shares n ws := shares_is.symm
      have run := meal_run hn hg
      generalize Sr (Rc57.meal n ws) = S at *
      refine ⟨Nat.zero_le _, fun fo nfo => ?_⟩
      have s1 : Same H (upd H fo (.lst [])) := same_upd nfo
      refine ⟨_, rfl, p, C, dx, _, _, rfl, s1 _ _ hp, T.cl, T.nW, fF_wishes _, wa, n, n, ws, S, rfl, hw.same s1, hg, by omega, run, fun oa H2 os s2 hoa hos => ?_⟩
      have s3 := s1.trans s2
      have hfo2 : H2 fo = some (.lst []) := s2 _ _ upd_same
      have hosl : os.length = n := by rw [AllAt.len hos, hS1]
      have ne1 : oa ≠ fo := ne_of hoa hfo2 (by
        intro z
        have := HO.lst.inj z
        rw [List.map_eq_nil_iff] at this
        rw [this] at hosl
        simp at hosl
        omega)
      have hrow : ∀ i r, os[i]? = some r → i < n ∧ r ≠ fo ∧ ∃ ts : List Addr, H2 r = some (.lst (ts.map V.ref)) ∧ FrAt K H2 ts (S.getD i []) := fun i r hi => by
        have hin : i < n := by
          have := (List.getElem?_eq_some_iff.mp hi).1
          omega
        obtain ⟨r', hr', ts, h1, h2⟩ := AllAt.get (d := []) hos (i := i) (by omega)
        rw [hi] at hr'
        obtain rfl := Option.some.inj hr'
        refine ⟨hin, ne_of h1 hfo2 (by
          intro z
          have := HO.lst.inj z
          rw [List.map_eq_nil_iff] at this
          have l1 := AllAt.len h2
          rw [this, hS2 _ (getD_mem' (d := []) (by omega))] at l1
          simp at l1
          omega), ts, h1, h2⟩
      have hR : ∀ x ∈ [fo], ∃ ys, H2 x = some (.lst ys) := fun x hx => by
        rw [List.mem_singleton.mp hx]
        exact ⟨_, hfo2⟩
      have hflat : ∀ j, j ≤ n → (flatS (S.take j)).length = j * (n * 2) := fun j hj => by
        unfold flatS
        rw [flatMap_const (c := n * 2) (fun r hr => by rw [flatMap_const (c := 2) (fun _ _ => rfl), hS2 r (List.mem_of_mem_take hr)]), List.length_take, hS1, Nat.min_eq_left hj]
      have small : ∀ j, j < n → (j + 1) * (n * 2) ≤ 50 := fun j hj => by
        have h1 : (j + 1) * (n * 2) ≤ 5 * (5 * 2) := Nat.mul_le_mul (by omega) (by omega)
        exact h1
      refine ⟨oa, rfl, ⟨_, SqL.of hoa⟩, for_list (K := K) (a := oa) (xs := os.map V.ref) (fun j σ H' => ∃ v4 v5, σ = [some (.ref p), some (.int z), some (iV n), some (.ref fo), v4, v5] ∧ Same H H' ∧ But [fo] H2 H' ∧ H' fo = some (.lst (nV (flatS (S.take j)))))
        ⟨none, none, rfl, s3, fun b o e _ => e, hfo2⟩ (fun j σ H' _ ⟨_, _, _, _, b, _⟩ => SqL.of (b _ _ hoa (by simpa using ne1))) ?_ ?_⟩
      · rintro j x σ H3 hj ⟨v4, v5, rfl, s4, b4, h4⟩
        obtain ⟨r, hr1, rfl⟩ := refs_some hj
        obtain ⟨hjn, nrf, ts, hts1, hts2⟩ := hrow j r hr1
        have hjl : j < S.length := by omega
        rw [flatS_more hjl]
        have hRl := hS2 _ (getD_mem' (d := []) hjl)
        have hfl := hflat j (by omega)
        have hsm := small j hjn
        rw [Nat.succ_mul] at hsm
        generalize S.getD j [] = R at *
        have htl : ts.length = n := by rw [AllAt.len hts2, hRl]
        refine ⟨_, rfl, r, rfl, ⟨_, SqL.of (b4 _ _ hts1 (by simpa using nrf))⟩, for_list (K := K) (a := r) (xs := ts.map V.ref) (fun i σ H' => ∃ v5, σ = [some (.ref p), some (.int z), some (iV n), some (.ref fo), some (.ref r), v5] ∧ Same H H' ∧ But [fo] H2 H' ∧ H' fo = some (.lst (nV (flatS (S.take j) ++ (R.take i).flatMap fun q => [q.1, q.2]))))
          ⟨v5, rfl, s4, b4, by rw [List.take_zero, List.flatMap_nil, List.append_nil]; exact h4⟩ (fun i σ H' _ ⟨_, _, _, b, _⟩ => SqL.of (b _ _ hts1 (by simpa using nrf))) ?_ ?_⟩
        · rintro i x σ H5 hi ⟨v5, rfl, s5, b5, h5⟩
          obtain ⟨t, ht1, rfl⟩ := refs_some hi
          have hin : i < R.length := by
            have := (List.getElem?_eq_some_iff.mp ht1).1
            omega
          obtain ⟨t', ht', htf⟩ := AllAt.get (d := (0, 1)) hts2 hin
          rw [ht1] at ht'
          obtain rfl := Option.some.inj ht'
          have htf5 : TF K H5 t (R.getD i (0, 1)) := TF.but hR b5 htf
          refine ⟨_, rfl, .inl ⟨rfl, _, SqL.of h5⟩, _, rfl, t, _, rfl, .inr htf5, fun y ny => ?_⟩
          have s6 : Same H5 (upd H5 y (.lst [iV (R.getD i (0, 1)).1, iV (R.getD i (0, 1)).2])) := same_upd ny
          refine ⟨fo, y, _, _, rfl, rfl, s6 _ _ h5, upd_same, ?_, ?_⟩
          · rw [nV_length, List.length_append, flatR_len, List.length_take, hfl]
            show j * (n * 2) + min i R.length * 2 + 2 ≤ sizeLine
            refine size_ok ?_
            omega
          · refine ⟨_, rfl, (s5.trans s6).putN nfo, fun b o e m => ?_, ?_⟩
            · have nb : b ≠ fo := by simpa using m
              rw [upd_ne nb]
              exact s6 _ _ (b5 b o e m)
            · rw [upd_same, flatR_more hin, ← List.append_assoc, nV_append (_ ++ _)]
              rfl
        · rintro σ H5 ⟨v5, rfl, s5, b5, h5⟩
          rw [List.length_map, htl, ← hRl, List.take_length] at h5
          exact ⟨_, _, rfl, s5, b5, h5⟩
      · rintro σ H3 ⟨v4, v5, rfl, s4, b4, h4⟩
        rw [List.length_map, hosl, ← hS1, List.take_length, hSf] at h4
        refine ⟨_, rfl, fo, _, rfl, .inl (SqL.of h4), by show 1 ≤ sizeLine; decide, fun a na => ?_⟩
        have s6 : Same H3 (upd H3 a (.lst [iV (nV (Rc57.shares n ws)).length])) := same_upd na
        have s7 := s4.trans s6
        refine ⟨_, rfl, a, fo, _, _, rfl, rfl, upd_same, s6 _ _ h4, ?_, fun r nr => q _ r (s7.updN nr) (s7.free nr) ?_⟩
        · rw [nV_length, hsl]
          show 1 + 2 * n * n ≤ sizeLine
          refine size_ok ?_
          have h1 : 2 * n * n ≤ 2 * 5 * 5 := Nat.mul_le_mul (by omega) hn
          omega
        · rw [upd_same, nV_length, hsl]
          rfl
end
end Wg

/-! giving.py: the reader, asked -/
namespace Wg
open PySem PySem.Spec PyProof.Rows L2

/-! ### the reader -/
def cF (nl : Addr) (k : Int) : List (Str × V) := [("numbers", .ref nl), ("at", .int k)]
theorem na_ : (("at" : Str) == ("numbers" : Str)) = false := by decide +kernel
theorem an_ : ¬ (("numbers" : Str) = "at") := by decide +kernel
theorem cF_numbers (nl : Addr) (k : Int) : (cF nl k).lookup ("numbers" : Str) = some (.ref nl) := lk_here
theorem cF_at (nl : Addr) (k : Int) : (cF nl k).lookup ("at" : Str) = some (.int k) := (lk_past na_).trans lk_here
theorem cF_no (nl : Addr) (k : Int) {m : Str} (h : (m == ("numbers" : Str)) = false) (h2 : (m == ("at" : Str)) = false) : (cF nl k).lookup m = none := (lk_past h).trans ((lk_past h2).trans rfl)
theorem cF_put (nl : Addr) (k j : Int) : putF "at" (.int j) (cF nl k) = cF nl j := (put_past an_).trans (congrArg _ put_here)
theorem cF_new (nl : Addr) : putF "at" (.int 0) (putF "numbers" (.ref nl) []) = cF nl 0 := (put_past an_).trans rfl
def CallsAt (C : Addr) (H : Hp) (p nl : Addr) (k : Nat) : Prop := ∃ dx, H p = some (.ins C dx (cF nl (k : Int)))
structure CTxt (K : PySem.W.Frag) (C : Addr) : Prop where
  cl : Cls K C
  nN : NoAttr K C "numbers"
  nA : NoAttr K C "at"
/-- all but one object as it was -/
def Exc (p : Addr) (H H' : Hp) : Prop := ∀ b o, H b = some o → b ≠ p → H' b = some o
theorem Exc.trans {p : Addr} {H H1 H2 : Hp} (a : Exc p H H1) (b : Exc p H1 H2) : Exc p H H2 := fun x o e n => b x o (a x o e n) n
theorem Exc.same {p : Addr} {H H' : Hp} (s : Same H H') : Exc p H H' := fun x o e _ => s x o e
theorem Exc.put {p : Addr} {H : Hp} {o : HO} : Exc p H (upd H p o) := fun x u e n => by
  rw [upd_ne n]
  exact e
theorem drop_head {α : Type} : ∀ {l : List α} {k : Nat} {x : α} {r : List α}, l.drop k = x :: r → k < l.length ∧ l[k]? = some x ∧ l.drop (k + 1) = r
  | [], k, x, r, h => by simp at h
  | y :: l, 0, x, r, h => by
    have h' : y :: l = x :: r := h
    obtain ⟨rfl, rfl⟩ := List.cons.inj h'
    exact ⟨by rw [List.length_cons]; omega, rfl, rfl⟩
  | y :: l, k + 1, x, r, h => by
    obtain ⟨h1, h2, h3⟩ := drop_head (l := l) (k := k) h
    exact ⟨by rw [List.length_cons]; omega, h2, h3⟩
theorem drop_app {α : Type} {l : List α} {k : Nat} {a t : List α} (h : l.drop k = a ++ t) : (l.drop k).take a.length = a ∧ l.drop (k + a.length) = t := by
  refine ⟨by rw [h, List.take_left' rfl], ?_⟩
  rw [← List.drop_drop, h, List.drop_left]
theorem cut_mid (xs : List Int) (b m : Nat) (h : b + m ≤ xs.length) : cutV (xs.map V.int) (some (b : Int)) (some ((b : Int) + (m : Int))) = ((xs.drop b).take m).map V.int := by
  unfold cutV
  have e : ((b : Int) + (m : Int)) = ((b + m : Nat) : Int) := by omega
  rw [e, HT.sIx_nat, HT.sIx_nat, List.length_map, Nat.min_eq_left h, Nat.min_eq_left (show b ≤ xs.length by omega), ← List.map_drop, ← List.map_take]
  congr 2
  omega

section
variable {P : Program} {w : World} {K : PySem.W.Frag} {mg : Str → Option Value} {base : Heap} {C : Addr}

abbrev sCInit : Stmt := inClass (top 51) 0
theorem scCInit : FnScope ["self", "numbers"] ["self", "numbers"] (defScope sCInit) := ⟨rfl, rfl, rfl, by decide +kernel, rfl, by decide +kernel, by decide +kernel⟩
def spCInit (C : Addr) : Sp := fun vs H Q _ => ∃ (p nl dx : Addr), vs = [.ref p, .ref nl] ∧ H p = some (.ins C dx []) ∧ ∀ H', Exc p H H' → CallsAt C H' p nl 0 → Q .non H'
theorem ok_cinit {f : Addr} {fd : FuncData} (F : Fun K "__init__" "Calls.__init__" sCInit f fd) (T : CTxt K C) : FnOk P w K mg base CX0 1 f fd ["self", "numbers"] (spCInit C) := by
  refine F.ok scCInit (fun vs H Q E h => ?_) (fun cdv A outer s H vs Q E hr h => ?_)
  · obtain ⟨p, nl, dx, rfl, _⟩ := h
    rfl
  · obtain ⟨p, nl, dx, rfl, hp, q⟩ := h
    refine ⟨_, pss_cons (ps_fld (pv 0) (pv 1) rfl) (pss_one (ps_fld (pv 0) pe_int rfl)), ?_⟩
    refine ⟨_, rfl, _, rfl, p, C, dx, _, rfl, hp, T.cl, T.nN, (by show 0 < 1000; decide), ?_⟩
    refine ⟨_, rfl, p, C, dx, _, rfl, upd_same, T.cl, T.nA, (by show 1 < 1000; decide), ?_⟩
    exact q _ (Exc.put.trans Exc.put) ⟨dx, Eq.trans upd_same (congrArg (fun q => some (HO.ins C dx q)) (cF_new nl))⟩

abbrev sMore : Stmt := inClass (top 51) 1
theorem scMore : FnScope ["self"] ["self"] (defScope sMore) := ⟨rfl, rfl, rfl, by decide +kernel, rfl, by decide +kernel, by decide +kernel⟩
def spMore (C : Addr) : Sp := fun vs H Q _ => ∃ (p nl : Addr) (k : Nat) (xs : List V), vs = [.ref p] ∧ CallsAt C H p nl k ∧ H nl = some (.lst xs) ∧ Q (.bl (decide (k < xs.length))) H
theorem ok_more {f : Addr} {fd : FuncData} (F : Fun K "more" "Calls.more" sMore f fd) (T : CTxt K C) (B : Bl mg) : FnOk P w K mg base CX0 1 f fd ["self"] (spMore C) := by
  refine F.ok scMore (fun vs H Q E h => ?_) (fun cdv A outer s H vs Q E hr h => ?_)
  · obtain ⟨p, nl, k, xs, rfl, _⟩ := h
    rfl
  · obtain ⟨p, nl, k, xs, rfl, ⟨dx, hp⟩, hn, q⟩ := h
    refine ⟨_, pss_one (ps_ret (pe_cmpR op_lt (pe_fld (pv 0) rfl) (pe_callB call_len_seq (by rfl) B.len PySem.boot_len (pa_cons (pe_fld (pv 0) rfl) pa_nil)) (nomark _))), ?_⟩
    refine ⟨_, rfl, p, C, dx, _, _, rfl, hp, T.cl, T.nA, cF_at _ _, _, rfl, p, C, dx, _, _, rfl, hp, T.cl, T.nN, cF_numbers _ _, nl, xs, rfl, .inl (SqL.of hn), (k : Int), (xs.length : Int), rfl, rfl, ?_⟩
    have e : decide ((k : Int) < (xs.length : Int)) = decide (k < xs.length) := decide_eq_decide.mpr Int.ofNat_lt
    show Q (.bl (decide ((k : Int) < (xs.length : Int)))) H
    rw [e]
    exact q

abbrev sOne : Stmt := inClass (top 51) 2
theorem scOne : FnScope ["self"] ["self"] (defScope sOne) := ⟨rfl, rfl, rfl, by decide +kernel, rfl, by decide +kernel, by decide +kernel⟩
def spOne (C : Addr) : Sp := fun vs H Q _ => ∃ (p nl : Addr) (k : Nat) (xs r : List Int) (x : Int), vs = [.ref p] ∧ CallsAt C H p nl k ∧ H nl = some (.lst (xs.map V.int)) ∧ xs.drop k = x :: r ∧ ∀ H', Exc p H H' → CallsAt C H' p nl (k + 1) → Q (.int x) H'
theorem ok_one {f : Addr} {fd : FuncData} (F : Fun K "one" "Calls.one" sOne f fd) (T : CTxt K C) : FnOk P w K mg base CX0 1 f fd ["self"] (spOne C) := by
  refine F.ok scOne (fun vs H Q E h => ?_) (fun cdv A outer s H vs Q E hr h => ?_)
  · obtain ⟨p, nl, k, xs, r, x, rfl, _⟩ := h
    rfl
  · obtain ⟨p, nl, k, xs, r, x, rfl, ⟨dx, hp⟩, hn, hx, q⟩ := h
    refine ⟨_, pss_cons (ps_fldaug (pv 0) pe_int in_add) (pss_one (ps_ret (pe_ix ix_list (pe_fld (pv 0) rfl) (pe_op op_sub (pe_fld (pv 0) rfl) pe_int) (fun _ _ => rfl)))), ?_⟩
    have nlp : nl ≠ p := ne_of hn hp (by intro z; cases z)
    obtain ⟨h1, h2, h3⟩ := drop_head hx
    refine ⟨_, rfl, p, C, dx, _, _, rfl, hp, T.cl, T.nA, cF_at _ _, (k : Int), 1, rfl, rfl, dx, _, hp, (by show 2 < 1000; decide), ?_⟩
    rw [cF_put, show ((k : Int) + 1) = ((k + 1 : Nat) : Int) by omega]
    have hp2 : (upd H p (.ins C dx (cF nl ((k + 1 : Nat) : Int)))) p = some (.ins C dx (cF nl ((k + 1 : Nat) : Int))) := upd_same
    refine ⟨_, rfl, p, C, dx, _, _, rfl, hp2, T.cl, T.nN, cF_numbers _ _, _, rfl, p, C, dx, _, _, rfl, hp2, T.cl, T.nA, cF_at _ _, ((k + 1 : Nat) : Int), 1, rfl, rfl, nl, _, _, .int x, rfl, rfl, SqL.of (by rw [upd_ne nlp]; exact hn), ?_, ?_⟩
    · rw [show (((k + 1 : Nat) : Int) - 1) = (k : Int) by omega]
      refine atI_nat ?_
      rw [List.getElem?_map, h2]
      rfl
    · exact q _ Exc.put ⟨dx, hp2⟩

abbrev sRow : Stmt := inClass (top 51) 3
theorem scRow : FnScope ["self", "many", "begin"] ["self"] (defScope sRow) := ⟨rfl, rfl, rfl, by decide +kernel, rfl, by decide +kernel, by decide +kernel⟩
def spRow (C : Addr) : Sp := fun vs H Q _ => ∃ (p nl : Addr) (k : Nat) (xs row t : List Int), vs = [.ref p] ∧ CallsAt C H p nl k ∧ H nl = some (.lst (xs.map V.int)) ∧ xs.drop k = (row.length : Int) :: (row ++ t) ∧
  ∀ H' ra k', Exc p H H' → H ra = none → H' ra = some (.lst (row.map V.int)) → CallsAt C H' p nl k' → xs.drop k' = t → Q (.ref ra) H'
theorem ok_row {f : Addr} {fd : FuncData} (F : Fun K "row" "Calls.row" sRow f fd) (T : CTxt K C) (C1 : MCal P w K mg base C "one" 1 ["self"] (spOne C)) : FnOk P w K mg base CX0 2 f fd ["self"] (spRow C) := by
  refine F.ok scRow (fun vs H Q E h => ?_) (fun cdv A outer s H vs Q E hr h => ?_)
  · obtain ⟨p, nl, k, xs, row, t, rfl, _⟩ := h
    rfl
  · obtain ⟨p, nl, k, xs, row, t, rfl, ⟨dx, hp⟩, hn, hx, q⟩ := h
    refine ⟨_, pss_cons (ps_set (i := 1) scRow.nd rfl (.inl rfl) (pe_mcal0 C1 hr T.cl (pv 0)))
      (pss_cons (ps_set (i := 2) scRow.nd rfl (.inl rfl) (pe_fld (pv 0) rfl))
      (pss_cons (ps_fldaug (pv 0) (pv 1) in_add)
      (pss_one (ps_ret (pe_slice sl_list (pe_fld (pv 0) rfl) (po_some (pv 2)) (po_some (pe_fld (pv 0) rfl))))))), ?_⟩
    have nlp : nl ≠ p := ne_of hn hp (by intro z; cases z)
    obtain ⟨h1, h2, h3⟩ := drop_head hx
    obtain ⟨h4, h5⟩ := drop_app h3
    have hle : k + 1 + row.length ≤ xs.length := by
      have := congrArg List.length h3
      rw [List.length_drop, List.length_append] at this
      omega
    refine ⟨_, rfl, p, dx, _, rfl, hp, cF_no _ _ (by decide +kernel) (by decide +kernel), p, nl, k, xs, _, _, rfl, ⟨dx, hp⟩, hn, hx, fun H1 x1 ⟨dx1, hp1⟩ => ?_⟩
    have hn1 := x1 _ _ hn nlp
    refine ⟨_, rfl, p, C, dx1, _, _, rfl, hp1, T.cl, T.nA, cF_at _ _, ?_⟩
    refine ⟨_, rfl, p, C, dx1, _, _, rfl, hp1, T.cl, T.nA, cF_at _ _, _, rfl, ((k + 1 : Nat) : Int), (row.length : Int), rfl, rfl, dx1, _, hp1, (by show 2 < 1000; decide), ?_⟩
    rw [cF_put]
    have hp2 : (upd H1 p (.ins C dx1 (cF nl (((k + 1 : Nat) : Int) + (row.length : Int))))) p = some (.ins C dx1 (cF nl (((k + 1 : Nat) : Int) + (row.length : Int)))) := upd_same
    refine ⟨_, rfl, p, C, dx1, _, _, rfl, hp2, T.cl, T.nN, cF_numbers _ _, _, rfl, _, rfl, _, rfl, p, C, dx1, _, _, rfl, hp2, T.cl, T.nA, cF_at _ _, _, rfl, nl, _, rfl, SqL.of (by rw [upd_ne nlp]; exact hn1), fun ra nra => ?_⟩
    rw [cut_mid xs (k + 1) row.length hle, h4]
    have nrp : p ≠ ra := ne_of_none upd_same nra
    have x2 : Exc p H1 (upd (upd H1 p (.ins C dx1 (cF nl (((k + 1 : Nat) : Int) + (row.length : Int))))) ra (.lst (row.map V.int))) := Exc.put.trans (Exc.same (same_upd nra))
    refine q _ ra (k + 1 + row.length) (x1.trans x2) ?_ upd_same ⟨dx1, ?_⟩ h5
    · rw [upd_ne nrp.symm] at nra
      cases e : H ra with
      | none => rfl
      | some o =>
        rw [x1 _ _ e nrp.symm] at nra
        cases nra
    · rw [upd_ne nrp, hp2]
      rw [show (((k + 1 : Nat) : Int) + (row.length : Int)) = ((k + 1 + row.length : Nat) : Int) by omega]

/-! ### asked -/
structure Nums2 (mg : Str → Option Value) : Prop where
  begin_ : Num mg "BEGIN" 0
  people : Num mg "PEOPLE" 1
  wish : Num mg "WISH" 2
  trade : Num mg "TRADE" 3
  turns : Num mg "TURNS" 4
  good : Num mg "GOOD" 5
  order : Num mg "ORDER" 6
  group : Num mg "GROUP" 7
def askA (c n : Nat) (ws : List (List Nat)) (l : List Nat) (z : Int) : Rc57.Ans :=
  if c = 3 then tradeA n ws l z else if c = 4 then turnsA n ws l z else if c = 5 then goodA n ws l else if c = 6 then orderA n ws l z else if c = 7 then groupA n ws l else eatA n ws z
abbrev sAsked : Stmt := top 52
theorem scAsked : FnScope ["folk", "call", "first", "row"] ["folk", "call", "first", "row"] (defScope sAsked) := ⟨rfl, rfl, rfl, by decide +kernel, rfl, by decide +kernel, by decide +kernel⟩
def spAsked (K : PySem.W.Frag) (C : Addr) : Sp := fun vs H Q _ => ∃ (p wa ra : Addr) (c n : Nat) (ws : List (List Nat)) (l : List Nat) (z : Int), vs = [.ref p, iV c, .int z, .ref ra] ∧ FolkAt C H p wa ∧ WAt H wa ws ∧ Gd n ws ∧ n ≤ 5 ∧ 1 ≤ n ∧ SqL K H ra (nV l) ∧ l.length < 64 ∧
  ∀ H' r, Same H H' → H r = none → H' r = some (.lst (ansV (askA c n ws l z))) → Q (.ref r) H'
theorem dec_num (c k : Nat) : decide (V.int (c : Int) = V.int ((k : Nat) : Int)) = decide (c = k) :=
  decide_eq_decide.mpr ⟨fun h => by have := V.int.inj h; omega, fun h => by rw [h]⟩
theorem ok_asked {f : Addr} {fd : FuncData} (F : Fun K "asked" "asked" sAsked f fd) (T : FTxt K C) (N : Nums2 mg) (C3 : MCal P w K mg base C "trade" 6 ["self", "most", "own"] (spTrade K C)) (C4 : MCal P w K mg base C "turns" 4 ["self", "most", "order"] (spTurns K C))
    (C5 : MCal P w K mg base C "good" 4 ["self", "given"] (spGood K C)) (C6 : MCal P w K mg base C "order" 5 ["self", "most", "given"] (spOrder K C)) (C7 : MCal P w K mg base C "group" 5 ["self", "both"] (spGroup K C)) (C8 : MCal P w K mg base C "eat" 6 ["self", "most"] (spEat C)) :
    FnOk P w K mg base CX0 7 f fd ["folk", "call", "first", "row"] (spAsked K C) := by
  refine F.ok scAsked (fun vs H Q E h => ?_) (fun cdv A outer s H vs Q E hr h => ?_)
  · obtain ⟨p, wa, ra, c, n, ws, l, z, rfl, _⟩ := h
    rfl
  · obtain ⟨p, wa, ra, c, n, ws, l, z, rfl, ⟨dx, hp⟩, hw, hg, hn, h1n, hra, hl, q⟩ := h
    have hr4 : Room 4 _ := hr.mono (by decide)
    have hr5 : Room 5 _ := hr.mono (by decide)
    refine ⟨_, pss_cons (ps_if (pt_cmpR op_eq (pv 1) (pe_num N.trade (by rfl)) (nomark _)) (pss_one (ps_ret (pe_mcal C3 hr T.cl (pv 0) (pa_cons (pv 2) (pa_cons (pv 3) pa_nil))))) pss_nil)
      (pss_cons (ps_if (pt_cmpR op_eq (pv 1) (pe_num N.turns (by rfl)) (nomark _)) (pss_one (ps_ret (pe_mcal C4 hr4 T.cl (pv 0) (pa_cons (pv 2) (pa_cons (pv 3) pa_nil))))) pss_nil)
      (pss_cons (ps_if (pt_cmpR op_eq (pv 1) (pe_num N.good (by rfl)) (nomark _)) (pss_one (ps_ret (pe_mcal C5 hr4 T.cl (pv 0) (pa_cons (pv 3) pa_nil)))) pss_nil)
      (pss_cons (ps_if (pt_cmpR op_eq (pv 1) (pe_num N.order (by rfl)) (nomark _)) (pss_one (ps_ret (pe_mcal C6 hr5 T.cl (pv 0) (pa_cons (pv 2) (pa_cons (pv 3) pa_nil))))) pss_nil)
      (pss_cons (ps_if (pt_cmpR op_eq (pv 1) (pe_num N.group (by rfl)) (nomark _)) (pss_one (ps_ret (pe_mcal C7 hr5 T.cl (pv 0) (pa_cons (pv 3) pa_nil)))) pss_nil)
      (pss_one (ps_ret (pe_mcal C8 hr T.cl (pv 0) (pa_cons (pv 2) pa_nil)))))))), ?_⟩
    unfold askA at q
    refine ⟨_, rfl, rfl, _, rfl, ?_⟩
    rw [show decide (iV c = V.int 3) = decide (c = 3) from dec_num c 3]
    refine ite2 (fun h => ?_) (fun h => ?_)
    · rw [if_pos (of_decide_eq_true h)] at q
      exact ⟨_, rfl, p, dx, _, rfl, hp, fF_no _ (by decide +kernel), _, rfl, _, rfl, p, wa, ra, n, ws, l, z, rfl, ⟨dx, hp⟩, hw, hg, hn, hra, hl, q⟩
    rw [if_neg (fun x => h (decide_eq_true x))] at q
    refine ⟨_, rfl, rfl, _, rfl, ?_⟩
    rw [show decide (iV c = V.int 4) = decide (c = 4) from dec_num c 4]
    refine ite2 (fun h => ?_) (fun h => ?_)
    · rw [if_pos (of_decide_eq_true h)] at q
      exact ⟨_, rfl, p, dx, _, rfl, hp, fF_no _ (by decide +kernel), _, rfl, _, rfl, p, wa, ra, n, ws, l, z, rfl, ⟨dx, hp⟩, hw, hg, hn, hra, hl, q⟩
    rw [if_neg (fun x => h (decide_eq_true x))] at q
    refine ⟨_, rfl, rfl, _, rfl, ?_⟩
    rw [show decide (iV c = V.int 5) = decide (c = 5) from dec_num c 5]
    refine ite2 (fun h => ?_) (fun h => ?_)
    · rw [if_pos (of_decide_eq_true h)] at q
      exact ⟨_, rfl, p, dx, _, rfl, hp, fF_no _ (by decide +kernel), _, rfl, p, wa, ra, n, ws, l, rfl, ⟨dx, hp⟩, hw, hg, hn, hra, hl, q⟩
    rw [if_neg (fun x => h (decide_eq_true x))] at q
    refine ⟨_, rfl, rfl, _, rfl, ?_⟩
    rw [show decide (iV c = V.int 6) = decide (c = 6) from dec_num c 6]
    refine ite2 (fun h => ?_) (fun h => ?_)
    · rw [if_pos (of_decide_eq_true h)] at q
      exact ⟨_, rfl, p, dx, _, rfl, hp, fF_no _ (by decide +kernel), _, rfl, _, rfl, p, wa, ra, n, ws, l, z, rfl, ⟨dx, hp⟩, hw, hg, hn, h1n, hra, hl, q⟩
    rw [if_neg (fun x => h (decide_eq_true x))] at q
    refine ⟨_, rfl, rfl, _, rfl, ?_⟩
    rw [show decide (iV c = V.int 7) = decide (c = 7) from dec_num c 7]
    refine ite2 (fun h => ?_) (fun h => ?_)
    · rw [if_pos (of_decide_eq_true h)] at q
      exact ⟨_, rfl, p, dx, _, rfl, hp, fF_no _ (by decide +kernel), _, rfl, p, wa, ra, n, ws, l, rfl, ⟨dx, hp⟩, hw, hg, hn, hra, hl, q⟩
    rw [if_neg (fun x => h (decide_eq_true x))] at q
    exact ⟨_, rfl, p, dx, _, rfl, hp, fF_no _ (by decide +kernel), _, rfl, p, wa, n, ws, z, rfl, ⟨dx, hp⟩, hw, hg, hn, h1n, q⟩
end
end Wg

/-! The calls, against the specification's machine. -/
namespace Wg
open Rc57

structure GdS (s : Abs) : Prop where
  len : s.wishes.length = s.n
  le : s.n ≤ 5
  rows : ∀ row ∈ s.wishes, row = [] ∨ each s.n row = true
def callM (c : Nat) (first : Int) (l : List Nat) : Rc57.Call :=
  if c = 0 then .init else if c = 1 then .people first else if c = 2 then .wish l (l.length : Int) first else if c = 3 then .trade l (l.length : Int) first else if c = 4 then .turns l (l.length : Int) first
  else if c = 5 then .good l (l.length : Int) else if c = 6 then .order l (l.length : Int) first else if c = 7 then .group l (l.length : Int) else .eat first
/-- how a call stands in the row of numbers: what's read first, the row, the rest -/
def Rds (c : Nat) (r : List Int) (first : Int) (row t : List Int) : Prop :=
  ∃ r1, (if c = 0 ∨ c = 5 ∨ c = 7 then first = 0 ∧ r1 = r else r = first :: r1) ∧ (if 2 ≤ c ∧ c ≤ 7 then r1 = (row.length : Int) :: (row ++ t) else row = [] ∧ t = r1)

theorem each_nil {n : Nat} (h : 1 ≤ n) : each n [] = false := by
  unfold each
  rw [show (([] : List Nat).length == n) = false from beq_eq_false_iff_ne.mpr (by rw [List.length_nil]; omega)]
  rfl
theorem isGift_is (s : Abs) (l : List Nat) : isGift s l (l.length : Int) = each s.n l := by
  unfold isGift
  cases c : each s.n l with
  | false => rw [Bool.and_false]
  | true =>
    have := each_len c
    rw [Bool.and_true, decide_eq_true (by omega)]
theorem twoGifts_is (s : Abs) (l : List Nat) : twoGifts s l (l.length : Int) = (each s.n (l.take s.n) && each s.n (l.drop s.n)) := by
  unfold twoGifts
  cases c : (each s.n (l.take s.n) && each s.n (l.drop s.n)) with
  | false => rw [Bool.and_false]
  | true =>
    rw [Bool.and_eq_true] at c
    have h1 := each_len c.1
    have h2 := each_len c.2
    rw [List.length_take] at h1
    rw [List.length_drop] at h2
    rw [Bool.and_true, decide_eq_true (by omega)]
theorem nil_iff {s : Abs} (g : GdS s) : s.wishes = [] ↔ s.n = 0 := by
  rw [← List.length_eq_zero_iff, g.len]
theorem does_none {s : Abs} (c : Nat) (h2 : 2 ≤ c) (first : Int) (l : List Nat) (h : s.n = 0) : does s (callM c first l) = (s, nothing) := by
  unfold callM does
  rw [if_neg (by omega), if_neg (by omega)]
  by_cases c2 : c = 2
  · rw [if_pos c2]; simp only; rw [if_pos h]
  · rw [if_neg c2]
    by_cases c3 : c = 3
    · rw [if_pos c3]; simp only; rw [if_pos h]
    · rw [if_neg c3]
      by_cases c4 : c = 4
      · rw [if_pos c4]; simp only; rw [if_pos h]
      · rw [if_neg c4]
        by_cases c5 : c = 5
        · rw [if_pos c5]; simp only; rw [if_pos h]
        · rw [if_neg c5]
          by_cases c6 : c = 6
          · rw [if_pos c6]; simp only; rw [if_pos h]
          · rw [if_neg c6]
            by_cases c7 : c = 7
            · rw [if_pos c7]; simp only; rw [if_pos h]
            · rw [if_neg c7]; simp only; rw [if_pos h]
theorem does_begin (s : Abs) (first : Int) (l : List Nat) : does s (callM 0 first l) = ({}, { value := 0 }) := rfl
theorem does_people (s : Abs) (first : Int) (l : List Nat) : does s (callM 1 first l) = if first < 1 ∨ (PEOPLE : Int) < first then (s, refused) else ({ n := first.toNat, wishes := List.replicate first.toNat [] }, { value := 0 }) := rfl
theorem does_wish {s : Abs} (first : Int) (l : List Nat) (h : s.n ≠ 0) : does s (callM 2 first l) = if first < 0 ∨ (s.n : Int) ≤ first ∨ each s.n l = false then (s, refused) else ({ s with wishes := s.wishes.set first.toNat l }, { value := 0 }) := by
  have e : does s (callM 2 first l) = if s.n = 0 then (s, nothing) else if first < 0 ∨ (s.n : Int) ≤ first ∨ isGift s l (l.length : Int) = false then (s, refused) else ({ s with wishes := s.wishes.set first.toNat l }, { value := 0 }) := rfl
  rw [e, if_neg h, isGift_is]
theorem does_unknown {s : Abs} (c : Nat) (h3 : 3 ≤ c) (first : Int) (l : List Nat) (h : s.n ≠ 0) (ha : all s = false) : does s (callM c first l) = (s, { value := -3 }) := by
  unfold callM does
  rw [if_neg (by omega), if_neg (by omega), if_neg (by omega)]
  by_cases c3 : c = 3
  · rw [if_pos c3]; simp only; rw [if_neg h, if_pos ha]
  · rw [if_neg c3]
    by_cases c4 : c = 4
    · rw [if_pos c4]; simp only; rw [if_neg h, if_pos ha]
    · rw [if_neg c4]
      by_cases c5 : c = 5
      · rw [if_pos c5]; simp only; rw [if_neg h, if_pos ha]
      · rw [if_neg c5]
        by_cases c6 : c = 6
        · rw [if_pos c6]; simp only; rw [if_neg h, if_pos ha]
        · rw [if_neg c6]
          by_cases c7 : c = 7
          · rw [if_pos c7]; simp only; rw [if_neg h, if_pos ha]
          · rw [if_neg c7]; simp only; rw [if_neg h, if_pos ha]
theorem does_ask {s : Abs} (c : Nat) (h3 : 3 ≤ c) (h8 : c ≤ 8) (first : Int) (l : List Nat) (h : s.n ≠ 0) (h5 : s.n ≤ 5) (ha : all s = true) : does s (callM c first l) = (s, askA c s.n s.wishes l first) := by
  have ha' : ¬ all s = false := by rw [ha]; exact Bool.noConfusion
  unfold askA
  by_cases c3 : c = 3
  · subst c3
    have e : does s (callM 3 first l) = if s.n = 0 then (s, nothing) else if all s = false then (s, { value := -3 }) else (s, if isGift s l (l.length : Int) = false then refused else written PEOPLE first (traded s.n s.wishes l)) := rfl
    rw [e, if_neg h, if_neg ha', isGift_is, if_pos rfl]
    rfl
  rw [if_neg c3]
  by_cases c4 : c = 4
  · subst c4
    have e : does s (callM 4 first l) = if s.n = 0 then (s, nothing) else if all s = false then (s, { value := -3 }) else (s, if isGift s l (l.length : Int) = false then refused else written PEOPLE first (turns s.n s.wishes l)) := rfl
    rw [e, if_neg h, if_neg ha', isGift_is, if_pos rfl]
    rfl
  rw [if_neg c4]
  by_cases c5 : c = 5
  · subst c5
    have e : does s (callM 5 first l) = if s.n = 0 then (s, nothing) else if all s = false then (s, { value := -3 }) else (s, if isGift s l (l.length : Int) = false then refused else { value := if (orders s.n (List.range s.n)).any (isBetter s.n s.wishes l) = true then 0 else 1 }) := rfl
    rw [e, if_neg h, if_neg ha', isGift_is, if_pos rfl]
    rfl
  rw [if_neg c5]
  by_cases c6 : c = 6
  · subst c6
    have e : does s (callM 6 first l) = if s.n = 0 then (s, nothing) else if all s = false then (s, { value := -3 }) else (s, if isGift s l (l.length : Int) = false then refused else match (orders s.n (List.range s.n)).find? fun (o : List Nat) => turns s.n s.wishes o == l with
        | some o => written PEOPLE first o
        | none => { value := 0 }) := rfl
    rw [e, if_neg h, if_neg ha', isGift_is, if_pos rfl]
    rfl
  rw [if_neg c6]
  by_cases c7 : c = 7
  · subst c7
    have e : does s (callM 7 first l) = if s.n = 0 then (s, nothing) else if all s = false then (s, { value := -3 }) else (s, if twoGifts s l (l.length : Int) = false then refused else match (List.range (2 ^ s.n)).find? fun (k : Nat) => blocks s.n s.wishes (l.take s.n) (l.drop s.n) k with
        | some k => { value := 1, numbers := [k] }
        | none => { value := 0, numbers := [0] }) := rfl
    rw [e, if_neg h, if_neg ha', twoGifts_is, if_pos rfl]
    rfl
  rw [if_neg c7]
  have c8 : c = 8 := by omega
  subst c8
  have e : does s (callM 8 first l) = if s.n = 0 then (s, nothing) else if all s = false then (s, { value := -3 }) else (s, if EATERS < s.n then refused else written 128 first (shares s.n s.wishes)) := rfl
  rw [e, if_neg h, if_neg ha', if_neg (show ¬ EATERS < s.n by show ¬ 8 < s.n; omega)]
  rfl
theorem all_iff {s : Abs} (g : GdS s) (h : s.n ≠ 0) : ([] ∈ s.wishes ∧ all s = false) ∨ ([] ∉ s.wishes ∧ all s = true ∧ Gd s.n s.wishes) := by
  by_cases c : [] ∈ s.wishes
  · left
    refine ⟨c, ?_⟩
    unfold all right
    cases e : (s.wishes.all (each s.n)) with
    | false => rw [Bool.and_false]
    | true =>
      have := List.all_eq_true.mp e _ c
      rw [each_nil (by omega)] at this
      cases this
  · right
    have hrow : ∀ row ∈ s.wishes, each s.n row = true := fun row hr => by
      rcases g.rows row hr with h1 | h1
      · rw [h1] at hr
        exact absurd hr c
      · exact h1
    refine ⟨c, ?_, g.len, hrow⟩
    unfold all right
    rw [Bool.and_eq_true]
    exact ⟨beq_iff_eq.mpr g.len, List.all_eq_true.mpr hrow⟩
theorem GdS.start : GdS {} := ⟨rfl, Nat.zero_le 5, fun row h => absurd h (by simp)⟩
theorem GdS.next {s : Abs} (g : GdS s) (c : Nat) (hc : c ≤ 8) (first : Int) (l : List Nat) (hf : c = 1 → first ≤ 5 ∨ 16 < first) : GdS (does s (callM c first l)).1 := by
  by_cases c0 : c = 0
  · subst c0
    exact GdS.start
  by_cases c1 : c = 1
  · subst c1
    rw [does_people]
    by_cases d : first < 1 ∨ (PEOPLE : Int) < first
    · rw [if_pos d]
      exact g
    · rw [if_neg d]
      have d2 : ¬ (16 : Int) < first := fun z => d (.inr z)
      have d3 : ¬ first < 1 := fun z => d (.inl z)
      have hf := hf rfl
      refine ⟨List.length_replicate, ?_, fun row hr => .inl (List.mem_replicate.mp hr).2⟩
      show first.toNat ≤ 5
      omega
  by_cases h : s.n = 0
  · rw [does_none c (by omega) first l h]
    exact g
  by_cases c2 : c = 2
  · subst c2
    rw [does_wish first l h]
    by_cases d : first < 0 ∨ (s.n : Int) ≤ first ∨ each s.n l = false
    · rw [if_pos d]
      exact g
    · rw [if_neg d]
      refine ⟨by show (s.wishes.set first.toNat l).length = s.n; rw [List.length_set, g.len], g.le, fun row hr => ?_⟩
      rcases List.mem_or_eq_of_mem_set hr with hr | rfl
      · exact g.rows row hr
      · right
        cases e : each s.n row with
        | true => rfl
        | false => exact absurd (.inr (.inr e)) d
  rcases all_iff g h with ⟨_, a⟩ | ⟨_, a, _⟩
  · rw [does_unknown c (by omega) first l h a]
    exact g
  · rw [does_ask c (by omega) hc first l h g.le a]
    exact g
end Wg

/-! giving.py: answer -/
namespace Wg
open PySem PySem.Spec PyProof.Rows L2

section
variable {P : Program} {w : World} {K : PySem.W.Frag} {mg : Str → Option Value} {base : Heap} {CF CC : Addr}

abbrev sAnswer : Stmt := top 53
theorem scAnswer : FnScope ["folk", "call", "calls", "first", "row"] ["folk", "call", "calls"] (defScope sAnswer) := ⟨rfl, rfl, rfl, by decide +kernel, rfl, by decide +kernel, by decide +kernel⟩
def spAnswer (CF CC : Addr) : Sp := fun vs H Q _ => ∃ (p wa rd nl : Addr) (rs : List Addr) (s : Rc57.Abs) (k c : Nat) (xs : List Int) (first : Int) (l : List Nat) (t : List Int), vs = [.ref p, iV c, .ref rd] ∧ FolkAt CF H p wa ∧ H wa = some (.lst (rs.map V.ref)) ∧ RowsAt H rs s.wishes ∧ (∀ x ∈ rs, x ≠ wa) ∧ GdS s ∧
  CallsAt CC H rd nl k ∧ H nl = some (.lst (xs.map V.int)) ∧ c ≤ 8 ∧ Rds c (xs.drop k) first (l.map fun (x : Nat) => (x : Int)) t ∧ l.length < 64 ∧ (c = 1 → first ≤ 5 ∨ 16 < first) ∧
  ∀ H' wa' rs' k' r, (∀ b o, H b = some o → b ≠ p → b ≠ rd → b ≠ wa → H' b = some o) → FolkAt CF H' p wa' → H' wa' = some (.lst (rs'.map V.ref)) → RowsAt H' rs' (Rc57.does s (callM c first l)).1.wishes → (∀ x ∈ rs', x ≠ wa') → (wa' = wa ∨ H wa' = none) → (∀ x ∈ rs', x ∈ rs ∨ H x = none) →
    CallsAt CC H' rd nl k' → xs.drop k' = t → H r = none → H' r = some (.lst (ansV (Rc57.does s (callM c first l)).2)) → r ≠ wa' → Q (.ref r) H'
abbrev tE (a b : TE) : TT := tTest (tOp rNe a b)
/-- the numbers are read -/
theorem answer_read {R : TS} {D : Ends} {H : Hp} {p rd nl : Addr} {c k : Nat} {xs : List Int} {first : Int} {l : List Nat} {t : List Int} (hc : c ≤ 8) (hrd : CallsAt CC H rd nl k) (hnl : H nl = some (.lst (xs.map V.int)))
    (hR : Rds c (xs.drop k) first (l.map fun (x : Nat) => (x : Int)) t)
    (q : ∀ H2 ra k', Exc rd H H2 → H ra = none → H2 ra = some (.lst (nV l)) → CallsAt CC H2 rd nl k' → xs.drop k' = t → R D [some (.ref p), some (iV c), some (.ref rd), some (.int first), some (.ref ra)] H2) :
    tSeq (tAsg (tC (.int 0)) (gName 3)) (tSeq (tAsg (tLst tNil) (gName 4))
      (tSeq (tIfS (tAnd (tE (tVar 1) (tC (.int 0))) (tAnd (tE (tVar 1) (tC (.int 5))) (tE (tVar 1) (tC (.int 7))))) (tAsg (tMeth CC "one" (spOne CC) [] E0 (tVar 2) tNil) (gName 3)) tNext)
      (tSeq (tIfS (tTest (tOp (rIn K false) (tVar 1) (tTup (tCons (tC (.int 2)) (tCons (tC (.int 3)) (tCons (tC (.int 4)) (tCons (tC (.int 5)) (tCons (tC (.int 6)) (tCons (tC (.int 7)) tNil))))))))) (tAsg (tMeth CC "row" (spRow CC) [] E0 (tVar 2) tNil) (gName 4)) tNext) R)))
      D [some (.ref p), some (iV c), some (.ref rd), none, none] H := by
  obtain ⟨r1, hr1, hr2⟩ := hR
  obtain ⟨dx, hd⟩ := hrd
  refine ⟨Nat.zero_le _, fun e ne => ?_⟩
  have s1 : Same H (upd H e (.lst [])) := same_upd ne
  have he1 : (upd H e (.lst [])) e = some (.lst []) := upd_same
  generalize upd H e (.lst []) = H1 at *
  have rest : ∀ H2 k2, Exc rd H1 H2 → CallsAt CC H2 rd nl k2 → xs.drop k2 = r1 →
      tSeq (tIfS (tTest (tOp (rIn K false) (tVar 1) (tTup (tCons (tC (.int 2)) (tCons (tC (.int 3)) (tCons (tC (.int 4)) (tCons (tC (.int 5)) (tCons (tC (.int 6)) (tCons (tC (.int 7)) tNil))))))))) (tAsg (tMeth CC "row" (spRow CC) [] E0 (tVar 2) tNil) (gName 4)) tNext) R
        D [some (.ref p), some (iV c), some (.ref rd), some (.int first), some (.ref e)] H2 := by
    intro H2 k2 x2 ⟨dx2, hd2⟩ h2
    have nlr : nl ≠ rd := ne_of hnl hd (by intro z; cases z)
    have ner : e ≠ rd := fun z => by
      rw [z, hd] at ne
      cases ne
    have hnl2 := x2 _ _ (s1 _ _ hnl) nlr
    have he2 := x2 _ _ he1 ner
    refine ⟨_, rfl, by show 6 ≤ sizeLine; decide, fun T nT => ?_⟩
    have sT : Same H2 (upd H2 T (.tup [.int 2, .int 3, .int 4, .int 5, .int 6, .int 7])) := same_upd nT
    have hT : (upd H2 T (.tup [.int 2, .int 3, .int 4, .int 5, .int 6, .int 7])) T = some (.tup [.int 2, .int 3, .int 4, .int 5, .int 6, .int 7]) := upd_same
    refine ⟨T, _, rfl, .inr (SqT.of hT), rfl, rfl, _, rfl, ?_⟩
    have x3 : Exc rd H1 (upd H2 T (.tup [.int 2, .int 3, .int 4, .int 5, .int 6, .int 7])) := x2.trans (Exc.same sT)
    have hd3 := sT _ _ hd2
    have hnl3 := sT _ _ hnl2
    have he3 := sT _ _ he2
    generalize upd H2 T (.tup [.int 2, .int 3, .int 4, .int 5, .int 6, .int 7]) = H3 at *
    have ein : (if false = true then !inV (iV c) [.int 2, .int 3, .int 4, .int 5, .int 6, .int 7] else inV (iV c) [.int 2, .int 3, .int 4, .int 5, .int 6, .int 7]) = decide (2 ≤ c ∧ c ≤ 7) := by
      rw [if_neg Bool.false_ne_true]
      have := in_nV c [2, 3, 4, 5, 6, 7]
      have e2 : inV (iV c) [.int 2, .int 3, .int 4, .int 5, .int 6, .int 7] = [2, 3, 4, 5, 6, 7].contains c := this
      rw [e2, Bool.eq_iff_iff, List.contains_iff_mem, decide_eq_true_iff]
      simp only [List.mem_cons, List.not_mem_nil, or_false]
      omega
    rw [ein]
    refine ite2 (fun h => ?_) (fun h => ?_)
    · rw [if_pos (of_decide_eq_true h)] at hr2
      refine ⟨_, rfl, rd, dx2, _, rfl, hd3, cF_no _ _ (by decide +kernel) (by decide +kernel), rd, nl, k2, xs, l.map (fun (x : Nat) => (x : Int)), t, rfl, ⟨dx2, hd3⟩, hnl3, by rw [h2, hr2], fun H4 ra k' x4 nra hra hk hk2 => ?_⟩
      have x5 : Exc rd H H4 := (Exc.same s1).trans (x3.trans x4)
      refine q H4 ra k' x5 ?_ (by rw [nV_ints]; exact hra) hk hk2
      cases z : H ra with
      | none => rfl
      | some o =>
        by_cases y : ra = rd
        · rw [y, hd3] at nra
          cases nra
        · rw [x3 _ _ (s1 _ _ z) y] at nra
          cases nra
    · rw [if_neg (fun z => h (decide_eq_true z))] at hr2
      have l0 : l = [] := by
        have := hr2.1
        rw [List.map_eq_nil_iff] at this
        exact this
      subst l0
      exact q H3 e k2 ((Exc.same s1).trans x3) ne he3 ⟨dx2, hd3⟩ (h2.trans hr2.2.symm)
  have hd1 := s1 _ _ hd
  have hnl1 := s1 _ _ hnl
  have yes : ¬ (c = 0 ∨ c = 5 ∨ c = 7) → tAsg (tMeth CC "one" (spOne CC) [] E0 (tVar 2) tNil) (gName 3) { D with nx := fun σ H => tSeq (tIfS (tTest (tOp (rIn K false) (tVar 1) (tTup (tCons (tC (.int 2)) (tCons (tC (.int 3)) (tCons (tC (.int 4)) (tCons (tC (.int 5)) (tCons (tC (.int 6)) (tCons (tC (.int 7)) tNil))))))))) (tAsg (tMeth CC "row" (spRow CC) [] E0 (tVar 2) tNil) (gName 4)) tNext) R D σ H }
      [some (.ref p), some (iV c), some (.ref rd), some (.int 0), some (.ref e)] H1 := fun h => by
    rw [if_neg h] at hr1
    refine ⟨_, rfl, rd, dx, _, rfl, hd1, cF_no _ _ (by decide +kernel) (by decide +kernel), rd, nl, k, xs, r1, first, rfl, ⟨dx, hd1⟩, hnl1, hr1, fun H2 x2 hc2 => ?_⟩
    exact rest H2 (k + 1) x2 hc2 (drop_head hr1).2.2
  have no : (c = 0 ∨ c = 5 ∨ c = 7) → tSeq (tIfS (tTest (tOp (rIn K false) (tVar 1) (tTup (tCons (tC (.int 2)) (tCons (tC (.int 3)) (tCons (tC (.int 4)) (tCons (tC (.int 5)) (tCons (tC (.int 6)) (tCons (tC (.int 7)) tNil))))))))) (tAsg (tMeth CC "row" (spRow CC) [] E0 (tVar 2) tNil) (gName 4)) tNext) R
        D [some (.ref p), some (iV c), some (.ref rd), some (.int 0), some (.ref e)] H1 := fun h => by
    rw [if_pos h] at hr1
    have := rest H1 k (fun b o e _ => e) ⟨dx, hd1⟩ hr1.2.symm
    rw [hr1.1] at this
    exact this
  refine ⟨_, rfl, rfl, _, rfl, ?_⟩
  rw [show decide (iV c = V.int 0) = decide (c = 0) from dec_num c 0]
  by_cases c0 : c = 0
  · rw [decide_eq_true c0]
    exact iteF (iteF (no (.inl c0)))
  rw [decide_eq_false c0]
  refine iteT ⟨_, rfl, rfl, _, rfl, ?_⟩
  rw [show decide (iV c = V.int 5) = decide (c = 5) from dec_num c 5]
  by_cases c5 : c = 5
  · rw [decide_eq_true c5]
    exact iteF (iteF (no (.inr (.inl c5))))
  rw [decide_eq_false c5]
  refine iteT ⟨_, rfl, rfl, _, rfl, ?_⟩
  rw [show decide (iV c = V.int 7) = decide (c = 7) from dec_num c 7]
  by_cases c7 : c = 7
  · rw [decide_eq_true c7]
    exact iteF (no (.inr (.inr c7)))
  rw [decide_eq_false c7]
  exact iteT (yes (by omega))

theorem ok_answer {f : Addr} {fd : FuncData} (F : Fun K "answer" "answer" sAnswer f fd) (TF : FTxt K CF) (TC : CTxt K CC) (N : Nums2 mg) (C1 : MCal P w K mg base CC "one" 1 ["self"] (spOne CC)) (C2 : MCal P w K mg base CC "row" 2 ["self"] (spRow CC))
    (C3 : MCal P w K mg base CF "begin" 1 ["self"] (spBegin CF)) (C4 : MCal P w K mg base CF "people" 1 ["self", "many"] (spPeople CF)) (C5 : MCal P w K mg base CF "wish" 3 ["self", "person", "things"] (spWish K CF))
    (C6 : MCal P w K mg base CF "refusal" 1 ["self"] (spRefusal CF)) (C7 : Cal P w K mg base "asked" 7 ["folk", "call", "first", "row"] (spAsked K CF)) : FnOk P w K mg base CX0 8 f fd ["folk", "call", "calls"] (spAnswer CF CC) := by
  refine F.ok scAnswer (fun vs H Q E h => ?_) (fun cdv A outer s H vs Q E hr h => ?_)
  · obtain ⟨p, wa, rd, nl, rs, s, k, c, xs, first, l, t, rfl, _⟩ := h
    rfl
  · obtain ⟨p, wa, rd, nl, rs, s, k, c, xs, first, l, t, rfl, ⟨dx, hp⟩, hwa, hrs, nrw, gs, hrd, hnl, hc, hR, hl, hfirst, q⟩ := h
    have hr1 : Room 1 _ := hr.mono (by decide)
    have hr2 : Room 2 _ := hr.mono (by decide)
    have hr3 : Room 3 _ := hr.mono (by decide)
    refine ⟨_, pss_cons (ps_set (i := 3) scAnswer.nd rfl (.inl rfl) pe_int)
      (pss_cons (ps_set (i := 4) scAnswer.nd rfl (.inl rfl) (pe_lst pa_nil))
      (pss_cons (ps_if (PW.pt (pw_and (pt_cmpR op_ne (pv 1) (pe_num N.begin_ (by rfl)) (nomark _)) (pw_and (pt_cmpR op_ne (pv 1) (pe_num N.good (by rfl)) (nomark _)) (pw_and1 (pt_cmpR op_ne (pv 1) (pe_num N.group (by rfl)) (nomark _))))))
        (pss_one (ps_set (i := 3) scAnswer.nd rfl (.inl rfl) (pe_mcal0 C1 hr1 TC.cl (pv 2)))) pss_nil)
      (pss_cons (ps_if (pt_cmpR op_in_seq (pv 1) (pe_tup (pa_cons (pe_num N.wish (by rfl)) (pa_cons (pe_num N.trade (by rfl)) (pa_cons (pe_num N.turns (by rfl)) (pa_cons (pe_num N.good (by rfl)) (pa_cons (pe_num N.order (by rfl)) (pa_cons (pe_num N.group (by rfl)) pa_nil))))))) (by rfl))
        (pss_one (ps_set (i := 4) scAnswer.nd rfl (.inl rfl) (pe_mcal0 C2 hr2 TC.cl (pv 2)))) pss_nil)
      (pss_cons (ps_if (pt_cmpR op_eq (pv 1) (pe_num N.begin_ (by rfl)) (nomark _)) (pss_one (ps_ret (pe_mcal0 C3 hr1 TF.cl (pv 0)))) pss_nil)
      (pss_cons (ps_if (pt_cmpR op_eq (pv 1) (pe_num N.people (by rfl)) (nomark _)) (pss_one (ps_ret (pe_mcal C4 hr1 TF.cl (pv 0) (pa_cons (pv 3) pa_nil)))) pss_nil)
      (pss_cons (ps_if (pt_cmpR op_eq (pv 1) (pe_num N.wish (by rfl)) (nomark _)) (pss_one (ps_ret (pe_mcal C5 hr3 TF.cl (pv 0) (pa_cons (pv 3) (pa_cons (pv 4) pa_nil))))) pss_nil)
      (pss_cons (ps_if (pt_cmpR op_lt (pe_mcal0 C6 hr1 TF.cl (pv 0)) pe_int (nomark _)) (pss_one (ps_ret (pe_lst (pa_cons (pe_mcal0 C6 hr1 TF.cl (pv 0)) pa_nil)))) pss_nil)
      (pss_one (ps_ret (pe_cal C7 hr (by rfl) (pa_cons (pv 0) (pa_cons (pv 1) (pa_cons (pv 3) (pa_cons (pv 4) pa_nil)))))))))))))), ?_⟩
    refine answer_read (K := K) hc hrd hnl hR (fun H2 ra k' x2 nra hra hk' hk2 => ?_)
    obtain ⟨dr, hrd0⟩ := hrd
    have npr : p ≠ rd := ne_of hp hrd0 (by
      intro z
      have := (HO.ins.inj z).2.2
      cases this)
    have nwr : wa ≠ rd := ne_of hwa hrd0 (by intro z; cases z)
    have nnr : nl ≠ rd := ne_of hnl hrd0 (by intro z; cases z)
    have hp2 := x2 _ _ hp npr
    have hwa2 := x2 _ _ hwa nwr
    have hrs2 : RowsAt H2 rs s.wishes := RowsAt.keep (fun x hx o ho => x2 _ _ ho (fun z => by
      obtain ⟨row, _, h1⟩ := hrs.mem hx
      rw [z, hrd0] at h1
      cases h1)) hrs
    have npw : p ≠ wa := ne_of hp hwa (by intro z; cases z)
    have new : ∀ {x : Addr}, H2 x = none → H x = none := fun {x} hx => by
      obtain ⟨d2, h2⟩ := hk'
      cases z : H x with
      | none => rfl
      | some o =>
        by_cases y : x = rd
        · rw [y, h2] at hx
          cases hx
        · rw [x2 _ _ z y] at hx
          cases hx
    have rdAt : ∀ {H' : Hp}, (∀ b o, H2 b = some o → b ≠ p → b ≠ wa → H' b = some o) → CallsAt CC H' rd nl k' := fun {H'} h => by
      obtain ⟨d2, h2⟩ := hk'
      exact ⟨d2, h _ _ h2 npr.symm nwr.symm⟩
    have frame : ∀ {H' : Hp}, (∀ b o, H2 b = some o → b ≠ p → b ≠ wa → H' b = some o) → ∀ b o, H b = some o → b ≠ p → b ≠ rd → b ≠ wa → H' b = some o := fun {H'} h b o e n1 n2 n3 => h b o (x2 _ _ e n2) n1 n3
    have still : ∀ (a : Rc57.Ans), Rc57.does s (callM c first l) = (s, a) → ∀ H' r, Same H2 H' → H2 r = none → H' r = some (.lst (ansV a)) → Q (.ref r) H' := fun a e H' r s' nr hr' => by
      refine q H' wa rs k' r (frame fun b o e _ _ => s' _ _ e) ⟨dx, s' _ _ hp2⟩ (s' _ _ hwa2) ?_ nrw (.inl rfl) (fun x hx => .inl hx) (rdAt fun b o e _ _ => s' _ _ e) hk2 (new nr) ?_ ?_
      · rw [e]
        exact hrs2.same s'
      · rw [e]
        exact hr'
      · exact (ne_of_none hwa2 nr).symm
    refine ⟨_, rfl, rfl, _, rfl, ?_⟩
    rw [show decide (iV c = V.int 0) = decide (c = 0) from dec_num c 0]
    by_cases c0 : c = 0
    · subst c0
      refine iteT ⟨_, rfl, p, dx, _, rfl, hp2, fF_no _ (by decide +kernel), p, wa, rfl, ⟨dx, hp2⟩, fun H' wa' r fr nwa' hwa' hF nr hr' => ?_⟩
      refine q H' wa' [] k' r (frame fun b o e n1 _ => fr b o e n1) hF hwa' trivial (fun x hx => absurd hx (by simp)) (.inr (new nwa')) (fun x hx => absurd hx (by simp)) (rdAt fun b o e n1 _ => fr b o e n1) hk2 (new nr) hr' (ne_of hr' hwa' (by
        intro z
        have := HO.lst.inj z
        cases this))
    rw [decide_eq_false c0]
    refine iteF ⟨_, rfl, rfl, _, rfl, ?_⟩
    rw [show decide (iV c = V.int 1) = decide (c = 1) from dec_num c 1]
    by_cases c1 : c = 1
    · subst c1
      rw [decide_eq_true rfl]
      refine iteT ⟨_, rfl, p, dx, _, rfl, hp2, fF_no _ (by decide +kernel), _, rfl, p, wa, first, rfl, ⟨dx, hp2⟩, fun hno H' r s' nr hr' => ?_, fun n hn h1 h16 H' wa' rs' r fr nwa' hwa' hrs' nrs' hF nr hr' => ?_⟩
      · refine still Rc57.refused ?_ H' r s' nr hr'
        rw [does_people, if_pos]
        show first < 1 ∨ (16 : Int) < first
        omega
      · have e : Rc57.does s (callM 1 first l) = ({ n := n, wishes := List.replicate n [] }, { value := 0 }) := by
          rw [does_people, if_neg (by show ¬ (first < 1 ∨ (16 : Int) < first); omega), hn]
          rfl
        refine q H' wa' rs' k' r (frame fun b o e n1 _ => fr b o e n1) hF hwa' ?_ (fun x hx => (nrs' x hx).2) (.inr (new nwa')) (fun x hx => .inr (new (nrs' x hx).1)) (rdAt fun b o e n1 _ => fr b o e n1) hk2 (new nr) ?_ (ne_of hr' hwa' (by
          intro z
          have := HO.lst.inj z
          cases rs' with
          | nil => cases this
          | cons x xs => cases this))
        · rw [e]
          exact hrs'
        · rw [e]
          exact hr'
    rw [decide_eq_false c1]
    refine iteF ⟨_, rfl, rfl, _, rfl, ?_⟩
    rw [show decide (iV c = V.int 2) = decide (c = 2) from dec_num c 2]
    have hwl := gs.len
    have hw5 := gs.le
    by_cases c2 : c = 2
    · subst c2
      rw [decide_eq_true rfl]
      refine iteT ⟨_, rfl, p, dx, _, rfl, hp2, fF_no _ (by decide +kernel), _, rfl, _, rfl, p, wa, ra, rs, s.wishes, l, first, rfl, ⟨dx, hp2⟩, hwa2, hrs2, by omega, hra, hl, fun h0 H' r s' nr hr' => ?_, fun hne hbad H' r s' nr hr' => ?_, fun i hi hin hea H' r fr hwa' nr hr' => ?_⟩
      · exact still Rc57.nothing (does_none 2 (by decide) first l ((nil_iff gs).mp h0)) H' r s' nr hr'
      · refine still Rc57.refused ?_ H' r s' nr hr'
        rw [does_wish first l (fun z => hne ((nil_iff gs).mpr z)), if_pos]
        rw [hwl] at hbad
        exact hbad
      · have h0 : s.n ≠ 0 := by omega
        have e : Rc57.does s (callM 2 first l) = ({ s with wishes := s.wishes.set i l }, { value := 0 }) := by
          rw [hwl] at hea
          rw [does_wish first l h0, if_neg (by
            rintro (z | z | z)
            · omega
            · omega
            · rw [hea] at z
              cases z), hi]
          rfl
        have nraw : ra ≠ wa := fun z => by
          rw [z, hwa] at nra
          cases nra
        refine q H' wa (rs.set i ra) k' r (frame fun b o e _ n3 => fr b o e n3) ⟨dx, fr _ _ hp2 npw⟩ hwa' ?_ (fun x hx => ?_) (.inl rfl) (fun x hx => ?_) (rdAt fun b o e _ n3 => fr b o e n3) hk2 (new nr) ?_ (ne_of_none hwa2 nr).symm
        · rw [e]
          exact RowsAt.set (fr _ _ hra nraw) (RowsAt.keep (fun x hx o ho => fr _ _ ho (nrw x hx)) hrs2)
        · rcases List.mem_or_eq_of_mem_set hx with hx | rfl
          · exact nrw x hx
          · exact nraw
        · rcases List.mem_or_eq_of_mem_set hx with hx | rfl
          · exact .inl hx
          · exact .inr nra
        · rw [e]
          exact hr'
    rw [decide_eq_false c2]
    refine iteF ?_
    have w2 : WAt H2 wa s.wishes := ⟨rs, hwa2, hrs2⟩
    refine ⟨_, rfl, p, dx, _, rfl, hp2, fF_no _ (by decide +kernel), p, wa, s.wishes, rfl, ⟨dx, hp2⟩, w2, fun H3 s3 => ⟨refM s.wishes, 0, rfl, rfl, _, rfl, ?_⟩⟩
    have told : ∀ a : Rc57.Ans, Rc57.does s (callM c first l) = (s, a) → ansV a = [.int (refM s.wishes)] → tRet (tLst (tCons (tMeth CF "refusal" (spRefusal CF) [] E0 (tVar 0) tNil) tNil)) { nx := fun _ H' => Q .non H', rt := Q } [some (.ref p), some (iV c), some (.ref rd), some (.int first), some (.ref ra)] H3 := fun a e ea => by
      refine ⟨_, rfl, p, dx, _, rfl, s3 _ _ hp2, fF_no _ (by decide +kernel), p, wa, s.wishes, rfl, ⟨dx, s3 _ _ hp2⟩, w2.same s3, fun H4 s4 => ⟨by show 1 ≤ sizeLine; decide, fun r nr => ?_⟩⟩
      have t4 := s3.trans s4
      exact still a e _ r (t4.updN nr) (t4.free nr) (by rw [upd_same, ea])
    by_cases h0 : s.n = 0
    · have e1 : refM s.wishes = -4 := by
        unfold refM
        rw [if_pos ((nil_iff gs).mpr h0)]
      rw [e1] at told ⊢
      refine iteT (told Rc57.nothing (does_none c (by omega) first l h0) rfl)
    · have hne : s.wishes ≠ [] := fun z => h0 ((nil_iff gs).mp z)
      rcases all_iff gs h0 with ⟨hm, ha⟩ | ⟨hm, ha, gd⟩
      · have e1 : refM s.wishes = -3 := by
          unfold refM
          rw [if_neg hne, if_pos hm]
        rw [e1] at told ⊢
        exact iteT (told { value := -3 } (does_unknown c (by omega) first l h0 ha) rfl)
      · have e1 : refM s.wishes = 0 := by
          unfold refM
          rw [if_neg hne, if_neg hm]
        rw [e1]
        refine iteF ?_
        refine ⟨_, rfl, _, rfl, _, rfl, _, rfl, p, wa, ra, c, s.n, s.wishes, l, first, rfl, ⟨dx, s3 _ _ hp2⟩, w2.same s3, gd, gs.le, by omega, SqL.of (s3 _ _ hra), hl, fun H4 r s4 nr hr' => ?_⟩
        exact still _ (does_ask c (by omega) hc first l h0 gs.le ha) H4 r (s3.trans s4) (s3.free nr) hr'
end
end Wg

/-! How calls stand in one row of numbers. -/
namespace Wg

theorem row_some {l x t : List Int} (h : PyFlat.row l = some (x, t)) : l = (x.length : Int) :: (x ++ t) := by
  cases l with
  | nil => simp [PyFlat.row] at h
  | cons n r =>
    unfold PyFlat.row at h
    simp only at h
    by_cases c : 0 ≤ n ∧ n.toNat ≤ r.length
    · rw [if_pos c] at h
      have e := Prod.mk.inj (Option.some.inj h)
      rw [← e.1, ← e.2, List.take_append_drop, List.length_take, Nat.min_eq_left c.2, Int.toNat_of_nonneg c.1]
    · rw [if_neg c] at h
      cases h
theorem rows_one {l t : List Int} {xs : List (List Int)} (h : PyFlat.rows 1 l = some (xs, t)) : ∃ x, xs = [x] ∧ l = (x.length : Int) :: (x ++ t) := by
  unfold PyFlat.rows at h
  cases e : PyFlat.row l with
  | none =>
    rw [e] at h
    cases h
  | some p =>
    obtain ⟨x, s⟩ := p
    rw [e] at h
    have h' : some ([x], s) = some (xs, t) := h
    have e2 := Prod.mk.inj (Option.some.inj h')
    exact ⟨x, e2.1.symm, by rw [← e2.2]; exact row_some e⟩
theorem rows_zero {l t : List Int} {xs : List (List Int)} (h : PyFlat.rows 0 l = some (xs, t)) : xs = [] ∧ t = l := by
  have h' : some (([] : List (List Int)), l) = some (xs, t) := h
  have e := Prod.mk.inj (Option.some.inj h')
  exact ⟨e.1.symm, e.2.symm⟩
theorem shape_cases {p : Int} {n k : Nat} (h : PyRc57.shape p = some (n, k)) : ∃ c : Nat, c ≤ 8 ∧ p = (c : Int) ∧ n = (if c = 0 ∨ c = 5 ∨ c = 7 then 0 else 1) ∧ k = (if 2 ≤ c ∧ c ≤ 7 then 1 else 0) := by
  have go : ∀ (c : Nat), c ≤ 8 → p = (c : Int) → ∃ c : Nat, c ≤ 8 ∧ p = (c : Int) ∧ n = (if c = 0 ∨ c = 5 ∨ c = 7 then 0 else 1) ∧ k = (if 2 ≤ c ∧ c ≤ 7 then 1 else 0) := by
    intro c hc e
    refine ⟨c, hc, e, ?_⟩
    subst e
    have all9 : ∀ c : Fin 9, PyRc57.shape ((c.1 : Nat) : Int) = some ((if c.1 = 0 ∨ c.1 = 5 ∨ c.1 = 7 then 0 else 1), (if 2 ≤ c.1 ∧ c.1 ≤ 7 then 1 else 0)) := by decide +kernel
    have := all9 ⟨c, by omega⟩
    simp only at this
    rw [this] at h
    have e := Prod.mk.inj (Option.some.inj h)
    exact ⟨e.1.symm, e.2.symm⟩
  by_cases c : 0 ≤ p ∧ p ≤ 8
  · exact go p.toNat (by omega) (by omega)
  · exfalso
    unfold PyRc57.shape at h
    rw [if_neg (by omega), if_neg (by omega), if_neg (by omega), if_neg (by omega), if_neg (by omega), if_neg (by omega), if_neg (by omega), if_neg (by omega), if_neg (by omega)] at h
    cases h
/-- a call as it's read -/
def rawM (c : Nat) (first : Int) (row : List Int) : List (List Int) :=
  (if c = 0 ∨ c = 5 ∨ c = 7 then [(c : Int)] else [(c : Int), first]) :: (if 2 ≤ c ∧ c ≤ 7 then [row] else [])
theorem call_some {p : Int} {r t : List Int} {c : List (List Int)} (h : PyFlat.call PyRc57.shape (p :: r) = some (c, t)) :
    ∃ (cn : Nat) (first : Int) (row : List Int), cn ≤ 8 ∧ p = (cn : Int) ∧ Rds cn r first row t ∧ c = rawM cn first row := by
  unfold PyFlat.call at h
  simp only at h
  cases e : PyRc57.shape p with
  | none =>
    rw [e] at h
    cases h
  | some nk =>
    obtain ⟨n, k⟩ := nk
    rw [e] at h
    simp only at h
    obtain ⟨cn, h8, hp, hn, hk⟩ := shape_cases e
    by_cases d : r.length < n
    · rw [if_pos d] at h
      cases h
    rw [if_neg d] at h
    cases e2 : PyFlat.rows k (r.drop n) with
    | none =>
      rw [e2] at h
      cases h
    | some q =>
      obtain ⟨xs, s⟩ := q
      rw [e2] at h
      have h' : some ((p :: r.take n) :: xs, s) = some (c, t) := h
      have e3 := Prod.mk.inj (Option.some.inj h')
      obtain ⟨ec, et⟩ := e3
      subst et
      -- the number
      have first : ∃ f r1, (if cn = 0 ∨ cn = 5 ∨ cn = 7 then f = 0 ∧ r1 = r else r = f :: r1) ∧ r.drop n = r1 ∧ (p :: r.take n) = (if cn = 0 ∨ cn = 5 ∨ cn = 7 then [(cn : Int)] else [(cn : Int), f]) := by
        by_cases z : cn = 0 ∨ cn = 5 ∨ cn = 7
        · rw [if_pos z] at hn
          subst hn
          refine ⟨0, r, ?_, rfl, ?_⟩
          · rw [if_pos z]
            exact ⟨rfl, rfl⟩
          · rw [if_pos z, hp]
            rfl
        · rw [if_neg z] at hn
          subst hn
          cases r with
          | nil => exact absurd (show ([] : List Int).length < 1 by decide) d
          | cons f r1 =>
            refine ⟨f, r1, ?_, rfl, ?_⟩
            · rw [if_neg z]
            · rw [if_neg z, hp]
              rfl
      obtain ⟨f, r1, hf1, hf2, hf3⟩ := first
      rw [hf2] at e2
      by_cases z : 2 ≤ cn ∧ cn ≤ 7
      · rw [if_pos z] at hk
        subst hk
        obtain ⟨x, hx, hr⟩ := rows_one e2
        refine ⟨cn, f, x, h8, hp, ⟨r1, hf1, ?_⟩, ?_⟩
        · rw [if_pos z]
          exact hr
        · unfold rawM
          rw [if_pos z, ← ec, hf3, hx]
      · rw [if_neg z] at hk
        subst hk
        obtain ⟨hx, hr⟩ := rows_zero e2
        refine ⟨cn, f, [], h8, hp, ⟨r1, hf1, ?_⟩, ?_⟩
        · rw [if_neg z]
          exact ⟨rfl, hr⟩
        · unfold rawM
          rw [if_neg z, ← ec, hf3, hx]
theorem calls_nil {f : Nat} {raw : List (List (List Int))} (h : PyFlat.calls PyRc57.shape f [] = some raw) : raw = [] := by
  cases f <;> exact (Option.some.inj h).symm
theorem calls_cons {f : Nat} {p : Int} {r : List Int} {raw : List (List (List Int))} (h : PyFlat.calls PyRc57.shape f (p :: r) = some raw) :
    ∃ f' c t cs, PyFlat.call PyRc57.shape (p :: r) = some (c, t) ∧ PyFlat.calls PyRc57.shape f' t = some cs ∧ raw = c :: cs := by
  cases f with
  | zero => cases h
  | succ f =>
    unfold PyFlat.calls at h
    cases e : PyFlat.call PyRc57.shape (p :: r) with
    | none =>
      rw [e] at h
      cases h
    | some q =>
      obtain ⟨c, t⟩ := q
      rw [e] at h
      simp only at h
      cases e2 : PyFlat.calls PyRc57.shape f t with
      | none =>
        rw [e2] at h
        cases h
      | some cs =>
        rw [e2] at h
        exact ⟨f, c, t, cs, rfl, e2, (Option.some.inj h).symm⟩
theorem long_le {l : List Int} {hi : Int} (h0 : 0 ≤ hi) (h : Rc57Neutral.long l (l.length : Int) 1 hi = true) : (l.length : Int) ≤ hi := by
  unfold Rc57Neutral.long at h
  have h := of_decide_eq_true h
  by_cases c : 1 ≤ (l.length : Int) ∧ (l.length : Int) ≤ hi
  · exact c.2
  · rw [if_neg c] at h
    omega
theorem nat8 {l : List Int} (h : (l.all fun (z : Int) => Rc57Neutral.natural z 8) = true) : ∀ x ∈ l, 0 ≤ x := fun x hx => by
  have := List.all_eq_true.mp h x hx
  unfold Rc57Neutral.natural at this
  rw [Bool.and_eq_true] at this
  exact of_decide_eq_true this.1
theorem natsOf_back {l : List Int} (h : ∀ x ∈ l, 0 ≤ x) : (Rc57Neutral.natsOf l).map (fun (x : Nat) => (x : Int)) = l := by
  unfold Rc57Neutral.natsOf
  rw [List.map_map]
  have : l.map ((fun (x : Nat) => (x : Int)) ∘ Int.toNat) = l.map id := List.map_congr_left fun x hx => Int.toNat_of_nonneg (h x hx)
  rw [this, List.map_id]
/-- what's asked of a call, and what it is to the specification -/
theorem asked_call {c : Nat} (hc : c ≤ 8) {first : Int} {row : List Int} (h : Rc57Neutral.asked1 (PyRc57.whole (rawM c first row)) = true) (hr : ¬ (2 ≤ c ∧ c ≤ 7) → row = []) :
    row.length < 64 ∧ (∀ x ∈ row, 0 ≤ x) ∧ (c = 1 → first ≤ 5 ∨ 16 < first) ∧ Rc57Neutral.callOf (PyRc57.whole (rawM c first row)) = some (callM c first (Rc57Neutral.natsOf row)) := by
  have nl : ((Rc57Neutral.natsOf row).length : Int) = (row.length : Int) := by
    unfold Rc57Neutral.natsOf
    rw [List.length_map]
  have none_ : row = [] → row.length < 64 ∧ (∀ x ∈ row, 0 ≤ x) := fun e => by
    subst e
    exact ⟨by decide, fun x hx => absurd hx (by simp)⟩
  by_cases c0 : c = 0
  · subst c0
    obtain ⟨a, b⟩ := none_ (hr (by omega))
    exact ⟨a, b, fun z => absurd z (by decide), rfl⟩
  by_cases c1 : c = 1
  · subst c1
    obtain ⟨a, b⟩ := none_ (hr (by omega))
    refine ⟨a, b, fun _ => ?_, rfl⟩
    have h' : (Rc57Neutral.whole32 first && (decide (first ≤ 5) || decide (16 < first))) = true := h
    rw [Bool.and_eq_true, Bool.or_eq_true] at h'
    rcases h'.2 with z | z
    · exact .inl (of_decide_eq_true z)
    · exact .inr (of_decide_eq_true z)
  by_cases c8 : c = 8
  · subst c8
    obtain ⟨a, b⟩ := none_ (hr (by omega))
    exact ⟨a, b, fun z => absurd z (by decide), rfl⟩
  have fin : (row.all fun (z : Int) => Rc57Neutral.natural z 8) = true → (∃ hi : Int, 0 ≤ hi ∧ hi ≤ 32 ∧ Rc57Neutral.long row (row.length : Int) 1 hi = true) → row.length < 64 ∧ (∀ x ∈ row, 0 ≤ x) := fun h1 ⟨hi, h2, h3, h4⟩ => by
    have := long_le h2 h4
    exact ⟨by omega, nat8 h1⟩
  by_cases c2 : c = 2
  · subst c2
    have h' : (Rc57Neutral.whole32 first && (((row.all fun (z : Int) => Rc57Neutral.natural z 8) && Rc57Neutral.long row (row.length : Int) 1 16) && Rc57Neutral.whole32 (row.length : Int))) = true := h
    rw [Bool.and_eq_true, Bool.and_eq_true, Bool.and_eq_true] at h'
    obtain ⟨a, b⟩ := fin h'.2.1.1 ⟨16, by decide, by decide, h'.2.1.2⟩
    refine ⟨a, b, fun z => absurd z (by decide), ?_⟩
    show some (Rc57.Call.wish (Rc57Neutral.natsOf row) (row.length : Int) first) = some (Rc57.Call.wish (Rc57Neutral.natsOf row) ((Rc57Neutral.natsOf row).length : Int) first)
    rw [nl]
  by_cases c3 : c = 3
  · subst c3
    have h' : (((row.all fun (z : Int) => Rc57Neutral.natural z 8) && Rc57Neutral.long row (row.length : Int) 1 16) && (Rc57Neutral.whole32 (row.length : Int) && Rc57Neutral.whole32 first)) = true := h
    rw [Bool.and_eq_true, Bool.and_eq_true] at h'
    obtain ⟨a, b⟩ := fin h'.1.1 ⟨16, by decide, by decide, h'.1.2⟩
    refine ⟨a, b, fun z => absurd z (by decide), ?_⟩
    show some (Rc57.Call.trade (Rc57Neutral.natsOf row) (row.length : Int) first) = some (Rc57.Call.trade (Rc57Neutral.natsOf row) ((Rc57Neutral.natsOf row).length : Int) first)
    rw [nl]
  by_cases c4 : c = 4
  · subst c4
    have h' : (((row.all fun (z : Int) => Rc57Neutral.natural z 8) && Rc57Neutral.long row (row.length : Int) 1 16) && (Rc57Neutral.whole32 (row.length : Int) && Rc57Neutral.whole32 first)) = true := h
    rw [Bool.and_eq_true, Bool.and_eq_true] at h'
    obtain ⟨a, b⟩ := fin h'.1.1 ⟨16, by decide, by decide, h'.1.2⟩
    refine ⟨a, b, fun z => absurd z (by decide), ?_⟩
    show some (Rc57.Call.turns (Rc57Neutral.natsOf row) (row.length : Int) first) = some (Rc57.Call.turns (Rc57Neutral.natsOf row) ((Rc57Neutral.natsOf row).length : Int) first)
    rw [nl]
  by_cases c5 : c = 5
  · subst c5
    have h' : (((row.all fun (z : Int) => Rc57Neutral.natural z 8) && Rc57Neutral.long row (row.length : Int) 1 16) && (Rc57Neutral.whole32 (row.length : Int))) = true := h
    rw [Bool.and_eq_true, Bool.and_eq_true] at h'
    obtain ⟨a, b⟩ := fin h'.1.1 ⟨16, by decide, by decide, h'.1.2⟩
    refine ⟨a, b, fun z => absurd z (by decide), ?_⟩
    show some (Rc57.Call.good (Rc57Neutral.natsOf row) (row.length : Int)) = some (Rc57.Call.good (Rc57Neutral.natsOf row) ((Rc57Neutral.natsOf row).length : Int))
    rw [nl]
  by_cases c6 : c = 6
  · subst c6
    have h' : (((row.all fun (z : Int) => Rc57Neutral.natural z 8) && Rc57Neutral.long row (row.length : Int) 1 16) && (Rc57Neutral.whole32 (row.length : Int) && Rc57Neutral.whole32 first)) = true := h
    rw [Bool.and_eq_true, Bool.and_eq_true] at h'
    obtain ⟨a, b⟩ := fin h'.1.1 ⟨16, by decide, by decide, h'.1.2⟩
    refine ⟨a, b, fun z => absurd z (by decide), ?_⟩
    show some (Rc57.Call.order (Rc57Neutral.natsOf row) (row.length : Int) first) = some (Rc57.Call.order (Rc57Neutral.natsOf row) ((Rc57Neutral.natsOf row).length : Int) first)
    rw [nl]
  have c7 : c = 7 := by omega
  subst c7
  have h' : (((row.all fun (z : Int) => Rc57Neutral.natural z 8) && Rc57Neutral.long row (row.length : Int) 1 32) && (Rc57Neutral.whole32 (row.length : Int))) = true := h
  rw [Bool.and_eq_true, Bool.and_eq_true] at h'
  obtain ⟨a, b⟩ := fin h'.1.1 ⟨32, by decide, by decide, h'.1.2⟩
  refine ⟨a, b, fun z => absurd z (by decide), ?_⟩
  show some (Rc57.Call.group (Rc57Neutral.natsOf row) (row.length : Int)) = some (Rc57.Call.group (Rc57Neutral.natsOf row) ((Rc57Neutral.natsOf row).length : Int))
  rw [nl]

/-! ### what's told of the calls that are left -/
def outM (s : Rc57.Abs) (raw : List (List (List Int))) : List Int := PyFlat.told (PyFlat.played Rc57Neutral.step s (raw.map PyRc57.whole))
def ansI (a : Rc57.Ans) : List Int := a.value :: a.numbers.map fun (b : Nat) => (b : Int)
theorem outM_nil (s : Rc57.Abs) : outM s [] = [] := rfl
theorem outM_cons (s : Rc57.Abs) {c : List (List Int)} {k : Rc57.Call} (h : Rc57Neutral.callOf (PyRc57.whole c) = some k) (cs : List (List (List Int))) :
    outM s (c :: cs) = ((ansI (Rc57.does s k).2).length : Int) :: (ansI (Rc57.does s k).2 ++ outM (Rc57.does s k).1 cs) := by
  have e : Rc57Neutral.step s (PyRc57.whole c) = ((Rc57.does s k).1, ansI (Rc57.does s k).2) := by
    unfold Rc57Neutral.step
    rw [h]
    rfl
  unfold outM
  rw [List.map_cons]
  show PyFlat.told ((Rc57Neutral.step s (PyRc57.whole c)).2 :: PyFlat.played Rc57Neutral.step (Rc57Neutral.step s (PyRc57.whole c)).1 (cs.map PyRc57.whole)) = _
  rw [e]
  unfold PyFlat.told
  rw [List.flatMap_cons]
  rfl
theorem ansV_is (a : Rc57.Ans) : ansV a = (ansI a).map L2.V.int := by
  unfold ansV ansI
  rw [nV_ints, List.map_cons]
theorem asked_parts {l : List Int} (h : PyRc57.answers_asked l = true) : ∃ raw, PyFlat.calls PyRc57.shape l.length l = some raw ∧ (∀ c ∈ raw, Rc57Neutral.asked1 (PyRc57.whole c) = true) ∧ outM {} raw = PyRc57.answers l ∧ (PyRc57.answers l).length ≤ 10000000 := by
  unfold PyRc57.answers_asked at h
  cases e : PyFlat.calls PyRc57.shape l.length l with
  | none =>
    rw [e] at h
    cases h
  | some raw =>
    rw [e] at h
    have h' : (PyFlat.atMost 400 raw && PyInside.calls PyRc57.bound raw && Rc57Neutral.asked (raw.map PyRc57.whole) && PyFlat.short 10000000 (PyRc57.answers l)) = true := h
    rw [Bool.and_eq_true, Bool.and_eq_true] at h'
    obtain ⟨⟨_, h2⟩, h3⟩ := h'
    refine ⟨raw, rfl, fun c hc => ?_, ?_, of_decide_eq_true h3⟩
    · unfold Rc57Neutral.asked at h2
      rw [Bool.and_eq_true, Bool.and_eq_true] at h2
      exact List.all_eq_true.mp h2.1.1 _ (List.mem_map_of_mem hc)
    · unfold PyRc57.answers PyRc57.calls
      rw [e]
      rfl
end Wg

/-! giving.py: answers -/
namespace Wg
open PySem PySem.Spec PyProof.Rows L2

/-- a class that may be called -/
structure KCal (P : Program) (w : World) (K : PySem.W.Frag) (mg : Str → Option Value) (base : Heap) (x : Str) (C : Addr) (k : Nat) (ps : List Str) (sp : Sp) : Prop where
  ex : ∃ (f : Addr) (fd : FuncData), mg x = some (.ref C) ∧ Mk K C f ∧ Binds K fd ps [] ∧ FnOk P w K mg base CX0 k f fd ps sp
section
variable {X : Cx} {k : Nat} {ps : List Str} {sp : Sp} {x : Str} {p pos : Pos} {e : Expr} {es : List Expr} {t : TA} {C : Addr}
theorem pe_kcal (c : KCal X.prog X.w X.K X.mg X.base x C k ps sp) (hr : Room (k + 1) X.A) (hg : Gl X x) (ha : PA X (e :: es) t)
    (hdb : (x == ("__debug__" : Str)) = false := by decide) (he : starEach (e :: es) X.env = (false, eval e X.env) :: starEach es X.env := by rfl) (hpl : (backTo pos (starEach es X.env)).any (·.1) = false := by rfl) :
    PE X (.Call (.Name x p) (e :: es) [] pos) (tMake C sp [] E0 t) := by
  obtain ⟨f, fd, h1, h2, h3, h4⟩ := c.ex
  exact pe_make h2 h4 hr hg h1 h3 .nil pass0 ha hdb he hpl
theorem pe_kcal0 (c : KCal X.prog X.w X.K X.mg X.base x C k ps sp) (hr : Room (k + 1) X.A) (hg : Gl X x)
    (hdb : (x == ("__debug__" : Str)) = false := by decide) : PE X (.Call (.Name x p) [] [] pos) (tMake C sp [] E0 tNil) := by
  obtain ⟨f, fd, h1, h2, h3, h4⟩ := c.ex
  exact pe_make0 h2 h4 hr hg h1 h3 .nil pass0 hdb
end

section
variable {P : Program} {w : World} {K : PySem.W.Frag} {mg : Str → Option Value} {base : Heap} {CF CC : Addr}

abbrev sAnswers : Stmt := top 54
theorem scAnswers : FnScope ["calls", "reader", "folk", "found", "told"] ["calls"] (defScope sAnswers) := ⟨rfl, rfl, rfl, by decide +kernel, rfl, by decide +kernel, by decide +kernel⟩
def spAnswers (K : PySem.W.Frag) : Sp := fun vs H Q _ => ∃ (a : Addr) (xs : List Int), vs = [.ref a] ∧ SqL K H a (xs.map V.int) ∧ PyRc57.answers_asked xs = true ∧
  ∀ H' r, H' r = some (.lst ((PyRc57.answers xs).map V.int)) → Q (.ref r) H'
theorem ok_answers {f : Addr} {fd : FuncData} (F : Fun K "answers" "answers" sAnswers f fd) (TF : FTxt K CF) (TC : CTxt K CC) (B : Bl mg) (C1 : KCal P w K mg base "Calls" CC 1 ["self", "numbers"] (spCInit CC)) (C2 : KCal P w K mg base "Folk" CF 1 ["self"] (spFInit CF))
    (C3 : MCal P w K mg base CC "more" 1 ["self"] (spMore CC)) (C4 : MCal P w K mg base CC "one" 1 ["self"] (spOne CC)) (C5 : Cal P w K mg base "answer" 8 ["folk", "call", "calls"] (spAnswer CF CC)) : FnOk P w K mg base CX0 9 f fd ["calls"] (spAnswers K) := by
  refine F.ok scAnswers (fun vs H Q E h => ?_) (fun cdv A outer s H vs Q E hr h => ?_)
  · obtain ⟨a, xs, rfl, _⟩ := h
    rfl
  · obtain ⟨a, xs, rfl, ha, hask, q⟩ := h
    have hr1 : Room 1 _ := hr.mono (by decide)
    have hr2 : Room 2 _ := hr.mono (by decide)
    refine ⟨_, pss_cons (ps_set (i := 1) scAnswers.nd rfl (.inl rfl) (pe_kcal C1 hr2 (by rfl) (pa_cons (pe_callTy call_list_of (by rfl) B.list boot_list (pa_cons (pv 0) pa_nil)) pa_nil)))
      (pss_cons (ps_set (i := 2) scAnswers.nd rfl (.inl rfl) (pe_kcal0 C2 hr2 (by rfl)))
      (pss_cons (ps_set (i := 3) scAnswers.nd rfl (.inl rfl) (pe_lst pa_nil))
      (pss_cons (ps_while PassesOwn.never (pt_val (pe_mcal0 C3 hr1 TC.cl (pv 1)))
        (pss_cons (ps_set (i := 4) scAnswers.nd rfl (.inl rfl) (pe_cal C5 hr (by rfl) (pa_cons (pv 2) (pa_cons (pe_mcal0 C4 hr1 TC.cl (pv 1)) (pa_cons (pv 1) pa_nil)))))
        (pss_cons (ps_expr (pe_bm PySem.F.plainAttrs_list PySem.F.slot_list_append PySem.F.type_list_append mt_append (pv 3) (pa_cons (pe_callB call_len_seq (by rfl) B.len PySem.boot_len (pa_cons (pv 4) pa_nil)) pa_nil)))
        (pss_one (ps_expr (pe_bm PySem.F.plainAttrs_list PySem.F.slot_list_extend PySem.F.type_list_extend mt_extend (pv 3) (pa_cons (pv 4) pa_nil)))))))
      (pss_one (ps_ret (pv 3)))))), ?_⟩
    obtain ⟨raw, hcalls, hasked, hout, hshort⟩ := asked_parts hask
    refine ⟨_, rfl, a, _, rfl, .inl ha, fun nl nnl => ?_⟩
    have s1 : Same H (upd H nl (.lst (xs.map V.int))) := same_upd nnl
    have hnl1 : (upd H nl (.lst (xs.map V.int))) nl = some (.lst (xs.map V.int)) := upd_same
    generalize upd H nl (.lst (xs.map V.int)) = H1 at *
    intro rd drd nrd ndrd ndr
    refine ⟨rd, nl, drd, rfl, upd_same, fun H2 x2 hrd2 => ⟨rfl, ?_⟩⟩
    have nnr : nl ≠ rd := ne_of_none hnl1 nrd
    have nnd : nl ≠ drd := ne_of_none hnl1 ndrd
    have hnl2 : H2 nl = some (.lst (xs.map V.int)) := x2 _ _ (by rw [upd_ne nnr, upd_ne nnd]; exact hnl1) nnr
    clear x2 hnl1 s1 ha nnd
    intro p dp np ndp ndpp
    have s3 : Same H2 (upd (upd H2 dp (.own p)) p (.ins CF dp [])) := fun b o e => by
      rw [upd_ne (ne_of_none e np), upd_ne (ne_of_none e ndp)]
      exact e
    refine ⟨p, dp, rfl, upd_same, fun H3 wa fr3 nwa hwa hF => ⟨rfl, ?_⟩⟩
    obtain ⟨drd, hrd2⟩ := hrd2
    have nrp : rd ≠ p := ne_of_none hrd2 np
    have nnp : nl ≠ p := ne_of_none hnl2 np
    have hrd3 : H3 rd = some (.ins CC drd (cF nl ((0 : Nat) : Int))) := fr3 _ _ (s3 _ _ hrd2) nrp
    have hnl3 := fr3 _ _ (s3 _ _ hnl2) nnp
    have nnw : nl ≠ wa := ne_of_none (s3 _ _ hnl2) nwa
    refine ⟨Nat.zero_le _, fun fo nfo => ?_⟩
    have s4 : Same H3 (upd H3 fo (.lst [])) := same_upd nfo
    have hfo4 : (upd H3 fo (.lst [])) fo = some (.lst []) := upd_same
    have hrd4 := s4 _ _ hrd3
    have hnl4 := s4 _ _ hnl3
    have hwa4 := s4 _ _ hwa
    have hF4 := hF.same s4
    have nfw : fo ≠ wa := (ne_of_none hwa nfo).symm
    have nfn : fo ≠ nl := (ne_of_none hnl3 nfo).symm
    clear s3 fr3 nwa hwa hF hrd3 hnl3 nfo s4 hrd2 hnl2 np ndp nrd ndrd
    generalize upd H3 fo (.lst []) = H4 at *
    refine ⟨fun m σ H' => ∃ (wa : Addr) (rs : List Addr) (s : Rc57.Abs) (k f : Nat) (raw : List (List (List Int))) (told : List Int) (v4 : Option V), σ = [some (.ref a), some (.ref rd), some (.ref p), some (.ref fo), v4] ∧ m = raw.length ∧
        FolkAt CF H' p wa ∧ H' wa = some (.lst (rs.map V.ref)) ∧ RowsAt H' rs s.wishes ∧ (∀ x ∈ rs, x ≠ wa ∧ x ≠ fo) ∧ GdS s ∧ CallsAt CC H' rd nl k ∧ H' nl = some (.lst (xs.map V.int)) ∧ nl ≠ wa ∧ H' fo = some (.lst (told.map V.int)) ∧ fo ≠ wa ∧
        PyFlat.calls PyRc57.shape f (xs.drop k) = some raw ∧ (∀ c ∈ raw, Rc57Neutral.asked1 (PyRc57.whole c) = true) ∧ told ++ outM s raw = PyRc57.answers xs,
      ⟨raw.length, wa, [], {}, 0, xs.length, raw, [], none, rfl, rfl, hF4, hwa4, trivial, fun x hx => absurd hx (by simp), GdS.start, ⟨drd, hrd4⟩, hnl4, nnw, hfo4, nfw, hcalls, hasked, hout⟩, ?_⟩
    clear hF4 hwa4 hrd4 hnl4 nnw hfo4 nfw hcalls hasked hout
    rintro m σ H5 ⟨wa, rs, s, k, f, raw, told, v4, rfl, rfl, ⟨dp, hp⟩, hwa, hrs, nrs, gs, ⟨drd, hrd⟩, hnl, nnw, hfo, nfw, hcalls, hasked, hout⟩
    refine ⟨_, rfl, rd, drd, _, rfl, hrd, cF_no _ _ (by decide +kernel) (by decide +kernel), rd, nl, k, _, rfl, ⟨drd, hrd⟩, hnl, _, rfl, ?_⟩
    rw [List.length_map]
    by_cases hk : k < xs.length
    · rw [decide_eq_true hk]
      obtain ⟨c0, r0, hd0⟩ : ∃ c0 r0, xs.drop k = c0 :: r0 := ⟨_, _, List.drop_eq_getElem_cons hk⟩
      rw [hd0] at hcalls
      obtain ⟨f', c, t, cs, hc1, hc2, rfl⟩ := calls_cons hcalls
      obtain ⟨cn, first, row, h8, hp0, hR, rfl⟩ := call_some hc1
      have hask1 := hasked _ List.mem_cons_self
      have hrow0 : ¬ (2 ≤ cn ∧ cn ≤ 7) → row = [] := fun z => by
        obtain ⟨r1, _, h2⟩ := hR
        rw [if_neg z] at h2
        exact h2.1
      obtain ⟨hl, hpos, hfirst, hcall⟩ := asked_call h8 hask1 hrow0
      rw [outM_cons s hcall cs] at hout
      have gs' := gs.next cn h8 first (Rc57Neutral.natsOf row) hfirst
      have hback := natsOf_back hpos
      have hll : (Rc57Neutral.natsOf row).length < 64 := by
        unfold Rc57Neutral.natsOf
        rw [List.length_map]
        exact hl
      refine iteT ⟨fun σ' H' => ∃ (wa : Addr) (rs : List Addr) (s : Rc57.Abs) (k f : Nat) (told : List Int) (v4 : Option V), σ' = [some (.ref a), some (.ref rd), some (.ref p), some (.ref fo), v4] ∧
        FolkAt CF H' p wa ∧ H' wa = some (.lst (rs.map V.ref)) ∧ RowsAt H' rs s.wishes ∧ (∀ x ∈ rs, x ≠ wa ∧ x ≠ fo) ∧ GdS s ∧ CallsAt CC H' rd nl k ∧ H' nl = some (.lst (xs.map V.int)) ∧ nl ≠ wa ∧ H' fo = some (.lst (told.map V.int)) ∧ fo ≠ wa ∧
        PyFlat.calls PyRc57.shape f (xs.drop k) = some cs ∧ told ++ outM s cs = PyRc57.answers xs,
        fun σ' H' ⟨wa, rs, s, k, f, told, v4, e1, e2, e3, e4, e5, e6, e7, e8, e9, e10, e11, e12, e13⟩ => ⟨cs.length, by rw [List.length_cons]; omega, wa, rs, s, k, f, cs, told, v4, e1, rfl, e2, e3, e4, e5, e6, e7, e8, e9, e10, e11, e12, fun c hc => hasked c (List.mem_cons_of_mem _ hc), e13⟩, ?_⟩
      generalize hdo : Rc57.does s (callM cn first (Rc57Neutral.natsOf row)) = y at *
      refine ⟨_, rfl, _, rfl, rd, drd, _, rfl, hrd, cF_no _ _ (by decide +kernel) (by decide +kernel), rd, nl, k, xs, r0, c0, rfl, ⟨drd, hrd⟩, hnl, hd0, fun H6 x6 hrd6 => ?_⟩
      have npr : p ≠ rd := ne_of hp hrd (by
        intro z
        have := (HO.ins.inj z).2.2
        cases this)
      have nwr : wa ≠ rd := ne_of hwa hrd (by intro z; cases z)
      have nnr : nl ≠ rd := ne_of hnl hrd (by intro z; cases z)
      have nfr : fo ≠ rd := ne_of hfo hrd (by intro z; cases z)
      have nfp : fo ≠ p := ne_of hfo hp (by intro z; cases z)
      have nnp : nl ≠ p := ne_of hnl hp (by intro z; cases z)
      have hp6 := x6 _ _ hp npr
      have hwa6 := x6 _ _ hwa nwr
      have hnl6 := x6 _ _ hnl nnr
      have hfo6 := x6 _ _ hfo nfr
      have hrs6 : RowsAt H6 rs s.wishes := RowsAt.keep (fun x hx o ho => x6 _ _ ho (fun z => by
        obtain ⟨_, _, h1⟩ := hrs.mem hx
        rw [z, hrd] at h1
        cases h1)) hrs
      have hd1 := (drop_head hd0).2.2
      refine ⟨_, rfl, p, wa, rd, nl, rs, s, k + 1, cn, xs, first, Rc57Neutral.natsOf row, t, by rw [hp0]; rfl, ⟨dp, hp6⟩, hwa6, hrs6, fun x hx => (nrs x hx).1, gs, hrd6, hnl6, h8, by rw [hd1, hback]; exact hR, hll, hfirst,
        fun H7 wa' rs' k' r fr hF7 hwa7 hrs7 nrs7 hw7 hx7 hrd7 hk7 nr hr7 nrw => ?_⟩
      rw [hdo] at hrs7 hr7
      have hfo7 : H7 fo = some (.lst (told.map V.int)) := fr _ _ hfo6 nfp nfr nfw
      have hnl7 : H7 nl = some (.lst (xs.map V.int)) := fr _ _ hnl6 nnp nnr nnw
      have nfw7 : fo ≠ wa' := by
        rcases hw7 with z | z
        · rw [z]
          exact nfw
        · exact ne_of_none hfo6 z
      have nnw7 : nl ≠ wa' := by
        rcases hw7 with z | z
        · rw [z]
          exact nnw
        · exact ne_of_none hnl6 z
      have nfr7 : fo ≠ r := ne_of_none hfo6 nr
      have nfx7 : ∀ x ∈ rs', x ≠ fo := fun x hx => by
        rcases hx7 x hx with z | z
        · exact (nrs x z).2
        · exact (ne_of_none hfo6 z).symm
      rw [ansV_is] at hr7
      generalize ansI y.2 = av at *
      have htot : told.length + (1 + (av.length + (outM y.1 cs).length)) ≤ 10000000 := by
        rw [← hout, List.length_append, List.length_cons, List.length_append] at hshort
        omega
      refine ⟨_, rfl, .inl ⟨rfl, _, SqL.of hfo7⟩, _, rfl, r, _, rfl, .inl (SqL.of hr7), fo, _, _, rfl, rfl, hfo7, ?_, ?_⟩
      · rw [List.length_map, sizeLine_eq]
        omega
      have hfo8 : (upd H7 fo (.lst (told.map V.int ++ [.int ((av.map V.int).length : Int)]))) fo = some (.lst (told.map V.int ++ [.int ((av.map V.int).length : Int)])) := upd_same
      have hr8 : (upd H7 fo (.lst (told.map V.int ++ [.int ((av.map V.int).length : Int)]))) r = some (.lst (av.map V.int)) := by
        rw [upd_ne nfr7.symm]
        exact hr7
      refine ⟨_, rfl, .inl ⟨rfl, _, SqL.of hfo8⟩, _, rfl, fo, r, _, _, rfl, rfl, hfo8, hr8, ?_, ?_⟩
      · rw [List.length_append, List.length_map, List.length_map, sizeLine_eq]
        show told.length + 1 + av.length ≤ 16777216
        omega
      have keep : ∀ {b : Addr} {o : HO} {ys zs : List V}, H7 b = some o → b ≠ fo → (upd (upd H7 fo (.lst ys)) fo (.lst zs)) b = some o := fun e d => by
        rw [upd_ne d, upd_ne d]
        exact e
      obtain ⟨dp7, hp7⟩ := hF7
      obtain ⟨drd7, hrd7⟩ := hrd7
      refine ⟨wa', rs', y.1, k', f', told ++ ((av.length : Int) :: av), _, rfl, ⟨dp7, keep hp7 nfp.symm⟩, keep hwa7 nfw7.symm, RowsAt.keep (fun x hx o ho => keep ho (nfx7 x hx)) hrs7, fun x hx => ⟨nrs7 x hx, nfx7 x hx⟩, gs', ⟨drd7, keep hrd7 nfr.symm⟩, keep hnl7 nfn.symm, nnw7, ?_, nfw7, by rw [hk7]; exact hc2, ?_⟩
      · rw [upd_same, List.map_append, List.map_cons, List.append_assoc, List.length_map]
        rfl
      · rw [← hout, List.append_assoc]
        rfl
    · rw [decide_eq_false hk]
      rw [List.drop_eq_nil_of_le (by omega)] at hcalls
      have e0 := calls_nil hcalls
      subst e0
      refine iteF ⟨_, rfl, q H5 fo ?_⟩
      rw [outM_nil, List.append_nil] at hout
      rw [← hout]
      exact hfo
end
end Wg

/-! What the top has written; the end. (Printed by gen14.py.) -/
namespace Wg
open PySem PySem.Spec PyProof.Rows L2
/-- a def of the text stands at f -/
structure DefAt (K : PySem.W.Frag) (x qual : Str) (st : Stmt) (f : Addr) : Prop where
  ex : ∃ fd, Fun K x qual st f fd
theorem defAt_mk {K : PySem.W.Frag} {x qual : Str} {st : Stmt} {f : Addr} {oc : Value} {od an : Option Addr} {osl : Array (Option Value)} {kV doc pm cdv ct : Value} (l : K.lookup f = some ⟨oc, od, .func (PySem.W.fnOf x qual (defArgs st) (defBody st) (defScope st) .none kV doc pm an cdv ct), osl⟩)
    (c : PySem.W.codeIn K cdv qual = true) (k : PySem.W.keepIn K (.ref f) = true) : DefAt K x qual st f := ⟨⟨_, fun_mk l c k⟩⟩
theorem tup_at {K : PySem.W.Frag} {a : Addr} {od : Option Addr} {x y n : Nat} {t u : Tok} {sl : Array (Option Value)} (h : K.lookup a = some ⟨.type "tuple", od, .seq #[.int (x : Int) t, .int (y : Int) u] n, sl⟩) : ∀ H, TF K H a (x, y) := fun H =>
  .inr ⟨_, _, _, h, rfl, rfl, (by show 2 ≤ sizeLine; decide), .cons ⟨t, rfl⟩ (.cons ⟨u, rfl⟩ .nil)⟩
theorem all_mk {P : Program} {w : World} {K : PySem.W.Frag} {h : Heap} {mg : Str → Option Value} {fa CF CC nA wA : Addr} (X : K.In h) (G : h.Ns mainGlobals mg) (hfa : mg "answers" = some (.ref fa))
    {f_divisor f_part f_plus f_minus f_times f_over f_is_less f_eaten_by f_till_one_goes f_eaten_shares f_orders f_is_order f_dearness f_dearest f_suits f_is_good f_in_turn f_first_order f_people_in f_handed_round f_does_better f_least_group f_looked_at f_ring_of f_exchanged f_room_for f_asked f_answer f_answers f_F___init__ f_F_begin f_F_people f_F_is_gift f_F_wish f_F_refusal f_F_fits f_F_trade f_F_turns f_F_good f_F_order f_F_group f_F_eat f_C___init__ f_C_more f_C_one f_C_row : Addr}
    {t_NOT_SO t_TOO_MANY t_NO_WISHES t_NOBODY t_MOST_PEOPLE t_MOST_EATERS t_MOST_SHARES t_BEGIN t_PEOPLE t_WISH t_TRADE t_TURNS t_GOOD t_ORDER t_GROUP : Tok}
    (a_divisor : PySem.W.nsIn K mainGlobals "divisor" = some (some (.ref f_divisor))) (d_divisor : DefAt K "divisor" "divisor" sDivisor f_divisor) (k_divisor : PySem.W.keepIn K (.ref f_divisor) = true)
    (a_part : PySem.W.nsIn K mainGlobals "part" = some (some (.ref f_part))) (d_part : DefAt K "part" "part" sPart f_part) (k_part : PySem.W.keepIn K (.ref f_part) = true)
    (a_plus : PySem.W.nsIn K mainGlobals "plus" = some (some (.ref f_plus))) (d_plus : DefAt K "plus" "plus" sPlus f_plus) (k_plus : PySem.W.keepIn K (.ref f_plus) = true)
    (a_minus : PySem.W.nsIn K mainGlobals "minus" = some (some (.ref f_minus))) (d_minus : DefAt K "minus" "minus" sMinus f_minus) (k_minus : PySem.W.keepIn K (.ref f_minus) = true)
    (a_times : PySem.W.nsIn K mainGlobals "times" = some (some (.ref f_times))) (d_times : DefAt K "times" "times" sTimes f_times) (k_times : PySem.W.keepIn K (.ref f_times) = true)
    (a_over : PySem.W.nsIn K mainGlobals "over" = some (some (.ref f_over))) (d_over : DefAt K "over" "over" sOver f_over) (k_over : PySem.W.keepIn K (.ref f_over) = true)
    (a_is_less : PySem.W.nsIn K mainGlobals "is_less" = some (some (.ref f_is_less))) (d_is_less : DefAt K "is_less" "is_less" sLess f_is_less) (k_is_less : PySem.W.keepIn K (.ref f_is_less) = true)
    (a_eaten_by : PySem.W.nsIn K mainGlobals "eaten_by" = some (some (.ref f_eaten_by))) (d_eaten_by : DefAt K "eaten_by" "eaten_by" sEatenBy f_eaten_by) (k_eaten_by : PySem.W.keepIn K (.ref f_eaten_by) = true)
    (a_till_one_goes : PySem.W.nsIn K mainGlobals "till_one_goes" = some (some (.ref f_till_one_goes))) (d_till_one_goes : DefAt K "till_one_goes" "till_one_goes" sTill f_till_one_goes) (k_till_one_goes : PySem.W.keepIn K (.ref f_till_one_goes) = true)
    (a_eaten_shares : PySem.W.nsIn K mainGlobals "eaten_shares" = some (some (.ref f_eaten_shares))) (d_eaten_shares : DefAt K "eaten_shares" "eaten_shares" sEatenShares f_eaten_shares) (k_eaten_shares : PySem.W.keepIn K (.ref f_eaten_shares) = true)
    (a_orders : PySem.W.nsIn K mainGlobals "orders" = some (some (.ref f_orders))) (d_orders : DefAt K "orders" "orders" sOrders f_orders) (k_orders : PySem.W.keepIn K (.ref f_orders) = true)
    (a_is_order : PySem.W.nsIn K mainGlobals "is_order" = some (some (.ref f_is_order))) (d_is_order : DefAt K "is_order" "is_order" sIsOrder f_is_order) (k_is_order : PySem.W.keepIn K (.ref f_is_order) = true)
    (a_dearness : PySem.W.nsIn K mainGlobals "dearness" = some (some (.ref f_dearness))) (d_dearness : DefAt K "dearness" "dearness" sDearness f_dearness) (k_dearness : PySem.W.keepIn K (.ref f_dearness) = true)
    (a_dearest : PySem.W.nsIn K mainGlobals "dearest" = some (some (.ref f_dearest))) (d_dearest : DefAt K "dearest" "dearest" sDearest f_dearest) (k_dearest : PySem.W.keepIn K (.ref f_dearest) = true)
    (a_suits : PySem.W.nsIn K mainGlobals "suits" = some (some (.ref f_suits))) (d_suits : DefAt K "suits" "suits" sSuits f_suits) (k_suits : PySem.W.keepIn K (.ref f_suits) = true)
    (a_is_good : PySem.W.nsIn K mainGlobals "is_good" = some (some (.ref f_is_good))) (d_is_good : DefAt K "is_good" "is_good" sIsGood f_is_good) (k_is_good : PySem.W.keepIn K (.ref f_is_good) = true)
    (a_in_turn : PySem.W.nsIn K mainGlobals "in_turn" = some (some (.ref f_in_turn))) (d_in_turn : DefAt K "in_turn" "in_turn" sInTurn f_in_turn) (k_in_turn : PySem.W.keepIn K (.ref f_in_turn) = true)
    (a_first_order : PySem.W.nsIn K mainGlobals "first_order" = some (some (.ref f_first_order))) (d_first_order : DefAt K "first_order" "first_order" sFirst f_first_order) (k_first_order : PySem.W.keepIn K (.ref f_first_order) = true)
    (a_people_in : PySem.W.nsIn K mainGlobals "people_in" = some (some (.ref f_people_in))) (d_people_in : DefAt K "people_in" "people_in" sPeopleIn f_people_in) (k_people_in : PySem.W.keepIn K (.ref f_people_in) = true)
    (a_handed_round : PySem.W.nsIn K mainGlobals "handed_round" = some (some (.ref f_handed_round))) (d_handed_round : DefAt K "handed_round" "handed_round" sHanded f_handed_round) (k_handed_round : PySem.W.keepIn K (.ref f_handed_round) = true)
    (a_does_better : PySem.W.nsIn K mainGlobals "does_better" = some (some (.ref f_does_better))) (d_does_better : DefAt K "does_better" "does_better" sDoes f_does_better) (k_does_better : PySem.W.keepIn K (.ref f_does_better) = true)
    (a_least_group : PySem.W.nsIn K mainGlobals "least_group" = some (some (.ref f_least_group))) (d_least_group : DefAt K "least_group" "least_group" sLeast f_least_group) (k_least_group : PySem.W.keepIn K (.ref f_least_group) = true)
    (a_looked_at : PySem.W.nsIn K mainGlobals "looked_at" = some (some (.ref f_looked_at))) (d_looked_at : DefAt K "looked_at" "looked_at" sLooked f_looked_at) (k_looked_at : PySem.W.keepIn K (.ref f_looked_at) = true)
    (a_ring_of : PySem.W.nsIn K mainGlobals "ring_of" = some (some (.ref f_ring_of))) (d_ring_of : DefAt K "ring_of" "ring_of" sRing f_ring_of) (k_ring_of : PySem.W.keepIn K (.ref f_ring_of) = true)
    (a_exchanged : PySem.W.nsIn K mainGlobals "exchanged" = some (some (.ref f_exchanged))) (d_exchanged : DefAt K "exchanged" "exchanged" sExch f_exchanged) (k_exchanged : PySem.W.keepIn K (.ref f_exchanged) = true)
    (a_room_for : PySem.W.nsIn K mainGlobals "room_for" = some (some (.ref f_room_for))) (d_room_for : DefAt K "room_for" "room_for" sRoom f_room_for) (k_room_for : PySem.W.keepIn K (.ref f_room_for) = true)
    (a_asked : PySem.W.nsIn K mainGlobals "asked" = some (some (.ref f_asked))) (d_asked : DefAt K "asked" "asked" sAsked f_asked) (k_asked : PySem.W.keepIn K (.ref f_asked) = true)
    (a_answer : PySem.W.nsIn K mainGlobals "answer" = some (some (.ref f_answer))) (d_answer : DefAt K "answer" "answer" sAnswer f_answer) (k_answer : PySem.W.keepIn K (.ref f_answer) = true)
    (a_answers : PySem.W.nsIn K mainGlobals "answers" = some (some (.ref f_answers))) (d_answers : DefAt K "answers" "answers" sAnswers f_answers) (k_answers : PySem.W.keepIn K (.ref f_answers) = true)
    (a_F___init__ : PySem.W.findIn K (.ref CF) "__init__" = some (some (.ref f_F___init__))) (i_F___init__ : PySem.W.isFn K (.ref f_F___init__) = true) (d_F___init__ : DefAt K "__init__" "Folk.__init__" sFInit f_F___init__) (k_F___init__ : PySem.W.keepIn K (.ref f_F___init__) = true)
    (a_F_begin : PySem.W.findIn K (.ref CF) "begin" = some (some (.ref f_F_begin))) (i_F_begin : PySem.W.isFn K (.ref f_F_begin) = true) (d_F_begin : DefAt K "begin" "Folk.begin" sBegin f_F_begin) (k_F_begin : PySem.W.keepIn K (.ref f_F_begin) = true)
    (a_F_people : PySem.W.findIn K (.ref CF) "people" = some (some (.ref f_F_people))) (i_F_people : PySem.W.isFn K (.ref f_F_people) = true) (d_F_people : DefAt K "people" "Folk.people" sPeople f_F_people) (k_F_people : PySem.W.keepIn K (.ref f_F_people) = true)
    (a_F_is_gift : PySem.W.findIn K (.ref CF) "is_gift" = some (some (.ref f_F_is_gift))) (i_F_is_gift : PySem.W.isFn K (.ref f_F_is_gift) = true) (d_F_is_gift : DefAt K "is_gift" "Folk.is_gift" sIsGift f_F_is_gift) (k_F_is_gift : PySem.W.keepIn K (.ref f_F_is_gift) = true)
    (a_F_wish : PySem.W.findIn K (.ref CF) "wish" = some (some (.ref f_F_wish))) (i_F_wish : PySem.W.isFn K (.ref f_F_wish) = true) (d_F_wish : DefAt K "wish" "Folk.wish" sWish f_F_wish) (k_F_wish : PySem.W.keepIn K (.ref f_F_wish) = true)
    (a_F_refusal : PySem.W.findIn K (.ref CF) "refusal" = some (some (.ref f_F_refusal))) (i_F_refusal : PySem.W.isFn K (.ref f_F_refusal) = true) (d_F_refusal : DefAt K "refusal" "Folk.refusal" sRefusal f_F_refusal) (k_F_refusal : PySem.W.keepIn K (.ref f_F_refusal) = true)
    (a_F_fits : PySem.W.findIn K (.ref CF) "fits" = some (some (.ref f_F_fits))) (i_F_fits : PySem.W.isFn K (.ref f_F_fits) = true) (d_F_fits : DefAt K "fits" "Folk.fits" sFits f_F_fits) (k_F_fits : PySem.W.keepIn K (.ref f_F_fits) = true)
    (a_F_trade : PySem.W.findIn K (.ref CF) "trade" = some (some (.ref f_F_trade))) (i_F_trade : PySem.W.isFn K (.ref f_F_trade) = true) (d_F_trade : DefAt K "trade" "Folk.trade" sTrade f_F_trade) (k_F_trade : PySem.W.keepIn K (.ref f_F_trade) = true)
    (a_F_turns : PySem.W.findIn K (.ref CF) "turns" = some (some (.ref f_F_turns))) (i_F_turns : PySem.W.isFn K (.ref f_F_turns) = true) (d_F_turns : DefAt K "turns" "Folk.turns" sTurns f_F_turns) (k_F_turns : PySem.W.keepIn K (.ref f_F_turns) = true)
    (a_F_good : PySem.W.findIn K (.ref CF) "good" = some (some (.ref f_F_good))) (i_F_good : PySem.W.isFn K (.ref f_F_good) = true) (d_F_good : DefAt K "good" "Folk.good" sGood f_F_good) (k_F_good : PySem.W.keepIn K (.ref f_F_good) = true)
    (a_F_order : PySem.W.findIn K (.ref CF) "order" = some (some (.ref f_F_order))) (i_F_order : PySem.W.isFn K (.ref f_F_order) = true) (d_F_order : DefAt K "order" "Folk.order" sOrder f_F_order) (k_F_order : PySem.W.keepIn K (.ref f_F_order) = true)
    (a_F_group : PySem.W.findIn K (.ref CF) "group" = some (some (.ref f_F_group))) (i_F_group : PySem.W.isFn K (.ref f_F_group) = true) (d_F_group : DefAt K "group" "Folk.group" sGroup f_F_group) (k_F_group : PySem.W.keepIn K (.ref f_F_group) = true)
    (a_F_eat : PySem.W.findIn K (.ref CF) "eat" = some (some (.ref f_F_eat))) (i_F_eat : PySem.W.isFn K (.ref f_F_eat) = true) (d_F_eat : DefAt K "eat" "Folk.eat" sEat f_F_eat) (k_F_eat : PySem.W.keepIn K (.ref f_F_eat) = true)
    (a_C___init__ : PySem.W.findIn K (.ref CC) "__init__" = some (some (.ref f_C___init__))) (i_C___init__ : PySem.W.isFn K (.ref f_C___init__) = true) (d_C___init__ : DefAt K "__init__" "Calls.__init__" sCInit f_C___init__) (k_C___init__ : PySem.W.keepIn K (.ref f_C___init__) = true)
    (a_C_more : PySem.W.findIn K (.ref CC) "more" = some (some (.ref f_C_more))) (i_C_more : PySem.W.isFn K (.ref f_C_more) = true) (d_C_more : DefAt K "more" "Calls.more" sMore f_C_more) (k_C_more : PySem.W.keepIn K (.ref f_C_more) = true)
    (a_C_one : PySem.W.findIn K (.ref CC) "one" = some (some (.ref f_C_one))) (i_C_one : PySem.W.isFn K (.ref f_C_one) = true) (d_C_one : DefAt K "one" "Calls.one" sOne f_C_one) (k_C_one : PySem.W.keepIn K (.ref f_C_one) = true)
    (a_C_row : PySem.W.findIn K (.ref CC) "row" = some (some (.ref f_C_row))) (i_C_row : PySem.W.isFn K (.ref f_C_row) = true) (d_C_row : DefAt K "row" "Calls.row" sRow f_C_row) (k_C_row : PySem.W.keepIn K (.ref f_C_row) = true)
    (aCF : PySem.W.nsIn K mainGlobals "Folk" = some (some (.ref CF))) (pgCF : PySem.W.plainGet K CF Str.empty = true) (hdCF : PySem.W.hasDictIn K CF = true) (poCF : PySem.W.plainOver K CF = true) (saCF : PySem.W.findIn K (.ref CF) "__setattr__" = some (some (.builtin "object.__setattr__"))) (mkCF : PySem.W.makesIn K CF = true) (kcCF : PySem.W.keepIn K (.ref CF) = true)
    (aCC : PySem.W.nsIn K mainGlobals "Calls" = some (some (.ref CC))) (pgCC : PySem.W.plainGet K CC Str.empty = true) (hdCC : PySem.W.hasDictIn K CC = true) (poCC : PySem.W.plainOver K CC = true) (saCC : PySem.W.findIn K (.ref CC) "__setattr__" = some (some (.builtin "object.__setattr__"))) (mkCC : PySem.W.makesIn K CC = true) (kcCC : PySem.W.keepIn K (.ref CC) = true)
    (nW : PySem.W.findIn K (.ref CF) "wishes" = some none) (nN : PySem.W.findIn K (.ref CC) "numbers" = some none) (nT : PySem.W.findIn K (.ref CC) "at" = some none)
    (z_len : PySem.W.nsIn K mainGlobals "len" = some none)
    (z_range : PySem.W.nsIn K mainGlobals "range" = some none)
    (z_list : PySem.W.nsIn K mainGlobals "list" = some none)
    (z_sorted : PySem.W.nsIn K mainGlobals "sorted" = some none)
    (z_enumerate : PySem.W.nsIn K mainGlobals "enumerate" = some none)
    (z_int : PySem.W.nsIn K mainGlobals "int" = some none)
    (n_NOT_SO : PySem.W.nsIn K mainGlobals "NOT_SO" = some (some (.int (-1) t_NOT_SO)))
    (n_TOO_MANY : PySem.W.nsIn K mainGlobals "TOO_MANY" = some (some (.int (-2) t_TOO_MANY)))
    (n_NO_WISHES : PySem.W.nsIn K mainGlobals "NO_WISHES" = some (some (.int (-3) t_NO_WISHES)))
    (n_NOBODY : PySem.W.nsIn K mainGlobals "NOBODY" = some (some (.int (-4) t_NOBODY)))
    (n_MOST_PEOPLE : PySem.W.nsIn K mainGlobals "MOST_PEOPLE" = some (some (.int (16) t_MOST_PEOPLE)))
    (n_MOST_EATERS : PySem.W.nsIn K mainGlobals "MOST_EATERS" = some (some (.int (8) t_MOST_EATERS)))
    (n_MOST_SHARES : PySem.W.nsIn K mainGlobals "MOST_SHARES" = some (some (.int (128) t_MOST_SHARES)))
    (n_BEGIN : PySem.W.nsIn K mainGlobals "BEGIN" = some (some (.int (0) t_BEGIN)))
    (n_PEOPLE : PySem.W.nsIn K mainGlobals "PEOPLE" = some (some (.int (1) t_PEOPLE)))
    (n_WISH : PySem.W.nsIn K mainGlobals "WISH" = some (some (.int (2) t_WISH)))
    (n_TRADE : PySem.W.nsIn K mainGlobals "TRADE" = some (some (.int (3) t_TRADE)))
    (n_TURNS : PySem.W.nsIn K mainGlobals "TURNS" = some (some (.int (4) t_TURNS)))
    (n_GOOD : PySem.W.nsIn K mainGlobals "GOOD" = some (some (.int (5) t_GOOD)))
    (n_ORDER : PySem.W.nsIn K mainGlobals "ORDER" = some (some (.int (6) t_ORDER)))
    (n_GROUP : PySem.W.nsIn K mainGlobals "GROUP" = some (some (.int (7) t_GROUP)))
    (aN : PySem.W.nsIn K mainGlobals "NOTHING" = some (some (.ref nA))) (aW : PySem.W.nsIn K mainGlobals "WHOLE" = some (some (.ref wA))) (tN : ∀ H, TF K H nA (0, 1)) (tW : ∀ H, TF K H wA (1, 1)) :
    ∃ fd : FuncData, (∀ (s : Shared) (us : List Value), us.length = (["calls"] : List Str).length → BindsTo s fd ⟨us, []⟩ ((["calls"] : List Str).zip us)) ∧ ∀ base : Heap, K.In base → base.Ns mainGlobals mg → FnOk P w K mg base CX0 9 fa fd ["calls"] (spAnswers K) := by
  have e := hfa.symm.trans (PySem.W.mg_of X G a_answers)
  cases e
  have B : Bl mg := ⟨PySem.W.mg_none_of X G z_len, PySem.W.mg_none_of X G z_range, PySem.W.mg_none_of X G z_list, PySem.W.mg_none_of X G z_sorted, PySem.W.mg_none_of X G z_enumerate, PySem.W.mg_none_of X G z_int⟩
  have N : Nums mg := ⟨⟨_, PySem.W.mg_of X G n_NOT_SO⟩, ⟨_, PySem.W.mg_of X G n_TOO_MANY⟩, ⟨_, PySem.W.mg_of X G n_NO_WISHES⟩, ⟨_, PySem.W.mg_of X G n_NOBODY⟩, ⟨_, PySem.W.mg_of X G n_MOST_PEOPLE⟩, ⟨_, PySem.W.mg_of X G n_MOST_EATERS⟩, ⟨_, PySem.W.mg_of X G n_MOST_SHARES⟩⟩
  have N2 : Nums2 mg := ⟨⟨_, PySem.W.mg_of X G n_BEGIN⟩, ⟨_, PySem.W.mg_of X G n_PEOPLE⟩, ⟨_, PySem.W.mg_of X G n_WISH⟩, ⟨_, PySem.W.mg_of X G n_TRADE⟩, ⟨_, PySem.W.mg_of X G n_TURNS⟩, ⟨_, PySem.W.mg_of X G n_GOOD⟩, ⟨_, PySem.W.mg_of X G n_ORDER⟩, ⟨_, PySem.W.mg_of X G n_GROUP⟩⟩
  have TF : FTxt K CF := ⟨⟨pgCF, hdCF, poCF, saCF⟩, nW⟩
  have TC : CTxt K CC := ⟨⟨pgCC, hdCC, poCC, saCC⟩, nN, nT⟩
  have TK : Cst K mg nA wA := ⟨PySem.W.mg_of X G aN, PySem.W.mg_of X G aW, tN, tW⟩
  obtain ⟨⟨fd_divisor, F_divisor⟩⟩ := d_divisor
  have b_divisor := F_divisor.binds (ps := ["one", "other"]) fun _ _ _ _ _ _ us hl => match us, hl with | [_, _], _ => rfl
  obtain ⟨⟨fd_part, F_part⟩⟩ := d_part
  have b_part := F_part.binds (ps := ["top", "bottom"]) fun _ _ _ _ _ _ us hl => match us, hl with | [_, _], _ => rfl
  obtain ⟨⟨fd_plus, F_plus⟩⟩ := d_plus
  have b_plus := F_plus.binds (ps := ["one", "other"]) fun _ _ _ _ _ _ us hl => match us, hl with | [_, _], _ => rfl
  obtain ⟨⟨fd_minus, F_minus⟩⟩ := d_minus
  have b_minus := F_minus.binds (ps := ["one", "other"]) fun _ _ _ _ _ _ us hl => match us, hl with | [_, _], _ => rfl
  obtain ⟨⟨fd_times, F_times⟩⟩ := d_times
  have b_times := F_times.binds (ps := ["one", "many"]) fun _ _ _ _ _ _ us hl => match us, hl with | [_, _], _ => rfl
  obtain ⟨⟨fd_over, F_over⟩⟩ := d_over
  have b_over := F_over.binds (ps := ["one", "many"]) fun _ _ _ _ _ _ us hl => match us, hl with | [_, _], _ => rfl
  obtain ⟨⟨fd_is_less, F_is_less⟩⟩ := d_is_less
  have b_is_less := F_is_less.binds (ps := ["one", "other"]) fun _ _ _ _ _ _ us hl => match us, hl with | [_, _], _ => rfl
  obtain ⟨⟨fd_eaten_by, F_eaten_by⟩⟩ := d_eaten_by
  have b_eaten_by := F_eaten_by.binds (ps := ["wishes", "left"]) fun _ _ _ _ _ _ us hl => match us, hl with | [_, _], _ => rfl
  obtain ⟨⟨fd_till_one_goes, F_till_one_goes⟩⟩ := d_till_one_goes
  have b_till_one_goes := F_till_one_goes.binds (ps := ["eaten", "left"]) fun _ _ _ _ _ _ us hl => match us, hl with | [_, _], _ => rfl
  obtain ⟨⟨fd_eaten_shares, F_eaten_shares⟩⟩ := d_eaten_shares
  have b_eaten_shares := F_eaten_shares.binds (ps := ["wishes"]) fun _ _ _ _ _ _ us hl => match us, hl with | [_], _ => rfl
  obtain ⟨⟨fd_orders, F_orders⟩⟩ := d_orders
  have b_orders := F_orders.binds (ps := ["many"]) fun _ _ _ _ _ _ us hl => match us, hl with | [_], _ => rfl
  obtain ⟨⟨fd_is_order, F_is_order⟩⟩ := d_is_order
  have b_is_order := F_is_order.binds (ps := ["row", "many"]) fun _ _ _ _ _ _ us hl => match us, hl with | [_, _], _ => rfl
  obtain ⟨⟨fd_dearness, F_dearness⟩⟩ := d_dearness
  have b_dearness := F_dearness.binds (ps := ["wishes", "person", "thing"]) fun _ _ _ _ _ _ us hl => match us, hl with | [_, _, _], _ => rfl
  obtain ⟨⟨fd_dearest, F_dearest⟩⟩ := d_dearest
  have b_dearest := F_dearest.binds (ps := ["wishes", "person", "things"]) fun _ _ _ _ _ _ us hl => match us, hl with | [_, _, _], _ => rfl
  obtain ⟨⟨fd_suits, F_suits⟩⟩ := d_suits
  have b_suits := F_suits.binds (ps := ["wishes", "people", "given", "other"]) fun _ _ _ _ _ _ us hl => match us, hl with | [_, _, _, _], _ => rfl
  obtain ⟨⟨fd_is_good, F_is_good⟩⟩ := d_is_good
  have b_is_good := F_is_good.binds (ps := ["wishes", "given"]) fun _ _ _ _ _ _ us hl => match us, hl with | [_, _], _ => rfl
  obtain ⟨⟨fd_in_turn, F_in_turn⟩⟩ := d_in_turn
  have b_in_turn := F_in_turn.binds (ps := ["wishes", "order"]) fun _ _ _ _ _ _ us hl => match us, hl with | [_, _], _ => rfl
  obtain ⟨⟨fd_first_order, F_first_order⟩⟩ := d_first_order
  have b_first_order := F_first_order.binds (ps := ["wishes", "given"]) fun _ _ _ _ _ _ us hl => match us, hl with | [_, _], _ => rfl
  obtain ⟨⟨fd_people_in, F_people_in⟩⟩ := d_people_in
  have b_people_in := F_people_in.binds (ps := ["number", "many"]) fun _ _ _ _ _ _ us hl => match us, hl with | [_, _], _ => rfl
  obtain ⟨⟨fd_handed_round, F_handed_round⟩⟩ := d_handed_round
  have b_handed_round := F_handed_round.binds (ps := ["people", "own", "order", "many"]) fun _ _ _ _ _ _ us hl => match us, hl with | [_, _, _, _], _ => rfl
  obtain ⟨⟨fd_does_better, F_does_better⟩⟩ := d_does_better
  have b_does_better := F_does_better.binds (ps := ["wishes", "own", "given", "people"]) fun _ _ _ _ _ _ us hl => match us, hl with | [_, _, _, _], _ => rfl
  obtain ⟨⟨fd_least_group, F_least_group⟩⟩ := d_least_group
  have b_least_group := F_least_group.binds (ps := ["wishes", "own", "given"]) fun _ _ _ _ _ _ us hl => match us, hl with | [_, _, _], _ => rfl
  obtain ⟨⟨fd_looked_at, F_looked_at⟩⟩ := d_looked_at
  have b_looked_at := F_looked_at.binds (ps := ["wishes", "own", "there", "person"]) fun _ _ _ _ _ _ us hl => match us, hl with | [_, _, _, _], _ => rfl
  obtain ⟨⟨fd_ring_of, F_ring_of⟩⟩ := d_ring_of
  have b_ring_of := F_ring_of.binds (ps := ["wishes", "own", "there"]) fun _ _ _ _ _ _ us hl => match us, hl with | [_, _, _], _ => rfl
  obtain ⟨⟨fd_exchanged, F_exchanged⟩⟩ := d_exchanged
  have b_exchanged := F_exchanged.binds (ps := ["wishes", "own"]) fun _ _ _ _ _ _ us hl => match us, hl with | [_, _], _ => rfl
  obtain ⟨⟨fd_room_for, F_room_for⟩⟩ := d_room_for
  have b_room_for := F_room_for.binds (ps := ["most", "greatest"]) fun _ _ _ _ _ _ us hl => match us, hl with | [_, _], _ => rfl
  obtain ⟨⟨fd_asked, F_asked⟩⟩ := d_asked
  have b_asked := F_asked.binds (ps := ["folk", "call", "first", "row"]) fun _ _ _ _ _ _ us hl => match us, hl with | [_, _, _, _], _ => rfl
  obtain ⟨⟨fd_answer, F_answer⟩⟩ := d_answer
  have b_answer := F_answer.binds (ps := ["folk", "call", "calls"]) fun _ _ _ _ _ _ us hl => match us, hl with | [_, _, _], _ => rfl
  obtain ⟨⟨fd_answers, F_answers⟩⟩ := d_answers
  have b_answers := F_answers.binds (ps := ["calls"]) fun _ _ _ _ _ _ us hl => match us, hl with | [_], _ => rfl
  obtain ⟨⟨fd_F___init__, F_F___init__⟩⟩ := d_F___init__
  have b_F___init__ := F_F___init__.binds (ps := ["self"]) fun _ _ _ _ _ _ us hl => match us, hl with | [_], _ => rfl
  obtain ⟨⟨fd_F_begin, F_F_begin⟩⟩ := d_F_begin
  have b_F_begin := F_F_begin.binds (ps := ["self"]) fun _ _ _ _ _ _ us hl => match us, hl with | [_], _ => rfl
  obtain ⟨⟨fd_F_people, F_F_people⟩⟩ := d_F_people
  have b_F_people := F_F_people.binds (ps := ["self", "many"]) fun _ _ _ _ _ _ us hl => match us, hl with | [_, _], _ => rfl
  obtain ⟨⟨fd_F_is_gift, F_F_is_gift⟩⟩ := d_F_is_gift
  have b_F_is_gift := F_F_is_gift.binds (ps := ["self", "row"]) fun _ _ _ _ _ _ us hl => match us, hl with | [_, _], _ => rfl
  obtain ⟨⟨fd_F_wish, F_F_wish⟩⟩ := d_F_wish
  have b_F_wish := F_F_wish.binds (ps := ["self", "person", "things"]) fun _ _ _ _ _ _ us hl => match us, hl with | [_, _, _], _ => rfl
  obtain ⟨⟨fd_F_refusal, F_F_refusal⟩⟩ := d_F_refusal
  have b_F_refusal := F_F_refusal.binds (ps := ["self"]) fun _ _ _ _ _ _ us hl => match us, hl with | [_], _ => rfl
  obtain ⟨⟨fd_F_fits, F_F_fits⟩⟩ := d_F_fits
  have b_F_fits := F_F_fits.binds (ps := ["self", "row", "most"]) fun _ _ _ _ _ _ us hl => match us, hl with | [_, _, _], _ => rfl
  obtain ⟨⟨fd_F_trade, F_F_trade⟩⟩ := d_F_trade
  have b_F_trade := F_F_trade.binds (ps := ["self", "most", "own"]) fun _ _ _ _ _ _ us hl => match us, hl with | [_, _, _], _ => rfl
  obtain ⟨⟨fd_F_turns, F_F_turns⟩⟩ := d_F_turns
  have b_F_turns := F_F_turns.binds (ps := ["self", "most", "order"]) fun _ _ _ _ _ _ us hl => match us, hl with | [_, _, _], _ => rfl
  obtain ⟨⟨fd_F_good, F_F_good⟩⟩ := d_F_good
  have b_F_good := F_F_good.binds (ps := ["self", "given"]) fun _ _ _ _ _ _ us hl => match us, hl with | [_, _], _ => rfl
  obtain ⟨⟨fd_F_order, F_F_order⟩⟩ := d_F_order
  have b_F_order := F_F_order.binds (ps := ["self", "most", "given"]) fun _ _ _ _ _ _ us hl => match us, hl with | [_, _, _], _ => rfl
  obtain ⟨⟨fd_F_group, F_F_group⟩⟩ := d_F_group
  have b_F_group := F_F_group.binds (ps := ["self", "both"]) fun _ _ _ _ _ _ us hl => match us, hl with | [_, _], _ => rfl
  obtain ⟨⟨fd_F_eat, F_F_eat⟩⟩ := d_F_eat
  have b_F_eat := F_F_eat.binds (ps := ["self", "most"]) fun _ _ _ _ _ _ us hl => match us, hl with | [_, _], _ => rfl
  obtain ⟨⟨fd_C___init__, F_C___init__⟩⟩ := d_C___init__
  have b_C___init__ := F_C___init__.binds (ps := ["self", "numbers"]) fun _ _ _ _ _ _ us hl => match us, hl with | [_, _], _ => rfl
  obtain ⟨⟨fd_C_more, F_C_more⟩⟩ := d_C_more
  have b_C_more := F_C_more.binds (ps := ["self"]) fun _ _ _ _ _ _ us hl => match us, hl with | [_], _ => rfl
  obtain ⟨⟨fd_C_one, F_C_one⟩⟩ := d_C_one
  have b_C_one := F_C_one.binds (ps := ["self"]) fun _ _ _ _ _ _ us hl => match us, hl with | [_], _ => rfl
  obtain ⟨⟨fd_C_row, F_C_row⟩⟩ := d_C_row
  have b_C_row := F_C_row.binds (ps := ["self"]) fun _ _ _ _ _ _ us hl => match us, hl with | [_], _ => rfl
  refine ⟨fd_answers, fun s us hu => ?_, fun base _ _ => ?_⟩
  · obtain ⟨oc, od, kV, doc, pm, an, cdv, ct, osl, rfl, _, _⟩ := F_answers.ex
    exact match us, hu with | [_], _ => .of_eq rfl
  have c_divisor : Cal P w K mg base "divisor" 1 ["one", "other"] spDivisor := ⟨⟨_, _, PySem.W.mg_of X G a_divisor, k_divisor, b_divisor, ok_divisor F_divisor⟩⟩
  have c_part : Cal P w K mg base "part" 2 ["top", "bottom"] (spPart K) := ⟨⟨_, _, PySem.W.mg_of X G a_part, k_part, b_part, ok_part F_part c_divisor⟩⟩
  have c_plus : Cal P w K mg base "plus" 3 ["one", "other"] (spPlus K) := ⟨⟨_, _, PySem.W.mg_of X G a_plus, k_plus, b_plus, ok_plus F_plus c_part⟩⟩
  have c_minus : Cal P w K mg base "minus" 3 ["one", "other"] (spMinus K) := ⟨⟨_, _, PySem.W.mg_of X G a_minus, k_minus, b_minus, ok_minus F_minus c_part⟩⟩
  have c_times : Cal P w K mg base "times" 3 ["one", "many"] (spTimes K) := ⟨⟨_, _, PySem.W.mg_of X G a_times, k_times, b_times, ok_times F_times c_part⟩⟩
  have c_over : Cal P w K mg base "over" 3 ["one", "many"] (spOver K) := ⟨⟨_, _, PySem.W.mg_of X G a_over, k_over, b_over, ok_over F_over c_part⟩⟩
  have c_is_less : Cal P w K mg base "is_less" 1 ["one", "other"] (spLess K) := ⟨⟨_, _, PySem.W.mg_of X G a_is_less, k_is_less, b_is_less, ok_less F_is_less⟩⟩
  have c_eaten_by : Cal P w K mg base "eaten_by" 1 ["wishes", "left"] (spEatenBy K) := ⟨⟨_, _, PySem.W.mg_of X G a_eaten_by, k_eaten_by, b_eaten_by, ok_eaten_by F_eaten_by TK⟩⟩
  have c_till_one_goes : Cal P w K mg base "till_one_goes" 4 ["eaten", "left"] (spTill K) := ⟨⟨_, _, PySem.W.mg_of X G a_till_one_goes, k_till_one_goes, b_till_one_goes, ok_till F_till_one_goes TK c_over c_is_less⟩⟩
  have c_eaten_shares : Cal P w K mg base "eaten_shares" 5 ["wishes"] (spEatenShares K) := ⟨⟨_, _, PySem.W.mg_of X G a_eaten_shares, k_eaten_shares, b_eaten_shares, ok_eaten_shares F_eaten_shares B TK c_eaten_by c_till_one_goes c_plus c_minus c_times⟩⟩
  have c_orders : Cal P w K mg base "orders" 1 ["many"] spOrders := ⟨⟨_, _, PySem.W.mg_of X G a_orders, k_orders, b_orders, ok_orders F_orders B⟩⟩
  have c_is_order : Cal P w K mg base "is_order" 1 ["row", "many"] (spIsOrder K) := ⟨⟨_, _, PySem.W.mg_of X G a_is_order, k_is_order, b_is_order, ok_is_order F_is_order B⟩⟩
  have c_dearness : Cal P w K mg base "dearness" 1 ["wishes", "person", "thing"] spDearness := ⟨⟨_, _, PySem.W.mg_of X G a_dearness, k_dearness, b_dearness, ok_dearness F_dearness⟩⟩
  have c_dearest : Cal P w K mg base "dearest" 2 ["wishes", "person", "things"] (spDearest K) := ⟨⟨_, _, PySem.W.mg_of X G a_dearest, k_dearest, b_dearest, ok_dearest F_dearest c_dearness⟩⟩
  have c_suits : Cal P w K mg base "suits" 2 ["wishes", "people", "given", "other"] (spSuits K) := ⟨⟨_, _, PySem.W.mg_of X G a_suits, k_suits, b_suits, ok_suits F_suits c_dearness⟩⟩
  have c_is_good : Cal P w K mg base "is_good" 3 ["wishes", "given"] (spIsGood K) := ⟨⟨_, _, PySem.W.mg_of X G a_is_good, k_is_good, b_is_good, ok_is_good F_is_good B c_orders c_suits⟩⟩
  have c_in_turn : Cal P w K mg base "in_turn" 3 ["wishes", "order"] (spInTurn K) := ⟨⟨_, _, PySem.W.mg_of X G a_in_turn, k_in_turn, b_in_turn, ok_in_turn F_in_turn B c_dearest⟩⟩
  have c_first_order : Cal P w K mg base "first_order" 4 ["wishes", "given"] (spFirst K) := ⟨⟨_, _, PySem.W.mg_of X G a_first_order, k_first_order, b_first_order, ok_first F_first_order B c_orders c_in_turn⟩⟩
  have c_people_in : Cal P w K mg base "people_in" 1 ["number", "many"] spPeopleIn := ⟨⟨_, _, PySem.W.mg_of X G a_people_in, k_people_in, b_people_in, ok_people_in F_people_in B⟩⟩
  have c_handed_round : Cal P w K mg base "handed_round" 1 ["people", "own", "order", "many"] (spHanded K) := ⟨⟨_, _, PySem.W.mg_of X G a_handed_round, k_handed_round, b_handed_round, ok_handed F_handed_round B⟩⟩
  have c_does_better : Cal P w K mg base "does_better" 3 ["wishes", "own", "given", "people"] (spDoes K) := ⟨⟨_, _, PySem.W.mg_of X G a_does_better, k_does_better, b_does_better, ok_does F_does_better B c_orders c_suits c_handed_round⟩⟩
  have c_least_group : Cal P w K mg base "least_group" 4 ["wishes", "own", "given"] (spLeast K) := ⟨⟨_, _, PySem.W.mg_of X G a_least_group, k_least_group, b_least_group, ok_least F_least_group B c_does_better c_people_in⟩⟩
  have c_looked_at : Cal P w K mg base "looked_at" 3 ["wishes", "own", "there", "person"] (spLooked K) := ⟨⟨_, _, PySem.W.mg_of X G a_looked_at, k_looked_at, b_looked_at, ok_looked F_looked_at c_dearest⟩⟩
  have c_ring_of : Cal P w K mg base "ring_of" 4 ["wishes", "own", "there"] (spRing K) := ⟨⟨_, _, PySem.W.mg_of X G a_ring_of, k_ring_of, b_ring_of, ok_ring F_ring_of c_looked_at⟩⟩
  have c_exchanged : Cal P w K mg base "exchanged" 5 ["wishes", "own"] (spExch K) := ⟨⟨_, _, PySem.W.mg_of X G a_exchanged, k_exchanged, b_exchanged, ok_exch F_exchanged B c_looked_at c_ring_of⟩⟩
  have c_room_for : Cal P w K mg base "room_for" 1 ["most", "greatest"] spRoom := ⟨⟨_, _, PySem.W.mg_of X G a_room_for, k_room_for, b_room_for, ok_room F_room_for⟩⟩
  have k_F : KCal P w K mg base "Folk" CF 1 ["self"] (spFInit CF) := ⟨⟨_, _, PySem.W.mg_of X G aCF, ⟨mkCF, a_F___init__, i_F___init__, kcCF⟩, b_F___init__, ok_finit F_F___init__ TF⟩⟩
  have m_F_begin : MCal P w K mg base CF "begin" 1 ["self"] (spBegin CF) := ⟨⟨_, _, ⟨a_F_begin, i_F_begin, k_F_begin⟩, b_F_begin, ok_begin F_F_begin TF⟩⟩
  have m_F_people : MCal P w K mg base CF "people" 1 ["self", "many"] (spPeople CF) := ⟨⟨_, _, ⟨a_F_people, i_F_people, k_F_people⟩, b_F_people, ok_people F_F_people TF B N⟩⟩
  have m_F_is_gift : MCal P w K mg base CF "is_gift" 2 ["self", "row"] (spIsGift K CF) := ⟨⟨_, _, ⟨a_F_is_gift, i_F_is_gift, k_F_is_gift⟩, b_F_is_gift, ok_is_gift F_F_is_gift TF B c_is_order⟩⟩
  have m_F_wish : MCal P w K mg base CF "wish" 3 ["self", "person", "things"] (spWish K CF) := ⟨⟨_, _, ⟨a_F_wish, i_F_wish, k_F_wish⟩, b_F_wish, ok_wish F_F_wish TF B N m_F_is_gift⟩⟩
  have m_F_refusal : MCal P w K mg base CF "refusal" 1 ["self"] (spRefusal CF) := ⟨⟨_, _, ⟨a_F_refusal, i_F_refusal, k_F_refusal⟩, b_F_refusal, ok_refusal F_F_refusal TF N⟩⟩
  have m_F_fits : MCal P w K mg base CF "fits" 3 ["self", "row", "most"] (spFits K CF) := ⟨⟨_, _, ⟨a_F_fits, i_F_fits, k_F_fits⟩, b_F_fits, ok_fits F_F_fits TF B N m_F_is_gift c_room_for⟩⟩
  have m_F_trade : MCal P w K mg base CF "trade" 6 ["self", "most", "own"] (spTrade K CF) := ⟨⟨_, _, ⟨a_F_trade, i_F_trade, k_F_trade⟩, b_F_trade, ok_trade F_F_trade TF B m_F_fits c_exchanged⟩⟩
  have m_F_turns : MCal P w K mg base CF "turns" 4 ["self", "most", "order"] (spTurns K CF) := ⟨⟨_, _, ⟨a_F_turns, i_F_turns, k_F_turns⟩, b_F_turns, ok_turns F_F_turns TF B m_F_fits c_in_turn⟩⟩
  have m_F_good : MCal P w K mg base CF "good" 4 ["self", "given"] (spGood K CF) := ⟨⟨_, _, ⟨a_F_good, i_F_good, k_F_good⟩, b_F_good, ok_good F_F_good TF B N m_F_is_gift c_is_good⟩⟩
  have m_F_order : MCal P w K mg base CF "order" 5 ["self", "most", "given"] (spOrder K CF) := ⟨⟨_, _, ⟨a_F_order, i_F_order, k_F_order⟩, b_F_order, ok_order F_F_order TF B N m_F_fits c_first_order⟩⟩
  have m_F_group : MCal P w K mg base CF "group" 5 ["self", "both"] (spGroup K CF) := ⟨⟨_, _, ⟨a_F_group, i_F_group, k_F_group⟩, b_F_group, ok_group F_F_group TF B N m_F_is_gift c_least_group⟩⟩
  have m_F_eat : MCal P w K mg base CF "eat" 6 ["self", "most"] (spEat CF) := ⟨⟨_, _, ⟨a_F_eat, i_F_eat, k_F_eat⟩, b_F_eat, ok_eat F_F_eat TF B N c_room_for c_eaten_shares⟩⟩
  have k_C : KCal P w K mg base "Calls" CC 1 ["self", "numbers"] (spCInit CC) := ⟨⟨_, _, PySem.W.mg_of X G aCC, ⟨mkCC, a_C___init__, i_C___init__, kcCC⟩, b_C___init__, ok_cinit F_C___init__ TC⟩⟩
  have m_C_more : MCal P w K mg base CC "more" 1 ["self"] (spMore CC) := ⟨⟨_, _, ⟨a_C_more, i_C_more, k_C_more⟩, b_C_more, ok_more F_C_more TC B⟩⟩
  have m_C_one : MCal P w K mg base CC "one" 1 ["self"] (spOne CC) := ⟨⟨_, _, ⟨a_C_one, i_C_one, k_C_one⟩, b_C_one, ok_one F_C_one TC⟩⟩
  have m_C_row : MCal P w K mg base CC "row" 2 ["self"] (spRow CC) := ⟨⟨_, _, ⟨a_C_row, i_C_row, k_C_row⟩, b_C_row, ok_row F_C_row TC m_C_one⟩⟩
  have c_asked : Cal P w K mg base "asked" 7 ["folk", "call", "first", "row"] (spAsked K CF) := ⟨⟨_, _, PySem.W.mg_of X G a_asked, k_asked, b_asked, ok_asked F_asked TF N2 m_F_trade m_F_turns m_F_good m_F_order m_F_group m_F_eat⟩⟩
  have c_answer : Cal P w K mg base "answer" 8 ["folk", "call", "calls"] (spAnswer CF CC) := ⟨⟨_, _, PySem.W.mg_of X G a_answer, k_answer, b_answer, ok_answer F_answer TF TC N2 m_C_one m_C_row m_F_begin m_F_people m_F_wish m_F_refusal c_asked⟩⟩
  exact ok_answers F_answers TF TC B k_C k_F m_C_more m_C_one c_answer
end Wg
open PySem PySem.W PyProof.Rows
set_option maxRecDepth 100000 in
set_option maxHeartbeats 8000000 in
theorem PySem.Challenge.cw_wishgiving_s01_answers_holds : PySem.Challenge.rw_wishgiving_s01_answers.Holds := by
  w_on; k_headS; (case hw => exact ⟨[.list []], by decide +kernel, by decide +kernel⟩)
  k_fillS
  refine L2.walk_specK (r := PySem.Challenge.rw_wishgiving_s01_answers) (k := 9) (CX := L2.CX0) (ps := ["calls"]) (sp := fun K => Wg.spAnswers K) (by decide +kernel) rfl rfl ⟨rfl, by decide, by decide⟩ (fun w h Y => PySem.W.kIn_of Y) ?F ?S (fun _ _ _ _ z => z)
  case F =>
    intro w mg fa h Y KX G hmg
    refine' Wg.all_mk KX G hmg ?a_divisor ?d_divisor ?k_divisor ?a_part ?d_part ?k_part ?a_plus ?d_plus ?k_plus ?a_minus ?d_minus ?k_minus ?a_times ?d_times ?k_times ?a_over ?d_over ?k_over ?a_is_less ?d_is_less ?k_is_less ?a_eaten_by ?d_eaten_by ?k_eaten_by ?a_till_one_goes ?d_till_one_goes ?k_till_one_goes ?a_eaten_shares ?d_eaten_shares ?k_eaten_shares ?a_orders ?d_orders ?k_orders ?a_is_order ?d_is_order ?k_is_order ?a_dearness ?d_dearness ?k_dearness ?a_dearest ?d_dearest ?k_dearest ?a_suits ?d_suits ?k_suits ?a_is_good ?d_is_good ?k_is_good ?a_in_turn ?d_in_turn ?k_in_turn ?a_first_order ?d_first_order ?k_first_order ?a_people_in ?d_people_in ?k_people_in ?a_handed_round ?d_handed_round ?k_handed_round ?a_does_better ?d_does_better ?k_does_better ?a_least_group ?d_least_group ?k_least_group ?a_looked_at ?d_looked_at ?k_looked_at ?a_ring_of ?d_ring_of ?k_ring_of ?a_exchanged ?d_exchanged ?k_exchanged ?a_room_for ?d_room_for ?k_room_for ?a_asked ?d_asked ?k_asked ?a_answer ?d_answer ?k_answer ?a_answers ?d_answers ?k_answers ?a_F___init__ ?i_F___init__ ?d_F___init__ ?k_F___init__ ?a_F_begin ?i_F_begin ?d_F_begin ?k_F_begin ?a_F_people ?i_F_people ?d_F_people ?k_F_people ?a_F_is_gift ?i_F_is_gift ?d_F_is_gift ?k_F_is_gift ?a_F_wish ?i_F_wish ?d_F_wish ?k_F_wish ?a_F_refusal ?i_F_refusal ?d_F_refusal ?k_F_refusal ?a_F_fits ?i_F_fits ?d_F_fits ?k_F_fits ?a_F_trade ?i_F_trade ?d_F_trade ?k_F_trade ?a_F_turns ?i_F_turns ?d_F_turns ?k_F_turns ?a_F_good ?i_F_good ?d_F_good ?k_F_good ?a_F_order ?i_F_order ?d_F_order ?k_F_order ?a_F_group ?i_F_group ?d_F_group ?k_F_group ?a_F_eat ?i_F_eat ?d_F_eat ?k_F_eat ?a_C___init__ ?i_C___init__ ?d_C___init__ ?k_C___init__ ?a_C_more ?i_C_more ?d_C_more ?k_C_more ?a_C_one ?i_C_one ?d_C_one ?k_C_one ?a_C_row ?i_C_row ?d_C_row ?k_C_row ?aCF ?pgCF ?hdCF ?poCF ?saCF ?mkCF ?kcCF ?aCC ?pgCC ?hdCC ?poCC ?saCC ?mkCC ?kcCC ?nW ?nN ?nT ?z_len ?z_range ?z_list ?z_sorted ?z_enumerate ?z_int ?n_NOT_SO ?n_TOO_MANY ?n_NO_WISHES ?n_NOBODY ?n_MOST_PEOPLE ?n_MOST_EATERS ?n_MOST_SHARES ?n_BEGIN ?n_PEOPLE ?n_WISH ?n_TRADE ?n_TURNS ?n_GOOD ?n_ORDER ?n_GROUP ?aN ?aW ?tN ?tW
    (case aCF => k_is)
    (case aCC => k_is)
    (case aN => k_is)
    (case aW => k_is)
    (case a_divisor => k_is)
    (case d_divisor => (refine' Wg.defAt_mk ?l ?c ?k; (case l => k_is); (case c => k_is); (case k => k_is)))
    (case k_divisor => k_is)
    (case a_part => k_is)
    (case d_part => (refine' Wg.defAt_mk ?l ?c ?k; (case l => k_is); (case c => k_is); (case k => k_is)))
    (case k_part => k_is)
    (case a_plus => k_is)
    (case d_plus => (refine' Wg.defAt_mk ?l ?c ?k; (case l => k_is); (case c => k_is); (case k => k_is)))
    (case k_plus => k_is)
    (case a_minus => k_is)
    (case d_minus => (refine' Wg.defAt_mk ?l ?c ?k; (case l => k_is); (case c => k_is); (case k => k_is)))
    (case k_minus => k_is)
    (case a_times => k_is)
    (case d_times => (refine' Wg.defAt_mk ?l ?c ?k; (case l => k_is); (case c => k_is); (case k => k_is)))
    (case k_times => k_is)
    (case a_over => k_is)
    (case d_over => (refine' Wg.defAt_mk ?l ?c ?k; (case l => k_is); (case c => k_is); (case k => k_is)))
    (case k_over => k_is)
    (case a_is_less => k_is)
    (case d_is_less => (refine' Wg.defAt_mk ?l ?c ?k; (case l => k_is); (case c => k_is); (case k => k_is)))
    (case k_is_less => k_is)
    (case a_eaten_by => k_is)
    (case d_eaten_by => (refine' Wg.defAt_mk ?l ?c ?k; (case l => k_is); (case c => k_is); (case k => k_is)))
    (case k_eaten_by => k_is)
    (case a_till_one_goes => k_is)
    (case d_till_one_goes => (refine' Wg.defAt_mk ?l ?c ?k; (case l => k_is); (case c => k_is); (case k => k_is)))
    (case k_till_one_goes => k_is)
    (case a_eaten_shares => k_is)
    (case d_eaten_shares => (refine' Wg.defAt_mk ?l ?c ?k; (case l => k_is); (case c => k_is); (case k => k_is)))
    (case k_eaten_shares => k_is)
    (case a_orders => k_is)
    (case d_orders => (refine' Wg.defAt_mk ?l ?c ?k; (case l => k_is); (case c => k_is); (case k => k_is)))
    (case k_orders => k_is)
    (case a_is_order => k_is)
    (case d_is_order => (refine' Wg.defAt_mk ?l ?c ?k; (case l => k_is); (case c => k_is); (case k => k_is)))
    (case k_is_order => k_is)
    (case a_dearness => k_is)
    (case d_dearness => (refine' Wg.defAt_mk ?l ?c ?k; (case l => k_is); (case c => k_is); (case k => k_is)))
    (case k_dearness => k_is)
    (case a_dearest => k_is)
    (case d_dearest => (refine' Wg.defAt_mk ?l ?c ?k; (case l => k_is); (case c => k_is); (case k => k_is)))
    (case k_dearest => k_is)
    (case a_suits => k_is)
    (case d_suits => (refine' Wg.defAt_mk ?l ?c ?k; (case l => k_is); (case c => k_is); (case k => k_is)))
    (case k_suits => k_is)
    (case a_is_good => k_is)
    (case d_is_good => (refine' Wg.defAt_mk ?l ?c ?k; (case l => k_is); (case c => k_is); (case k => k_is)))
    (case k_is_good => k_is)
    (case a_in_turn => k_is)
    (case d_in_turn => (refine' Wg.defAt_mk ?l ?c ?k; (case l => k_is); (case c => k_is); (case k => k_is)))
    (case k_in_turn => k_is)
    (case a_first_order => k_is)
    (case d_first_order => (refine' Wg.defAt_mk ?l ?c ?k; (case l => k_is); (case c => k_is); (case k => k_is)))
    (case k_first_order => k_is)
    (case a_people_in => k_is)
    (case d_people_in => (refine' Wg.defAt_mk ?l ?c ?k; (case l => k_is); (case c => k_is); (case k => k_is)))
    (case k_people_in => k_is)
    (case a_handed_round => k_is)
    (case d_handed_round => (refine' Wg.defAt_mk ?l ?c ?k; (case l => k_is); (case c => k_is); (case k => k_is)))
    (case k_handed_round => k_is)
    (case a_does_better => k_is)
    (case d_does_better => (refine' Wg.defAt_mk ?l ?c ?k; (case l => k_is); (case c => k_is); (case k => k_is)))
    (case k_does_better => k_is)
    (case a_least_group => k_is)
    (case d_least_group => (refine' Wg.defAt_mk ?l ?c ?k; (case l => k_is); (case c => k_is); (case k => k_is)))
    (case k_least_group => k_is)
    (case a_looked_at => k_is)
    (case d_looked_at => (refine' Wg.defAt_mk ?l ?c ?k; (case l => k_is); (case c => k_is); (case k => k_is)))
    (case k_looked_at => k_is)
    (case a_ring_of => k_is)
    (case d_ring_of => (refine' Wg.defAt_mk ?l ?c ?k; (case l => k_is); (case c => k_is); (case k => k_is)))
    (case k_ring_of => k_is)
    (case a_exchanged => k_is)
    (case d_exchanged => (refine' Wg.defAt_mk ?l ?c ?k; (case l => k_is); (case c => k_is); (case k => k_is)))
    (case k_exchanged => k_is)
    (case a_room_for => k_is)
    (case d_room_for => (refine' Wg.defAt_mk ?l ?c ?k; (case l => k_is); (case c => k_is); (case k => k_is)))
    (case k_room_for => k_is)
    (case a_asked => k_is)
    (case d_asked => (refine' Wg.defAt_mk ?l ?c ?k; (case l => k_is); (case c => k_is); (case k => k_is)))
    (case k_asked => k_is)
    (case a_answer => k_is)
    (case d_answer => (refine' Wg.defAt_mk ?l ?c ?k; (case l => k_is); (case c => k_is); (case k => k_is)))
    (case k_answer => k_is)
    (case a_answers => k_is)
    (case d_answers => (refine' Wg.defAt_mk ?l ?c ?k; (case l => k_is); (case c => k_is); (case k => k_is)))
    (case k_answers => k_is)
    (case a_F___init__ => k_is)
    (case i_F___init__ => k_is)
    (case d_F___init__ => (refine' Wg.defAt_mk ?l ?c ?k; (case l => k_is); (case c => k_is); (case k => k_is)))
    (case k_F___init__ => k_is)
    (case a_F_begin => k_is)
    (case i_F_begin => k_is)
    (case d_F_begin => (refine' Wg.defAt_mk ?l ?c ?k; (case l => k_is); (case c => k_is); (case k => k_is)))
    (case k_F_begin => k_is)
    (case a_F_people => k_is)
    (case i_F_people => k_is)
    (case d_F_people => (refine' Wg.defAt_mk ?l ?c ?k; (case l => k_is); (case c => k_is); (case k => k_is)))
    (case k_F_people => k_is)
    (case a_F_is_gift => k_is)
    (case i_F_is_gift => k_is)
    (case d_F_is_gift => (refine' Wg.defAt_mk ?l ?c ?k; (case l => k_is); (case c => k_is); (case k => k_is)))
    (case k_F_is_gift => k_is)
    (case a_F_wish => k_is)
    (case i_F_wish => k_is)
    (case d_F_wish => (refine' Wg.defAt_mk ?l ?c ?k; (case l => k_is); (case c => k_is); (case k => k_is)))
    (case k_F_wish => k_is)
    (case a_F_refusal => k_is)
    (case i_F_refusal => k_is)
    (case d_F_refusal => (refine' Wg.defAt_mk ?l ?c ?k; (case l => k_is); (case c => k_is); (case k => k_is)))
    (case k_F_refusal => k_is)
    (case a_F_fits => k_is)
    (case i_F_fits => k_is)
    (case d_F_fits => (refine' Wg.defAt_mk ?l ?c ?k; (case l => k_is); (case c => k_is); (case k => k_is)))
    (case k_F_fits => k_is)
    (case a_F_trade => k_is)
    (case i_F_trade => k_is)
    (case d_F_trade => (refine' Wg.defAt_mk ?l ?c ?k; (case l => k_is); (case c => k_is); (case k => k_is)))
    (case k_F_trade => k_is)
    (case a_F_turns => k_is)
    (case i_F_turns => k_is)
    (case d_F_turns => (refine' Wg.defAt_mk ?l ?c ?k; (case l => k_is); (case c => k_is); (case k => k_is)))
    (case k_F_turns => k_is)
    (case a_F_good => k_is)
    (case i_F_good => k_is)
    (case d_F_good => (refine' Wg.defAt_mk ?l ?c ?k; (case l => k_is); (case c => k_is); (case k => k_is)))
    (case k_F_good => k_is)
    (case a_F_order => k_is)
    (case i_F_order => k_is)
    (case d_F_order => (refine' Wg.defAt_mk ?l ?c ?k; (case l => k_is); (case c => k_is); (case k => k_is)))
    (case k_F_order => k_is)
    (case a_F_group => k_is)
    (case i_F_group => k_is)
    (case d_F_group => (refine' Wg.defAt_mk ?l ?c ?k; (case l => k_is); (case c => k_is); (case k => k_is)))
    (case k_F_group => k_is)
    (case a_F_eat => k_is)
    (case i_F_eat => k_is)
    (case d_F_eat => (refine' Wg.defAt_mk ?l ?c ?k; (case l => k_is); (case c => k_is); (case k => k_is)))
    (case k_F_eat => k_is)
    (case a_C___init__ => k_is)
    (case i_C___init__ => k_is)
    (case d_C___init__ => (refine' Wg.defAt_mk ?l ?c ?k; (case l => k_is); (case c => k_is); (case k => k_is)))
    (case k_C___init__ => k_is)
    (case a_C_more => k_is)
    (case i_C_more => k_is)
    (case d_C_more => (refine' Wg.defAt_mk ?l ?c ?k; (case l => k_is); (case c => k_is); (case k => k_is)))
    (case k_C_more => k_is)
    (case a_C_one => k_is)
    (case i_C_one => k_is)
    (case d_C_one => (refine' Wg.defAt_mk ?l ?c ?k; (case l => k_is); (case c => k_is); (case k => k_is)))
    (case k_C_one => k_is)
    (case a_C_row => k_is)
    (case i_C_row => k_is)
    (case d_C_row => (refine' Wg.defAt_mk ?l ?c ?k; (case l => k_is); (case c => k_is); (case k => k_is)))
    (case k_C_row => k_is)
    (case pgCF => k_is)
    (case hdCF => k_is)
    (case poCF => k_is)
    (case saCF => k_is)
    (case mkCF => k_is)
    (case kcCF => k_is)
    (case pgCC => k_is)
    (case hdCC => k_is)
    (case poCC => k_is)
    (case saCC => k_is)
    (case mkCC => k_is)
    (case kcCC => k_is)
    (case nW => k_is)
    (case nN => k_is)
    (case nT => k_is)
    (case z_len => k_is)
    (case z_range => k_is)
    (case z_list => k_is)
    (case z_sorted => k_is)
    (case z_enumerate => k_is)
    (case z_int => k_is)
    (case n_NOT_SO => k_is)
    (case n_TOO_MANY => k_is)
    (case n_NO_WISHES => k_is)
    (case n_NOBODY => k_is)
    (case n_MOST_PEOPLE => k_is)
    (case n_MOST_EATERS => k_is)
    (case n_MOST_SHARES => k_is)
    (case n_BEGIN => k_is)
    (case n_PEOPLE => k_is)
    (case n_WISH => k_is)
    (case n_TRADE => k_is)
    (case n_TURNS => k_is)
    (case n_GOOD => k_is)
    (case n_ORDER => k_is)
    (case n_GROUP => k_is)
    (case tN => (refine' Wg.tup_at (x := 0) (y := 1) ?l; (case l => k_is)))
    (case tW => (refine' Wg.tup_at (x := 1) (y := 1) ?l; (case l => k_is)))
  case S =>
    intro K H xs a hO hwi hask hx
    cases hx with
    | cons h1 h2 =>
      cases h2
      cases h1 with
      | lst hs ha =>
        have e := L2.ints_dw a.1 _ ha
        subst e
        exact ⟨_, a.1, rfl, hs, hask, fun H' p hp => .lst (L2.SqL.of hp) (L2.dw_ints _)⟩
#print axioms PySem.Challenge.cw_wishgiving_s01_answers_holds
