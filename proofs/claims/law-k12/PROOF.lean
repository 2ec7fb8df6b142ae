import PyProof.Rows.All
import Wide.All
import OpenK.AllK
import Wide.FinOn
import HandS.ForMost
import HandS.SetFor
import HandS.Strs
import HandS.Conv
import HandS.Style
import HandS.Deep
import HandS.TupAny
import HandS.AnyAll
import HandS.EndTab
import HandS.NoneIn
import HandS.ExcOwn
import KE.KDictKeyed
import KE.KSuper
import HandS.TupLen
import KE.KDictDisplayH
import HandS.Nested
import HandS.HeadWalk
import KE.RegKSuper
import PySem.Challenge.RW_twoways_k12_whole_readers_of_the_same_wo
import HandS.Walk
import HandS.WideMore
import HandS.EndOwn
set_option Elab.async false
set_option linter.all false
set_option maxRecDepth 100000
set_option maxHeartbeats 8000000
section
/-! Lists of values that words have: closing a list under a product. Plain Lean. -/
namespace My
/-- a table of values -/
structure Tab (α : Type) where
  e : α
  l : Nat → α
  j : α → α → α
  acc : α → Bool

section
variable {α β : Type} [DecidableEq α] [DecidableEq β]
def adds (f l : List α) : List α := l.foldl (fun f x => if x ∈ f then f else f ++ [x]) f
theorem adds_nil (f : List α) : adds f [] = f := rfl
theorem adds_cons (f : List α) (x : α) (l : List α) : adds f (x :: l) = adds (if x ∈ f then f else f ++ [x]) l := rfl
theorem adds_append (f a b : List α) : adds f (a ++ b) = adds (adds f a) b := by
  unfold adds; rw [List.foldl_append]
theorem adds_snoc (f a : List α) (x : α) : adds f (a ++ [x]) = if x ∈ adds f a then adds f a else adds f a ++ [x] := by
  rw [adds_append]; rfl
theorem mem_adds {x : α} : ∀ {l f : List α}, x ∈ adds f l ↔ x ∈ f ∨ x ∈ l
  | [], f => by simp [adds_nil]
  | y :: l, f => by
    rw [adds_cons, mem_adds (l := l)]
    split
    · rename_i h
      simp only [List.mem_cons]
      constructor
      · rintro (q | q)
        · exact .inl q
        · exact .inr (.inr q)
      · rintro (q | q | q)
        · exact .inl q
        · subst q; exact .inl h
        · exact .inr q
    · simp only [List.mem_cons, List.mem_append, List.not_mem_nil, or_false, or_assoc]
theorem adds_nodup : ∀ {l f : List α}, f.Nodup → (adds f l).Nodup
  | [], f, h => h
  | y :: l, f, h => by
    rw [adds_cons]
    refine adds_nodup (l := l) ?_
    split
    · exact h
    · rename_i hy
      rw [List.nodup_append]
      refine ⟨h, by simp, ?_⟩
      intro a ha b hb
      rw [List.mem_singleton] at hb
      subst hb
      intro e; subst e; exact hy ha
theorem adds_prefix : ∀ (l f : List α), ∃ r, adds f l = f ++ r
  | [], f => ⟨[], by simp [adds_nil]⟩
  | y :: l, f => by
    rw [adds_cons]
    obtain ⟨r, e⟩ := adds_prefix l (if y ∈ f then f else f ++ [y])
    rw [e]
    split
    · exact ⟨r, rfl⟩
    · exact ⟨[y] ++ r, by simp⟩
theorem adds_self : ∀ {l f : List α}, (∀ x ∈ l, x ∈ f) → adds f l = f
  | [], f, _ => rfl
  | y :: l, f, h => by
    rw [adds_cons, if_pos (h y (by simp))]
    exact adds_self fun x hx => h x (by simp [hx])
theorem adds_of_eq {l f : List α} (h : adds f l = f) : ∀ x ∈ l, x ∈ f := fun x hx => by
  rw [← h, mem_adds]; exact .inr hx
theorem adds_len_lt {l f : List α} {x : α} (hx : x ∈ l) (hn : x ∉ f) : f.length < (adds f l).length := by
  obtain ⟨r, e⟩ := adds_prefix l f
  have hm : x ∈ adds f l := mem_adds.mpr (.inr hx)
  rw [e] at hm ⊢
  rw [List.length_append]
  cases r with
  | nil => simp at hm; exact absurd hm hn
  | cons a r => simp
theorem adds_filter (g : List α) : ∀ {l f : List α}, (∀ x ∈ g, x ∈ f) → adds f l = adds f (l.filter fun x => decide (x ∉ g))
  | [], f, _ => rfl
  | y :: l, f, h => by
    rw [List.filter_cons]
    by_cases hy : y ∈ g
    · have : decide (y ∉ g) = false := by simp [hy]
      rw [this, adds_cons, if_pos (h y hy)]
      exact adds_filter g h
    · have : decide (y ∉ g) = true := by simp [hy]
      rw [this]
      simp only [if_true]
      rw [adds_cons, adds_cons]
      refine adds_filter g fun x hx => ?_
      split
      · exact h x hx
      · simp [h x hx]

/-- distinct members of a list: not more than the list has -/
theorem nodup_len : ∀ {l d : List α}, l.Nodup → (∀ x ∈ l, x ∈ d) → l.length ≤ d.length
  | [], d, _, _ => Nat.zero_le _
  | x :: l, d, h, hs => by
    rw [List.nodup_cons] at h
    have hx : x ∈ d := hs x (by simp)
    have ih := nodup_len (l := l) (d := d.erase x) h.2 fun y hy => by
      have : y ≠ x := fun e => h.1 (e ▸ hy)
      exact (List.mem_erase_of_ne this).mpr (hs y (by simp [hy]))
    rw [List.length_erase_of_mem hx] at ih
    have : 0 < d.length := List.length_pos_of_mem hx
    simp only [List.length_cons]
    omega

def prods (T : Tab α) (xs ys : List α) : List α := xs.flatMap fun x => ys.map (T.j x)
theorem mem_prods {T : Tab α} {xs ys : List α} {z : α} : z ∈ prods T xs ys ↔ ∃ x ∈ xs, ∃ y ∈ ys, T.j x y = z := by
  unfold prods; simp [List.mem_flatMap, List.mem_map]
/-- the program's own products: not those of two of the first 'old' -/
def madeP (T : Tab α) (known : List α) (old : Nat) : List α := known.zipIdx.flatMap fun p => (if p.2 < old then known.drop old else known).map (T.j p.1)
def lets (T : Tab α) (n : Nat) : List α := (List.range n).map T.l
def f0 (T : Tab α) (n : Nat) : List α := adds [T.e] (lets T n)
def step (T : Tab α) (f : List α) : List α := adds f (prods T f f)
def iter (T : Tab α) (n : Nat) : Nat → List α
  | 0 => f0 T n
  | k + 1 => step T (iter T n k)
structure IsClo (T : Tab α) (n : Nat) (L : List α) : Prop where
  it : ∃ k, L = iter T n k
  st : step T L = L

theorem iter_nodup (T : Tab α) (n : Nat) : ∀ k, (iter T n k).Nodup
  | 0 => adds_nodup (by simp)
  | k + 1 => adds_nodup (iter_nodup T n k)
theorem iter_mono (T : Tab α) (n : Nat) {x : α} (k : Nat) (h : x ∈ iter T n k) : x ∈ iter T n (k + 1) := mem_adds.mpr (.inl h)
theorem f0_iter (T : Tab α) (n : Nat) {x : α} : ∀ k, x ∈ f0 T n → x ∈ iter T n k
  | 0, h => h
  | k + 1, h => iter_mono T n k (f0_iter T n k h)
theorem iter_ind {T : Tab α} {n : Nat} {P : α → Prop} (he : P T.e) (hl : ∀ a, a < n → P (T.l a)) (hj : ∀ x y, P x → P y → P (T.j x y)) : ∀ k, ∀ x ∈ iter T n k, P x
  | 0, x, h => by
    rcases mem_adds.mp h with q | q
    · rw [List.mem_singleton] at q; rw [q]; exact he
    · obtain ⟨a, ha, rfl⟩ := List.mem_map.mp q
      exact hl a (List.mem_range.mp ha)
  | k + 1, x, h => by
    rcases mem_adds.mp h with q | q
    · exact iter_ind he hl hj k x q
    · obtain ⟨a, ha, b, hb, rfl⟩ := mem_prods.mp q
      exact hj a b (iter_ind he hl hj k a ha) (iter_ind he hl hj k b hb)
theorem iter_stab {T : Tab α} {n k : Nat} (h : step T (iter T n k) = iter T n k) : ∀ i, iter T n (k + i) = iter T n k
  | 0 => rfl
  | i + 1 => by
    show step T (iter T n (k + i)) = _
    rw [iter_stab h i, h]
theorem IsClo.uniq {T : Tab α} {n : Nat} {L M : List α} (h : IsClo T n L) (g : IsClo T n M) : L = M := by
  obtain ⟨k, rfl⟩ := h.it
  obtain ⟨i, rfl⟩ := g.it
  rcases Nat.le_total k i with q | q
  · have := iter_stab h.st (i - k)
    rw [show k + (i - k) = i by omega] at this
    exact this.symm
  · have := iter_stab g.st (k - i)
    rw [show i + (k - i) = k by omega] at this
    exact this
theorem IsClo.nodup {T : Tab α} {n : Nat} {L : List α} (h : IsClo T n L) : L.Nodup := by
  obtain ⟨k, rfl⟩ := h.it; exact iter_nodup _ _ _
theorem IsClo.e {T : Tab α} {n : Nat} {L : List α} (h : IsClo T n L) : T.e ∈ L := by
  obtain ⟨k, rfl⟩ := h.it
  exact f0_iter _ _ _ (mem_adds.mpr (.inl (by simp)))
theorem IsClo.l {T : Tab α} {n : Nat} {L : List α} (h : IsClo T n L) {a : Nat} (ha : a < n) : T.l a ∈ L := by
  obtain ⟨k, rfl⟩ := h.it
  exact f0_iter _ _ _ (mem_adds.mpr (.inr (List.mem_map.mpr ⟨a, List.mem_range.mpr ha, rfl⟩)))
theorem IsClo.j {T : Tab α} {n : Nat} {L : List α} (h : IsClo T n L) {x y : α} (hx : x ∈ L) (hy : y ∈ L) : T.j x y ∈ L :=
  adds_of_eq h.st _ (mem_prods.mpr ⟨x, hx, y, hy, rfl⟩)
theorem IsClo.ind {T : Tab α} {n : Nat} {L : List α} (h : IsClo T n L) {P : α → Prop} (he : P T.e) (hl : ∀ a, a < n → P (T.l a)) (hj : ∀ x y, P x → P y → P (T.j x y)) : ∀ x ∈ L, P x := by
  obtain ⟨k, rfl⟩ := h.it; exact iter_ind he hl hj k
/-- bounded: in a list that is closed -/
theorem iter_len {T : Tab α} {n : Nat} {d : List α} (he : T.e ∈ d) (hl : ∀ a, a < n → T.l a ∈ d) (hj : ∀ x y, x ∈ d → y ∈ d → T.j x y ∈ d) (k : Nat) : (iter T n k).length ≤ d.length :=
  nodup_len (iter_nodup T n k) (iter_ind (P := (· ∈ d)) he hl hj k)

/-! ### the program's loop -/
/-- the products that the program makes and all products: the same new ones -/
theorem filt_flat {γ δ : Type} (p : δ → Bool) (f : γ → List δ) : ∀ l : List γ, (l.flatMap f).filter p = l.flatMap fun x => (f x).filter p
  | [] => rfl
  | x :: l => by rw [List.flatMap_cons, List.flatMap_cons, List.filter_append, filt_flat p f l]
theorem flat_congr {γ δ : Type} {f g : γ → List δ} : ∀ {l : List γ}, (∀ x ∈ l, f x = g x) → l.flatMap f = l.flatMap g
  | [], _ => rfl
  | x :: l, h => by rw [List.flatMap_cons, List.flatMap_cons, h x (by simp), flat_congr fun y hy => h y (by simp [hy])]
theorem made_filter (T : Tab α) (known : List α) (old : Nat) (h : ∀ x ∈ known.take old, ∀ y ∈ known.take old, T.j x y ∈ known) :
    (madeP T known old).filter (fun x => decide (x ∉ known)) = (prods T known known).filter (fun x => decide (x ∉ known)) := by
  have e : prods T known known = known.zipIdx.flatMap fun p => known.map (T.j p.1) := by
    unfold prods
    have : known = known.zipIdx.map (·.1) := by rw [List.zipIdx_map_fst]
    conv => lhs; rw [show known.flatMap (fun x => known.map (T.j x)) = (known.zipIdx.map (·.1)).flatMap (fun x => known.map (T.j x)) by rw [← this]]
    rw [List.flatMap_map]
  rw [e]
  unfold madeP
  rw [filt_flat, filt_flat]
  refine flat_congr fun p hp => ?_
  obtain ⟨x, i⟩ := p
  have hx := List.mem_zipIdx hp
  simp only
  split
  · rename_i hi
    have hxi : x ∈ known.take old := by
      rw [List.mem_take_iff_getElem]
      refine ⟨i, by omega, ?_⟩
      have := hx.2.2
      simp at this
      exact this.symm
    conv => rhs; rw [← List.take_append_drop old known]
    rw [List.map_append, List.filter_append]
    have z : ((known.take old).map (T.j x)).filter (fun y => decide (y ∉ known)) = [] := by
      rw [List.filter_eq_nil_iff]
      intro y hy
      obtain ⟨b, hb, rfl⟩ := List.mem_map.mp hy
      have := h x hxi b hb
      simp [this]
    have z' : ((known.take old).map (T.j x)).filter (fun y => decide (y ∉ known.take old ++ known.drop old)) = [] := by
      rw [List.take_append_drop]; exact z
    rw [z', List.nil_append, List.take_append_drop]
  · rfl
theorem adds_made (T : Tab α) (known : List α) (old : Nat) (h : ∀ x ∈ known.take old, ∀ y ∈ known.take old, T.j x y ∈ known) : adds known (madeP T known old) = step T known := by
  unfold step
  rw [adds_filter known fun _ q => q, made_filter T known old h, ← adds_filter known fun _ q => q]

/-- what holds at the program's while: more, or found is the list -/
structure Loop (T : Tab α) (n : Nat) (found made : List α) (old : Nat) (more : Bool) : Prop where
  yes : more = true → ∃ k, adds found made = iter T n k ∧ ∀ x ∈ (iter T n k).take old, ∀ y ∈ (iter T n k).take old, T.j x y ∈ iter T n k
  no : more = false → IsClo T n found
theorem Loop.start (T : Tab α) (n : Nat) : Loop T n [T.e] (lets T n) 0 true := ⟨fun _ => ⟨0, rfl, by simp⟩, fun h => nomatch h⟩
theorem Loop.next {T : Tab α} {n : Nat} {found made : List α} {old : Nat} (L : Loop T n found made old true) :
    Loop T n (adds found made) (madeP T (adds found made) old) (adds found made).length ((madeP T (adds found made) old).any fun x => decide (x ∉ adds found made)) := by
  obtain ⟨k, e, h⟩ := L.yes rfl
  rw [e]
  have e2 := adds_made T (iter T n k) old h
  refine ⟨fun _ => ⟨k + 1, e2, fun x hx y hy => ?_⟩, fun q => ⟨⟨k, rfl⟩, ?_⟩⟩
  · have tk : (iter T n (k + 1)).take (iter T n k).length = iter T n k := by
      obtain ⟨r, er⟩ := adds_prefix (prods T (iter T n k) (iter T n k)) (iter T n k)
      show (step T (iter T n k)).take _ = _
      unfold step
      rw [er, List.take_left']
      rfl
    rw [tk] at hx hy
    exact mem_adds.mpr (.inr (mem_prods.mpr ⟨x, hx, y, hy, rfl⟩))
  · rw [← e2]
    refine adds_self fun x hx => ?_
    have := List.any_eq_false.mp q x hx
    simpa using this
/-- a number that falls -/
def lmeas (N : Nat) (found made : List α) (more : Bool) : Nat := if more = true then N + 1 - (adds found made).length else 0
theorem Loop.falls {T : Tab α} {n N : Nat} {found made : List α} {old : Nat} (L : Loop T n found made old true) (hN : ∀ k, (iter T n k).length ≤ N) :
    lmeas N (adds found made) (madeP T (adds found made) old) ((madeP T (adds found made) old).any fun x => decide (x ∉ adds found made)) < lmeas N found made true := by
  obtain ⟨k, e, h⟩ := L.yes rfl
  have e2 := adds_made T (iter T n k) old h
  have h1 := hN k
  unfold lmeas
  rw [e]
  rw [if_pos rfl]
  split
  · rename_i q
    obtain ⟨x, hx, hn⟩ := List.any_eq_true.mp q
    have hn' : x ∉ iter T n k := by simpa using hn
    have := adds_len_lt hx hn'
    omega
  · omega
theorem Loop.len {T : Tab α} {n N : Nat} {found made : List α} {old : Nat} (L : Loop T n found made old true) (hN : ∀ k, (iter T n k).length ≤ N) : (adds found made).length ≤ N := by
  obtain ⟨k, e, h⟩ := L.yes rfl
  rw [e]; exact hN k

/-! ### the law's own loop: all products each round -/
/-- ahead of round k: found and what is to be added -/
structure LLoop (T : Tab α) (n k : Nat) (found made : List α) : Prop where
  ad : adds found made = iter T n k
  st : k = 0 → found = [T.e]
  pr : 0 < k → found = iter T n (k - 1) ∧ k ≤ found.length
theorem LLoop.start (T : Tab α) (n : Nat) : LLoop T n 0 [T.e] (lets T n) := ⟨rfl, fun _ => rfl, fun h => absurd h (by omega)⟩
theorem LLoop.next {T : Tab α} {n k : Nat} {found made : List α} (L : LLoop T n k found made) (h : ¬ (0 < k ∧ (adds found made).length = found.length)) :
    LLoop T n (k + 1) (adds found made) (prods T (adds found made) (adds found made)) := by
  refine ⟨?_, fun h => absurd h (by omega), fun _ => ⟨L.ad, ?_⟩⟩
  · rw [L.ad]; rfl
  · obtain ⟨r, e⟩ := adds_prefix made found
    by_cases hk : 0 < k
    · have h1 := (L.pr hk).2
      have : (adds found made).length ≠ found.length := fun q => h ⟨hk, q⟩
      rw [e] at this ⊢
      rw [List.length_append] at this ⊢
      omega
    · have : found = [T.e] := L.st (by omega)
      rw [e, this]
      simp
      omega
theorem LLoop.done {T : Tab α} {n k : Nat} {found made : List α} (L : LLoop T n k found made) (hk : 0 < k) (h : (adds found made).length = found.length) : IsClo T n (adds found made) := by
  obtain ⟨h1, h2⟩ := L.pr hk
  obtain ⟨r, e⟩ := adds_prefix made found
  have : r = [] := by
    rw [e, List.length_append] at h
    exact List.eq_nil_of_length_eq_zero (by omega)
  subst this
  rw [List.append_nil] at e
  refine ⟨⟨k, L.ad⟩, ?_⟩
  rw [e, h1]
  have : step T (iter T n (k - 1)) = iter T n k := by
    rw [show k = k - 1 + 1 by omega]; rfl
  rw [this, ← L.ad, e, h1]
theorem LLoop.bound {T : Tab α} {n k N : Nat} {found made : List α} (L : LLoop T n k found made) (hN : ∀ k, (iter T n k).length ≤ N) (hk : 0 < k) : k ≤ N := by
  obtain ⟨h1, h2⟩ := L.pr hk
  have := hN (k - 1)
  rw [← h1] at this
  omega
end
end My
end

section
/-! Numbered readers, words. -/
namespace My
theorem getD_lt {γ : Type} {l : List γ} {i : Nat} (d : γ) (h : i < l.length) : l.getD i d = l[i] := by
  rw [List.getD_eq_getElem?_getD, List.getElem?_eq_getElem h]; rfl
section
variable {α β : Type} [DecidableEq α] [DecidableEq β]
/-- a reader as data -/
structure Rdr where
  e : Nat
  l : List Nat
  m : List (List Nat)
  a : List Nat
  deriving DecidableEq
def Rdr.tab (R : Rdr) : Tab Nat := ⟨R.e, fun a => R.l.getD a 0, fun x y => (R.m.getD x []).getD y 0, fun x => decide (x ∈ R.a)⟩
def tabOf (T : Tab α) (n : Nat) (L : List α) : Rdr where
  e := L.idxOf T.e
  l := (List.range n).map fun a => L.idxOf (T.l a)
  m := L.map fun x => L.map fun y => L.idxOf (T.j x y)
  a := (L.filter T.acc).map fun x => L.idxOf x

structure Shape (n : Nat) (R : Rdr) : Prop where
  e : R.e < R.m.length
  ln : R.l.length = n
  l : ∀ x ∈ R.l, x < R.m.length
  row : ∀ r ∈ R.m, r.length = R.m.length
  ent : ∀ r ∈ R.m, ∀ y ∈ r, y < R.m.length
  acc : ∀ x ∈ R.a, x < R.m.length
theorem Shape.lt {n : Nat} {R : Rdr} (S : Shape n R) {a : Nat} (h : a < n) : R.tab.l a < R.m.length := by
  have h' : a < R.l.length := by rw [S.ln]; exact h
  show R.l.getD a 0 < _
  rw [getD_lt _ h']
  exact S.l _ (List.getElem_mem h')
theorem Shape.jt {n : Nat} {R : Rdr} (S : Shape n R) {x y : Nat} (hx : x < R.m.length) (hy : y < R.m.length) : R.tab.j x y < R.m.length := by
  show (R.m.getD x []).getD y 0 < _
  rw [getD_lt _ hx]
  have hm := List.getElem_mem hx
  have hy' : y < (R.m[x]).length := by rw [S.row _ hm]; exact hy
  rw [getD_lt _ hy']
  exact S.ent _ hm _ (List.getElem_mem hy')
/-- unit and order -/
structure Mon (T : Tab α) (n : Nat) (D : α → Prop) : Prop where
  e : D T.e
  l : ∀ a, a < n → D (T.l a)
  j : ∀ x y, D x → D y → D (T.j x y)
  u1 : ∀ x, D x → T.j T.e x = x
  u2 : ∀ x, D x → T.j x T.e = x
  as : ∀ x y z, D x → D y → D z → T.j (T.j x y) z = T.j x (T.j y z)
structure Valid (n : Nat) (R : Rdr) : Prop extends Shape n R where
  u1 : ∀ x, x < R.m.length → R.tab.j R.e x = x
  u2 : ∀ x, x < R.m.length → R.tab.j x R.e = x
  as : ∀ x y z, x < R.m.length → y < R.m.length → z < R.m.length → R.tab.j (R.tab.j x y) z = R.tab.j x (R.tab.j y z)
theorem Valid.mon {n : Nat} {R : Rdr} (V : Valid n R) : Mon R.tab n (· < R.m.length) :=
  ⟨V.e, fun a h => V.toShape.lt h, fun x y hx hy => V.toShape.jt hx hy, V.u1, V.u2, V.as⟩
theorem Valid.of {n : Nat} {R : Rdr} (S : Shape n R) (M : Mon R.tab n (· < R.m.length)) : Valid n R := { S with u1 := M.u1, u2 := M.u2, as := M.as }

/-! ### values of words -/
def val (T : Tab α) (w : List Nat) : α := w.foldl (fun x a => T.j x (T.l a)) T.e
def takes (T : Tab α) (w : List Nat) : Bool := T.acc (val T w)
def Word (n : Nat) (w : List Nat) : Prop := ∀ a ∈ w, a < n
theorem val_snoc (T : Tab α) (w : List Nat) (a : Nat) : val T (w ++ [a]) = T.j (val T w) (T.l a) := by
  unfold val; rw [List.foldl_append]; rfl
theorem snoc_ind {P : List Nat → Prop} (h0 : P []) (hs : ∀ w a, P w → P (w ++ [a])) : ∀ w, P w := fun w => by
  have : ∀ k (w : List Nat), w.length = k → P w := by
    intro k
    induction k with
    | zero => intro w h; rw [List.eq_nil_of_length_eq_zero h]; exact h0
    | succ k ih =>
      intro w h
      have hne : w ≠ [] := fun e => by subst e; simp at h
      rw [← List.dropLast_concat_getLast hne]
      refine hs _ _ (ih _ ?_)
      rw [List.length_dropLast, h]; rfl
  exact this _ w rfl
theorem Word.app {n : Nat} {w v : List Nat} : Word n (w ++ v) ↔ Word n w ∧ Word n v := by
  unfold Word
  constructor
  · intro h; exact ⟨fun a ha => h a (by simp [ha]), fun a ha => h a (by simp [ha])⟩
  · rintro ⟨h1, h2⟩ a ha
    rcases List.mem_append.mp ha with q | q
    · exact h1 a q
    · exact h2 a q
theorem Word.one {n a : Nat} : Word n [a] ↔ a < n := by unfold Word; simp
theorem Word.nil {n : Nat} : Word n [] := by unfold Word; simp
theorem Mon.val {T : Tab α} {n : Nat} {D : α → Prop} (M : Mon T n D) : ∀ w, Word n w → D (val T w) := by
  refine snoc_ind (fun _ => M.e) fun w a ih h => ?_
  obtain ⟨h1, h2⟩ := Word.app.mp h
  rw [val_snoc]
  exact M.j _ _ (ih h1) (M.l a (Word.one.mp h2))
theorem Mon.app {T : Tab α} {n : Nat} {D : α → Prop} (M : Mon T n D) (w : List Nat) (hw : Word n w) : ∀ v, Word n v → My.val T (w ++ v) = T.j (My.val T w) (My.val T v) := by
  refine snoc_ind (fun _ => ?_) fun v a ih h => ?_
  · rw [List.append_nil]; exact (M.u2 _ (M.val w hw)).symm
  · obtain ⟨h1, h2⟩ := Word.app.mp h
    rw [← List.append_assoc, val_snoc, val_snoc, ih h1, M.as _ _ _ (M.val w hw) (M.val v h1) (M.l a (Word.one.mp h2))]
/-- every value of the list is a word's -/
theorem Mon.word {T : Tab α} {n : Nat} {D : α → Prop} (M : Mon T n D) {L : List α} (C : IsClo T n L) : ∀ x ∈ L, ∃ w, Word n w ∧ My.val T w = x := by
  refine C.ind (P := fun x => ∃ w, Word n w ∧ My.val T w = x) ⟨[], Word.nil, rfl⟩ (fun a ha => ⟨[a], Word.one.mpr ha, ?_⟩) fun x y ⟨w, hw, ew⟩ ⟨v, hv, ev⟩ => ⟨w ++ v, Word.app.mpr ⟨hw, hv⟩, ?_⟩
  · show T.j T.e (T.l a) = _
    exact M.u1 _ (M.l a ha)
  · rw [M.app w hw v hv, ew, ev]
theorem IsClo.dom {T : Tab α} {n : Nat} {D : α → Prop} {L : List α} (C : IsClo T n L) (M : Mon T n D) : ∀ x ∈ L, D x := C.ind M.e M.l M.j

/-! ### the numbered reader of a closed list -/
theorem idx_lt {L : List α} {x : α} (h : x ∈ L) : L.idxOf x < L.length := List.idxOf_lt_length_of_mem h
theorem idx_get {L : List α} {x : α} (h : x ∈ L) : L[L.idxOf x]? = some x := by
  rw [List.getElem?_eq_getElem (idx_lt h)]
  congr 1
  exact List.getElem_idxOf (idx_lt h)
theorem idx_inj {L : List α} {x y : α} (hx : x ∈ L) (hy : y ∈ L) (e : L.idxOf x = L.idxOf y) : x = y := by
  have a := idx_get hx
  have b := idx_get hy
  rw [e, b] at a
  exact (Option.some.inj a).symm
theorem idx_of_get {L : List α} (hn : L.Nodup) {i : Nat} {x : α} (h : L[i]? = some x) : L.idxOf x = i := by
  obtain ⟨hi, e⟩ := List.getElem?_eq_some_iff.mp h
  subst e
  exact List.Nodup.idxOf_getElem hn i hi
theorem tabOf_j {T : Tab α} {n : Nat} {L : List α} {x y : α} (hx : x ∈ L) (hy : y ∈ L) : (tabOf T n L).tab.j (L.idxOf x) (L.idxOf y) = L.idxOf (T.j x y) := by
  show (((L.map fun x => L.map fun y => L.idxOf (T.j x y)).getD (L.idxOf x) []).getD (L.idxOf y) 0) = _
  have e1 : (L.map fun x => L.map fun y => L.idxOf (T.j x y)).getD (L.idxOf x) [] = L.map fun y => L.idxOf (T.j x y) := by
    rw [List.getD_eq_getElem?_getD, List.getElem?_map, idx_get hx]; rfl
  rw [e1, List.getD_eq_getElem?_getD, List.getElem?_map, idx_get hy]
  rfl
theorem tabOf_l {T : Tab α} {n : Nat} {L : List α} {a : Nat} (h : a < n) : (tabOf T n L).tab.l a = L.idxOf (T.l a) := by
  show ((List.range n).map fun a => L.idxOf (T.l a)).getD a 0 = _
  rw [List.getD_eq_getElem?_getD, List.getElem?_map, List.getElem?_range h]
  rfl
theorem tabOf_acc {T : Tab α} {n : Nat} {L : List α} {x : α} (hx : x ∈ L) : (tabOf T n L).tab.acc (L.idxOf x) = T.acc x := by
  show decide (L.idxOf x ∈ (L.filter T.acc).map fun x => L.idxOf x) = _
  rw [Bool.eq_iff_iff, decide_eq_true_iff, List.mem_map]
  constructor
  · rintro ⟨y, hy, e⟩
    obtain ⟨h1, h2⟩ := List.mem_filter.mp hy
    rw [← idx_inj h1 hx e]; exact h2
  · intro h
    exact ⟨x, List.mem_filter.mpr ⟨hx, h⟩, rfl⟩
theorem tabOf_len {T : Tab α} {n : Nat} {L : List α} : (tabOf T n L).m.length = L.length := by
  show (L.map _).length = _; rw [List.length_map]
theorem tabOf_shape {T : Tab α} {n : Nat} {L : List α} (C : IsClo T n L) : Shape n (tabOf T n L) where
  e := by rw [tabOf_len]; exact idx_lt C.e
  ln := by show ((List.range n).map _).length = n; rw [List.length_map, List.length_range]
  l := by
    rw [tabOf_len]
    intro x hx
    obtain ⟨a, ha, rfl⟩ := List.mem_map.mp hx
    exact idx_lt (C.l (List.mem_range.mp ha))
  row := by
    rw [tabOf_len]
    intro r hr
    obtain ⟨x, hx, rfl⟩ := List.mem_map.mp hr
    rw [List.length_map]
  ent := by
    rw [tabOf_len]
    intro r hr y hy
    obtain ⟨x, hx, rfl⟩ := List.mem_map.mp hr
    obtain ⟨z, hz, rfl⟩ := List.mem_map.mp hy
    exact idx_lt (C.j hx hz)
  acc := by
    rw [tabOf_len]
    intro x hx
    obtain ⟨y, hy, rfl⟩ := List.mem_map.mp hx
    exact idx_lt (List.mem_filter.mp hy).1
theorem idx_surj {L : List α} (hn : L.Nodup) {i : Nat} (h : i < L.length) : ∃ x ∈ L, L.idxOf x = i :=
  ⟨L[i], List.getElem_mem h, List.Nodup.idxOf_getElem hn i h⟩
theorem tabOf_valid {T : Tab α} {n : Nat} {D : α → Prop} {L : List α} (C : IsClo T n L) (M : Mon T n D) : Valid n (tabOf T n L) := by
  have S := tabOf_shape C
  have dm := C.dom M
  refine { S with u1 := fun x hx => ?_, u2 := fun x hx => ?_, as := fun x y z hx hy hz => ?_ }
  all_goals rw [tabOf_len] at hx
  · obtain ⟨a, ha, rfl⟩ := idx_surj C.nodup hx
    show (tabOf T n L).tab.j (L.idxOf T.e) _ = _
    rw [tabOf_j C.e ha, M.u1 _ (dm _ ha)]
  · obtain ⟨a, ha, rfl⟩ := idx_surj C.nodup hx
    show (tabOf T n L).tab.j _ (L.idxOf T.e) = _
    rw [tabOf_j ha C.e, M.u2 _ (dm _ ha)]
  · rw [tabOf_len] at hy hz
    obtain ⟨a, ha, rfl⟩ := idx_surj C.nodup hx
    obtain ⟨b, hb, rfl⟩ := idx_surj C.nodup hy
    obtain ⟨c, hc, rfl⟩ := idx_surj C.nodup hz
    rw [tabOf_j ha hb, tabOf_j (C.j ha hb) hc, tabOf_j hb hc, tabOf_j ha (C.j hb hc), M.as _ _ _ (dm _ ha) (dm _ hb) (dm _ hc)]
theorem tabOf_val {T : Tab α} {n : Nat} {L : List α} (C : IsClo T n L) : ∀ w, Word n w → val T w ∈ L ∧ val (tabOf T n L).tab w = L.idxOf (val T w) := by
  refine snoc_ind (fun _ => ⟨C.e, rfl⟩) fun w a ih h => ?_
  obtain ⟨h1, h2⟩ := Word.app.mp h
  obtain ⟨i1, i2⟩ := ih h1
  have ha := Word.one.mp h2
  rw [val_snoc, val_snoc]
  exact ⟨C.j i1 (C.l ha), by rw [i2, tabOf_l ha, tabOf_j i1 (C.l ha)]⟩
/-- a numbered reader accepts the same words -/
theorem tabOf_takes {T : Tab α} {n : Nat} {L : List α} (C : IsClo T n L) (w : List Nat) (h : Word n w) : takes (tabOf T n L).tab w = takes T w := by
  obtain ⟨h1, h2⟩ := tabOf_val C w h
  unfold takes
  rw [h2, tabOf_acc h1]

/-! ### two tables that go together -/
structure Sim (T : Tab α) (U : Tab β) (n : Nat) (R : α → β → Prop) : Prop where
  e : R T.e U.e
  l : ∀ a, a < n → R (T.l a) (U.l a)
  j : ∀ x y x' y', R x x' → R y y' → R (T.j x y) (U.j x' y')
  eq : ∀ x y x' y', R x x' → R y y' → (x = y ↔ x' = y')
  acc : ∀ x x', R x x' → T.acc x = U.acc x'
inductive All2 (R : α → β → Prop) : List α → List β → Prop
  | nil : All2 R [] []
  | cons {x y l m} : R x y → All2 R l m → All2 R (x :: l) (y :: m)
theorem All2.len {R : α → β → Prop} {l : List α} {m : List β} (h : All2 R l m) : l.length = m.length := by
  induction h with
  | nil => rfl
  | cons _ _ ih => simp [ih]
theorem All2.app {R : α → β → Prop} {l l2 : List α} {m m2 : List β} (h : All2 R l m) (g : All2 R l2 m2) : All2 R (l ++ l2) (m ++ m2) := by
  induction h with
  | nil => exact g
  | cons r _ ih => exact .cons r ih
theorem All2.mem {T : Tab α} {U : Tab β} {n : Nat} {R : α → β → Prop} (S : Sim T U n R) {l : List α} {m : List β} (h : All2 R l m) {x : α} {y : β} (r : R x y) : x ∈ l ↔ y ∈ m := by
  induction h with
  | nil => simp
  | cons q _ ih => rw [List.mem_cons, List.mem_cons, ih, S.eq _ _ _ _ r q]
theorem Sim.adds {T : Tab α} {U : Tab β} {n : Nat} {R : α → β → Prop} (S : Sim T U n R) {l : List α} {m : List β} (h : All2 R l m) : ∀ {f : List α} {g : List β}, All2 R f g → All2 R (adds f l) (adds g m) := by
  induction h with
  | nil => exact fun h => h
  | @cons x y _ _ r _ ih =>
    intro f g hf
    rw [adds_cons, adds_cons]
    refine ih ?_
    have e := hf.mem S r
    by_cases hx : x ∈ f
    · rw [if_pos hx, if_pos (e.mp hx)]; exact hf
    · rw [if_neg hx, if_neg fun q => hx (e.mpr q)]
      exact hf.app (.cons r .nil)
theorem All2.map {γ δ : Type} {R : α → β → Prop} {Q : γ → δ → Prop} {f : α → γ} {g : β → δ} {l : List α} {m : List β} (h : All2 R l m) (hf : ∀ x y, R x y → Q (f x) (g y)) : All2 Q (l.map f) (m.map g) := by
  induction h with
  | nil => exact .nil
  | cons r _ ih => exact .cons (hf _ _ r) ih
theorem Sim.prods {T : Tab α} {U : Tab β} {n : Nat} {R : α → β → Prop} (S : Sim T U n R) {l l2 : List α} {m m2 : List β} (h : All2 R l m) (g : All2 R l2 m2) : All2 R (prods T l l2) (prods U m m2) := by
  induction h with
  | nil => exact .nil
  | cons r _ ih =>
    unfold My.prods
    rw [List.flatMap_cons, List.flatMap_cons]
    exact (g.map fun x y q => S.j _ _ _ _ r q).app ih
theorem all2_same {R : α → β → Prop} {f : Nat → α} {g : Nat → β} : ∀ (l : List Nat), (∀ a ∈ l, R (f a) (g a)) → All2 R (l.map f) (l.map g)
  | [], _ => .nil
  | a :: l, h => .cons (h a (by simp)) (all2_same l fun b hb => h b (by simp [hb]))
theorem Sim.iter {T : Tab α} {U : Tab β} {n : Nat} {R : α → β → Prop} (S : Sim T U n R) : ∀ k, All2 R (iter T n k) (iter U n k)
  | 0 => S.adds (all2_same _ fun a ha => S.l a (List.mem_range.mp ha)) (.cons S.e .nil)
  | k + 1 => S.adds (S.prods (S.iter k) (S.iter k)) (S.iter k)
theorem Sim.clo {T : Tab α} {U : Tab β} {n : Nat} {R : α → β → Prop} (S : Sim T U n R) {L : List α} {M : List β} (C : IsClo T n L) (D : IsClo U n M) : All2 R L M := by
  obtain ⟨k, rfl⟩ := C.it
  have h := S.iter k
  have st : step U (My.iter U n k) = My.iter U n k := by
    have h2 := S.iter (k + 1)
    have e1 : (My.iter T n (k + 1)).length = (My.iter T n k).length := congrArg List.length C.st
    obtain ⟨r, er⟩ := adds_prefix (My.prods U (My.iter U n k) (My.iter U n k)) (My.iter U n k)
    have e2 : step U (My.iter U n k) = My.iter U n k ++ r := er
    have l2 := h2.len
    rw [e1, h.len, show My.iter U n (k + 1) = step U (My.iter U n k) from rfl, e2, List.length_append] at l2
    have : r = [] := List.eq_nil_of_length_eq_zero (by omega)
    rw [e2, this, List.append_nil]
  rw [D.uniq ⟨⟨k, rfl⟩, st⟩]
  exact h
theorem Sim.idx {T : Tab α} {U : Tab β} {n : Nat} {R : α → β → Prop} (S : Sim T U n R) {x : α} {y : β} (r : R x y) : ∀ {l : List α} {m : List β}, All2 R l m → l.idxOf x = m.idxOf y
  | _, _, .nil => rfl
  | a :: l, b :: m, .cons q t => by
    rw [List.idxOf_cons, List.idxOf_cons, S.idx r t]
    have e := S.eq _ _ _ _ q r
    by_cases h : a = x
    · have h' := e.mp h
      simp [h, h']
    · have h' : ¬ b = y := fun z => h (e.mpr z)
      have b1 : (a == x) = false := beq_eq_false_iff_ne.mpr h
      have b2 : (b == y) = false := beq_eq_false_iff_ne.mpr h'
      rw [b1, b2]
theorem all2_eq {γ : Type} : ∀ {l m : List γ}, All2 (fun a b => a = b) l m → l = m
  | _, _, .nil => rfl
  | _, _, .cons r t => by rw [r, all2_eq t]
theorem All2.filter {R : α → β → Prop} {p : α → Bool} {q : β → Bool} {l : List α} {m : List β} (h : All2 R l m) (hp : ∀ x y, R x y → p x = q y) : All2 R (l.filter p) (m.filter q) := by
  induction h with
  | nil => exact .nil
  | cons r _ ih =>
    rw [List.filter_cons, List.filter_cons, hp _ _ r]
    split
    · exact .cons r ih
    · exact ih
theorem Sim.tabOf {T : Tab α} {U : Tab β} {n : Nat} {R : α → β → Prop} (S : Sim T U n R) {L : List α} {M : List β} (C : IsClo T n L) (D : IsClo U n M) : tabOf T n L = tabOf U n M := by
  have h := S.clo C D
  unfold My.tabOf
  have e1 : L.idxOf T.e = M.idxOf U.e := S.idx S.e h
  have e2 : ((List.range n).map fun a => L.idxOf (T.l a)) = (List.range n).map fun a => M.idxOf (U.l a) :=
    List.map_congr_left fun a ha => S.idx (S.l a (List.mem_range.mp ha)) h
  have e3 : (L.map fun x => L.map fun y => L.idxOf (T.j x y)) = M.map fun x => M.map fun y => M.idxOf (U.j x y) :=
    all2_eq (h.map fun x x' r => all2_eq (h.map fun y y' q => S.idx (S.j _ _ _ _ r q) h))
  have e4 : ((L.filter T.acc).map fun x => L.idxOf x) = (M.filter U.acc).map fun x => M.idxOf x :=
    all2_eq ((h.filter S.acc).map fun x y r => S.idx r h)
  rw [e1, e2, e3, e4]
end
end My
end

section
/-! Leaders; the least reader and that it is the same for readers of the same words. -/
namespace My
/-- alike: no two words around tell them apart -/
def Syn (S : Rdr) (x y : Nat) : Prop := ∀ u v, u < S.m.length → v < S.m.length → S.tab.acc (S.tab.j (S.tab.j u x) v) = S.tab.acc (S.tab.j (S.tab.j u y) v)
theorem Syn.refl (S : Rdr) (x : Nat) : Syn S x x := fun _ _ _ _ => rfl
theorem Syn.symm {S : Rdr} {x y : Nat} (h : Syn S x y) : Syn S y x := fun u v hu hv => (h u v hu hv).symm
theorem Syn.trans {S : Rdr} {x y z : Nat} (h : Syn S x y) (g : Syn S y z) : Syn S x z := fun u v hu hv => (h u v hu hv).trans (g u v hu hv)
structure IsLead (m : Nat) (E : Nat → Nat → Prop) (c : List Nat) : Prop where
  len : c.length = m
  at_ : ∀ x, x < m → c.getD x 0 ≤ x ∧ E (c.getD x 0) x ∧ ∀ y, y < c.getD x 0 → ¬ E y x
theorem ext_getD {c d : List Nat} (h : c.length = d.length) (g : ∀ x, x < c.length → c.getD x 0 = d.getD x 0) : c = d := by
  refine List.ext_getElem h fun i h1 h2 => ?_
  have := g i h1
  rw [getD_lt _ h1, getD_lt _ h2] at this
  exact this
theorem IsLead.uniq {m : Nat} {E : Nat → Nat → Prop} {c d : List Nat} (h : IsLead m E c) (g : IsLead m E d) : c = d := by
  refine ext_getD (h.len.trans g.len.symm) fun x hx => ?_
  rw [h.len] at hx
  obtain ⟨h1, h2, h3⟩ := h.at_ x hx
  obtain ⟨g1, g2, g3⟩ := g.at_ x hx
  rcases Nat.lt_trichotomy (c.getD x 0) (d.getD x 0) with q | q | q
  · exact absurd h2 (g3 _ q)
  · exact q
  · exact absurd g2 (h3 _ q)
theorem IsLead.mono {m : Nat} {E F : Nat → Nat → Prop} {c : List Nat} (h : IsLead m E c) (e : ∀ x y, x < m → y < m → (E x y ↔ F x y)) : IsLead m F c :=
  ⟨h.len, fun x hx => by
    obtain ⟨h1, h2, h3⟩ := h.at_ x hx
    exact ⟨h1, (e _ _ (by omega) hx).mp h2, fun y hy q => h3 y hy ((e _ _ (by omega) hx).mpr q)⟩⟩
/-- the table of leaders -/
def leadTab (S : Rdr) (c : List Nat) : Tab Nat := ⟨c.getD S.e 0, fun a => c.getD (S.tab.l a) 0, fun x y => c.getD (S.tab.j x y) 0, S.tab.acc⟩
structure IsLeast (n : Nat) (R M : Rdr) : Prop where
  ex : ∃ L1 c L2, IsClo R.tab n L1 ∧ IsLead (tabOf R.tab n L1).m.length (Syn (tabOf R.tab n L1)) c ∧ IsClo (leadTab (tabOf R.tab n L1) c) n L2 ∧ M = tabOf (leadTab (tabOf R.tab n L1) c) n L2

/-! ### the quotient -/
section
variable {n : Nat} {S : Rdr} {c : List Nat}
theorem lead_lt (h : IsLead S.m.length (Syn S) c) {x : Nat} (hx : x < S.m.length) : c.getD x 0 < S.m.length := by
  have := (h.at_ x hx).1; omega
theorem lead_syn (h : IsLead S.m.length (Syn S) c) {x : Nat} (hx : x < S.m.length) : Syn S (c.getD x 0) x := (h.at_ x hx).2.1
theorem lead_eq (h : IsLead S.m.length (Syn S) c) {x y : Nat} (hx : x < S.m.length) (hy : y < S.m.length) : c.getD x 0 = c.getD y 0 ↔ Syn S x y := by
  constructor
  · intro e
    have a := lead_syn h hx
    rw [e] at a
    exact a.symm.trans (lead_syn h hy)
  · intro e
    obtain ⟨h1, h2, h3⟩ := h.at_ x hx
    obtain ⟨g1, g2, g3⟩ := h.at_ y hy
    rcases Nat.lt_trichotomy (c.getD x 0) (c.getD y 0) with q | q | q
    · exact absurd (h2.trans e) (g3 _ q)
    · exact q
    · exact absurd (g2.trans e.symm) (h3 _ q)
theorem syn_j (V : Valid n S) {x y x' y' : Nat} (hx : x < S.m.length) (hy : y < S.m.length) (hx' : x' < S.m.length) (hy' : y' < S.m.length) (h : Syn S x x') (g : Syn S y y') : Syn S (S.tab.j x y) (S.tab.j x' y') := by
  intro u v hu hv
  have J := fun {a b : Nat} (p : a < S.m.length) (q : b < S.m.length) => V.toShape.jt p q
  have A := fun (a b c : Nat) (p : a < S.m.length) (q : b < S.m.length) (r : c < S.m.length) => V.as a b c p q r
  have e1 : S.tab.acc (S.tab.j (S.tab.j u (S.tab.j x y)) v) = S.tab.acc (S.tab.j (S.tab.j u (S.tab.j x' y)) v) := by
    have := h u (S.tab.j y v) hu (J hy hv)
    rw [← A _ _ _ (J hu hx) hy hv, ← A _ _ _ (J hu hx') hy hv, A _ _ _ hu hx hy, A _ _ _ hu hx' hy] at this
    exact this
  have e2 : S.tab.acc (S.tab.j (S.tab.j u (S.tab.j x' y)) v) = S.tab.acc (S.tab.j (S.tab.j u (S.tab.j x' y')) v) := by
    have := g (S.tab.j u x') v (J hu hx') hv
    rw [A _ _ _ hu hx' hy, A _ _ _ hu hx' hy'] at this
    exact this
  exact e1.trans e2
theorem syn_acc (V : Valid n S) {x y : Nat} (hx : x < S.m.length) (hy : y < S.m.length) (h : Syn S x y) : S.tab.acc x = S.tab.acc y := by
  have := h S.e S.e V.e V.e
  rw [V.u1 x hx, V.u1 y hy, V.u2 x hx, V.u2 y hy] at this
  exact this
theorem leadTab_val (V : Valid n S) (h : IsLead S.m.length (Syn S) c) : ∀ w, Word n w → val (leadTab S c) w = c.getD (val S.tab w) 0 := by
  refine snoc_ind (fun _ => rfl) fun w a ih hw => ?_
  obtain ⟨h1, h2⟩ := Word.app.mp hw
  have ha := Word.one.mp h2
  have vw := V.mon.val w h1
  rw [val_snoc, val_snoc, ih h1]
  show c.getD (S.tab.j (c.getD (val S.tab w) 0) (c.getD (S.tab.l a) 0)) 0 = c.getD (S.tab.j (val S.tab w) (S.tab.l a)) 0
  have la := V.toShape.lt ha
  exact (lead_eq h (V.toShape.jt (lead_lt h vw) (lead_lt h la)) (V.toShape.jt vw la)).mpr (syn_j V (lead_lt h vw) (lead_lt h la) vw la (lead_syn h vw) (lead_syn h la))
theorem leadTab_takes (V : Valid n S) (h : IsLead S.m.length (Syn S) c) (w : List Nat) (hw : Word n w) : takes (leadTab S c) w = takes S.tab w := by
  unfold takes
  rw [leadTab_val V h w hw]
  have vw := V.mon.val w hw
  exact syn_acc V (lead_lt h vw) vw (lead_syn h vw)
end

/-- the least reader accepts the same words -/
theorem IsLeast.takesM {n : Nat} {R M : Rdr} (V : Valid n R) (h : IsLeast n R M) (w : List Nat) (hw : Word n w) : takes M.tab w = takes R.tab w := by
  obtain ⟨L1, c, L2, C1, hc, C2, rfl⟩ := h.ex
  rw [tabOf_takes C2 w hw, leadTab_takes (tabOf_valid C1 V.mon) hc w hw, tabOf_takes C1 w hw]

/-- alike values of two words: by the words that are accepted -/
theorem syn_words {n : Nat} {R : Rdr} {L : List Nat} (V : Valid n R) (C : IsClo R.tab n L) {w w' : List Nat} (hw : Word n w) (hw' : Word n w') :
    Syn (tabOf R.tab n L) (val (tabOf R.tab n L).tab w) (val (tabOf R.tab n L).tab w') ↔ ∀ u v, Word n u → Word n v → takes R.tab (u ++ w ++ v) = takes R.tab (u ++ w' ++ v) := by
  have VS := tabOf_valid C V.mon
  have key : ∀ u w v, Word n u → Word n w → Word n v → (tabOf R.tab n L).tab.acc ((tabOf R.tab n L).tab.j ((tabOf R.tab n L).tab.j (val (tabOf R.tab n L).tab u) (val (tabOf R.tab n L).tab w)) (val (tabOf R.tab n L).tab v)) = takes R.tab (u ++ w ++ v) := by
    intro u w v hu hw hv
    rw [← VS.mon.app u hu w hw, ← VS.mon.app (u ++ w) (Word.app.mpr ⟨hu, hw⟩) v hv]
    exact tabOf_takes C _ (Word.app.mpr ⟨Word.app.mpr ⟨hu, hw⟩, hv⟩)
  have word : ∀ x, x < (tabOf R.tab n L).m.length → ∃ u, Word n u ∧ val (tabOf R.tab n L).tab u = x := by
    intro x hx
    rw [tabOf_len] at hx
    obtain ⟨a, ha, rfl⟩ := idx_surj C.nodup hx
    obtain ⟨u, hu, rfl⟩ := V.mon.word C a ha
    exact ⟨u, hu, (tabOf_val C u hu).2⟩
  constructor
  · intro h u v hu hv
    have := h _ _ (VS.mon.val u hu) (VS.mon.val v hv)
    rw [key u w v hu hw hv, key u w' v hu hw' hv] at this
    exact this
  · intro h x y hx hy
    obtain ⟨u, hu, rfl⟩ := word x hx
    obtain ⟨v, hv, rfl⟩ := word y hy
    rw [key u w v hu hw hv, key u w' v hu hw' hv]
    exact h u v hu hv
/-- THE LEAST READER IS ONE for readers that accept the same words -/
theorem IsLeast.canon {n : Nat} {R D M M' : Rdr} (V : Valid n R) (W : Valid n D) (h : IsLeast n R M) (g : IsLeast n D M') (same : ∀ w, Word n w → takes R.tab w = takes D.tab w) : M = M' := by
  obtain ⟨L1, c, L2, C1, hc, C2, rfl⟩ := h.ex
  obtain ⟨K1, d, K2, D1, hd, D2, rfl⟩ := g.ex
  have VS := tabOf_valid C1 V.mon
  have WS := tabOf_valid D1 W.mon
  have iff_ : ∀ w w', Word n w → Word n w' → (Syn (tabOf R.tab n L1) (val (tabOf R.tab n L1).tab w) (val (tabOf R.tab n L1).tab w') ↔ Syn (tabOf D.tab n K1) (val (tabOf D.tab n K1).tab w) (val (tabOf D.tab n K1).tab w')) := by
    intro w w' hw hw'
    rw [syn_words V C1 hw hw', syn_words W D1 hw hw']
    constructor
    · intro h u v hu hv
      rw [← same _ (Word.app.mpr ⟨Word.app.mpr ⟨hu, hw⟩, hv⟩), ← same _ (Word.app.mpr ⟨Word.app.mpr ⟨hu, hw'⟩, hv⟩)]
      exact h u v hu hv
    · intro h u v hu hv
      rw [same _ (Word.app.mpr ⟨Word.app.mpr ⟨hu, hw⟩, hv⟩), same _ (Word.app.mpr ⟨Word.app.mpr ⟨hu, hw'⟩, hv⟩)]
      exact h u v hu hv
  refine Sim.tabOf (R := fun x y => ∃ w, Word n w ∧ x = val (leadTab (tabOf R.tab n L1) c) w ∧ y = val (leadTab (tabOf D.tab n K1) d) w) ⟨⟨[], Word.nil, rfl, rfl⟩, fun a ha => ⟨[a], Word.one.mpr ha, ?_, ?_⟩, ?_, ?_, ?_⟩ C2 D2
  · rw [leadTab_val VS hc _ (Word.one.mpr ha)]
    show c.getD ((tabOf R.tab n L1).tab.l a) 0 = c.getD ((tabOf R.tab n L1).tab.j (tabOf R.tab n L1).e ((tabOf R.tab n L1).tab.l a)) 0
    rw [VS.u1 _ (VS.toShape.lt ha)]
  · rw [leadTab_val WS hd _ (Word.one.mpr ha)]
    show d.getD ((tabOf D.tab n K1).tab.l a) 0 = d.getD ((tabOf D.tab n K1).tab.j (tabOf D.tab n K1).e ((tabOf D.tab n K1).tab.l a)) 0
    rw [WS.u1 _ (WS.toShape.lt ha)]
  · rintro x y x' y' ⟨w, hw, rfl, rfl⟩ ⟨v, hv, rfl, rfl⟩
    have hwv := Word.app.mpr ⟨hw, hv⟩
    refine ⟨w ++ v, hwv, ?_, ?_⟩
    · rw [leadTab_val VS hc _ hw, leadTab_val VS hc _ hv, leadTab_val VS hc _ hwv, VS.mon.app w hw v hv]
      have a := VS.mon.val w hw
      have b := VS.mon.val v hv
      exact (lead_eq hc (VS.toShape.jt (lead_lt hc a) (lead_lt hc b)) (VS.toShape.jt a b)).mpr (syn_j VS (lead_lt hc a) (lead_lt hc b) a b (lead_syn hc a) (lead_syn hc b))
    · rw [leadTab_val WS hd _ hw, leadTab_val WS hd _ hv, leadTab_val WS hd _ hwv, WS.mon.app w hw v hv]
      have a := WS.mon.val w hw
      have b := WS.mon.val v hv
      exact (lead_eq hd (WS.toShape.jt (lead_lt hd a) (lead_lt hd b)) (WS.toShape.jt a b)).mpr (syn_j WS (lead_lt hd a) (lead_lt hd b) a b (lead_syn hd a) (lead_syn hd b))
  · rintro x y x' y' ⟨w, hw, rfl, rfl⟩ ⟨v, hv, rfl, rfl⟩
    rw [leadTab_val VS hc _ hw, leadTab_val VS hc _ hv, leadTab_val WS hd _ hw, leadTab_val WS hd _ hv, lead_eq hc (VS.mon.val w hw) (VS.mon.val v hv), lead_eq hd (WS.mon.val w hw) (WS.mon.val v hv)]
    exact iff_ w v hw hv
  · rintro x x' ⟨w, hw, rfl, rfl⟩
    have a := leadTab_takes VS hc w hw
    have b := leadTab_takes WS hd w hw
    rw [tabOf_takes C1 w hw] at a
    rw [tabOf_takes D1 w hw] at b
    exact a.trans ((same w hw).trans b.symm)
theorem IsLeast.uniq {n : Nat} {R M M' : Rdr} (V : Valid n R) (h : IsLeast n R M) (g : IsLeast n R M') : M = M' := h.canon V V g fun _ _ => rfl
theorem IsLeast.len {n : Nat} {R M : Rdr} (V : Valid n R) (h : IsLeast n R M) : M.m.length ≤ R.m.length := by
  obtain ⟨L1, c, L2, C1, hc, C2, rfl⟩ := h.ex
  have VS := tabOf_valid C1 V.mon
  have l1 : L1.length ≤ R.m.length := by
    have := nodup_len (d := List.range R.m.length) C1.nodup fun x hx => List.mem_range.mpr (C1.dom V.mon x hx)
    rwa [List.length_range] at this
  have l2 : L2.length ≤ L1.length := by
    have := nodup_len (d := List.range L1.length) C2.nodup fun x hx => List.mem_range.mpr ?_
    · rwa [List.length_range] at this
    · rw [← tabOf_len (T := R.tab) (n := n)]
      revert x hx
      exact C2.ind (P := fun x => x < (tabOf R.tab n L1).m.length) (lead_lt hc VS.e) (fun a ha => lead_lt hc (VS.toShape.lt ha)) fun x y hx hy => lead_lt hc (VS.toShape.jt hx hy)
  rw [tabOf_len]
  omega

/-! ### pairs -/
def pairTab (R B : Rdr) : Tab (Nat × Nat) := ⟨(R.e, B.e), fun a => (R.tab.l a, B.tab.l a), fun x y => (R.tab.j x.1 y.1, B.tab.j x.2 y.2), fun x => R.tab.acc x.1 && B.tab.acc x.2⟩
theorem pair_mon {n : Nat} {R B : Rdr} (V : Valid n R) (W : Valid n B) : Mon (pairTab R B) n fun x => x.1 < R.m.length ∧ x.2 < B.m.length where
  e := ⟨V.e, W.e⟩
  l := fun a ha => ⟨V.toShape.lt ha, W.toShape.lt ha⟩
  j := fun x y hx hy => ⟨V.toShape.jt hx.1 hy.1, W.toShape.jt hx.2 hy.2⟩
  u1 := fun x hx => Prod.ext (V.u1 _ hx.1) (W.u1 _ hx.2)
  u2 := fun x hx => Prod.ext (V.u2 _ hx.1) (W.u2 _ hx.2)
  as := fun x y z hx hy hz => Prod.ext (V.as _ _ _ hx.1 hy.1 hz.1) (W.as _ _ _ hx.2 hy.2 hz.2)
theorem pair_val (R B : Rdr) : ∀ w, val (pairTab R B) w = (val R.tab w, val B.tab w) := by
  refine snoc_ind rfl fun w a ih => ?_
  rw [val_snoc, val_snoc, val_snoc, ih]; rfl
/-- beside a reader that accepts all: the same words -/
theorem pair_takes {n : Nat} {R B : Rdr} (W : Valid n B) (all : ∀ x, x < B.m.length → x ∈ B.a) (w : List Nat) (hw : Word n w) : takes (pairTab R B) w = takes R.tab w := by
  unfold takes
  rw [pair_val]
  show (R.tab.acc _ && decide (val B.tab w ∈ B.a)) = _
  rw [decide_eq_true (all _ (W.mon.val w hw)), Bool.and_true]
theorem prod_len {n : Nat} {T : Tab Nat} {m : Nat} (M : Mon T n (· < m)) (k : Nat) : (iter T n k).length ≤ m := by
  have := iter_len (T := T) (n := n) (d := List.range m) (List.mem_range.mpr M.e) (fun a ha => List.mem_range.mpr (M.l a ha)) (fun x y hx hy => List.mem_range.mpr (M.j x y (List.mem_range.mp hx) (List.mem_range.mp hy))) k
  rwa [List.length_range] at this
def grid (a b : Nat) : List (Nat × Nat) := (List.range a).flatMap fun x => (List.range b).map fun y => (x, y)
theorem mem_grid {a b : Nat} {p : Nat × Nat} : p ∈ grid a b ↔ p.1 < a ∧ p.2 < b := by
  unfold grid
  simp only [List.mem_flatMap, List.mem_map, List.mem_range]
  constructor
  · rintro ⟨x, hx, y, hy, rfl⟩; exact ⟨hx, hy⟩
  · rintro ⟨h1, h2⟩; exact ⟨p.1, h1, p.2, h2, rfl⟩
theorem grid_len (a b : Nat) : (grid a b).length = a * b := by
  unfold grid
  have : ∀ l : List Nat, (l.flatMap fun x => (List.range b).map fun y => (x, y)).length = l.length * b := by
    intro l
    induction l with
    | nil => simp
    | cons x l ih => rw [List.flatMap_cons, List.length_append, ih, List.length_map, List.length_range, List.length_cons, Nat.add_mul]; omega
  rw [this, List.length_range]
theorem pair_len {n : Nat} {R B : Rdr} (V : Valid n R) (W : Valid n B) (k : Nat) : (iter (pairTab R B) n k).length ≤ R.m.length * B.m.length := by
  have M := pair_mon V W
  have := iter_len (T := pairTab R B) (n := n) (d := grid R.m.length B.m.length) (mem_grid.mpr M.e) (fun a ha => mem_grid.mpr (M.l a ha)) (fun x y hx hy => mem_grid.mpr (M.j x y (mem_grid.mp hx) (mem_grid.mp hy))) k
  rwa [grid_len] at this
/-- the joined reader -/
theorem joint_ok {n : Nat} {R B : Rdr} {L : List (Nat × Nat)} (V : Valid n R) (W : Valid n B) (all : ∀ x, x < B.m.length → x ∈ B.a) (C : IsClo (pairTab R B) n L) :
    Valid n (tabOf (pairTab R B) n L) ∧ (tabOf (pairTab R B) n L).m.length ≤ R.m.length * B.m.length ∧ ∀ w, Word n w → takes R.tab w = takes (tabOf (pairTab R B) n L).tab w := by
  refine ⟨tabOf_valid C (pair_mon V W), ?_, fun w hw => ?_⟩
  · obtain ⟨k, rfl⟩ := C.it
    rw [tabOf_len]; exact pair_len V W k
  · rw [tabOf_takes C w hw, pair_takes W all w hw]
end My
end

section
/-! Splitting of classes; pairs told apart. -/
namespace My
section
variable {κ : Type} [DecidableEq κ]
/-- the first below i with the key k -/
def fstK (key : Nat → κ) (i : Nat) (k : κ) : Option Nat := (List.range i).find? fun y => decide (key y = k)
def leadOf (key : Nat → κ) (x : Nat) : Nat := (fstK key (x + 1) (key x)).getD 0
def leads (key : Nat → κ) (m : Nat) : List Nat := (List.range m).map (leadOf key)
theorem fstK_zero (key : Nat → κ) (k : κ) : fstK key 0 k = none := rfl
theorem fstK_succ (key : Nat → κ) (i : Nat) (k : κ) : fstK key (i + 1) k = (fstK key i k).or (if key i = k then some i else none) := by
  unfold fstK
  rw [List.range_succ, List.find?_append]
  congr 1
  rw [List.find?_singleton]
  by_cases h : key i = k <;> simp [h]
theorem fstK_some {key : Nat → κ} {i : Nat} {k : κ} {y : Nat} (h : fstK key i k = some y) : y < i ∧ key y = k ∧ ∀ z, z < y → key z ≠ k := by
  unfold fstK at h
  rw [List.find?_range_eq_some] at h
  obtain ⟨h1, h2, h3⟩ := h
  refine ⟨List.mem_range.mp h2, of_decide_eq_true h1, fun z hz e => ?_⟩
  have := h3 z hz
  simp [e] at this
theorem fstK_none {key : Nat → κ} {i : Nat} {k : κ} (h : fstK key i k = none) : ∀ z, z < i → key z ≠ k := by
  intro z hz e
  have := List.find?_eq_none.mp h z (List.mem_range.mpr hz)
  simp [e] at this
theorem fstK_self (key : Nat → κ) (x : Nat) : fstK key (x + 1) (key x) = some (leadOf key x) := by
  unfold leadOf
  cases h : fstK key (x + 1) (key x) with
  | none => exact absurd rfl (fstK_none h x (by omega))
  | some y => rfl
theorem leads_len (key : Nat → κ) (m : Nat) : (leads key m).length = m := by
  unfold leads; rw [List.length_map, List.length_range]
theorem leads_get (key : Nat → κ) {m x : Nat} (h : x < m) : (leads key m).getD x 0 = leadOf key x := by
  unfold leads
  rw [List.getD_eq_getElem?_getD, List.getElem?_map, List.getElem?_range h]; rfl
theorem leads_lead (key : Nat → κ) (m : Nat) : IsLead m (fun a b => key a = key b) (leads key m) := by
  refine ⟨leads_len key m, fun x hx => ?_⟩
  rw [leads_get key hx]
  obtain ⟨h1, h2, h3⟩ := fstK_some (fstK_self key x)
  exact ⟨by omega, h2, h3⟩
theorem leads_succ (key : Nat → κ) (i : Nat) : leads key (i + 1) = leads key i ++ [leadOf key i] := by
  unfold leads; rw [List.range_succ, List.map_append]; rfl
end
theorem lead_key {κ : Type} {m : Nat} {key : Nat → κ} {c : List Nat} (h : IsLead m (fun a b => key a = key b) c) {x y : Nat} (hx : x < m) (hy : y < m) : c.getD x 0 = c.getD y 0 ↔ key x = key y := by
  obtain ⟨h1, h2, h3⟩ := h.at_ x hx
  obtain ⟨g1, g2, g3⟩ := h.at_ y hy
  constructor
  · intro e
    rw [← h2, ← g2, e]
  · intro e
    rcases Nat.lt_trichotomy (c.getD x 0) (c.getD y 0) with q | q | q
    · exact absurd (h2.trans e) (g3 _ q)
    · exact q
    · exact absurd (g2.trans e.symm) (h3 _ q)
/-- what split sorts by -/
def skey (S : Rdr) (St : List Nat) (c : List Nat) (x : Nat) : Nat × List Nat :=
  (c.getD x 0, (St.map fun z => c.getD (S.tab.j z x) 0) ++ St.map fun z => c.getD (S.tab.j x z) 0)
/-- classes on the way to Syn -/
structure Ch (S : Rdr) (c : List Nat) : Prop where
  ld : IsLead S.m.length (fun a b => c.getD a 0 = c.getD b 0) c
  syn : ∀ a b, a < S.m.length → b < S.m.length → Syn S a b → c.getD a 0 = c.getD b 0
  acc : ∀ a b, a < S.m.length → b < S.m.length → c.getD a 0 = c.getD b 0 → S.tab.acc a = S.tab.acc b
section
variable {n : Nat} {S : Rdr} {St : List Nat} {c d : List Nat}
theorem Ch.lt (h : Ch S c) {x : Nat} (hx : x < S.m.length) : c.getD x 0 < S.m.length := by
  have := (h.ld.at_ x hx).1; omega
theorem Ch.start (V : Valid n S) : Ch S (leads S.tab.acc S.m.length) := by
  have L := leads_lead S.tab.acc S.m.length
  exact ⟨L.mono fun x y hx hy => (lead_key L hx hy).symm, fun a b ha hb s => (lead_key L ha hb).mpr (syn_acc V ha hb s), fun a b ha hb e => (lead_key L ha hb).mp e⟩
theorem skey_iff (St c : List Nat) (a b : Nat) : skey S St c a = skey S St c b ↔ c.getD a 0 = c.getD b 0 ∧ ∀ z ∈ St, c.getD (S.tab.j z a) 0 = c.getD (S.tab.j z b) 0 ∧ c.getD (S.tab.j a z) 0 = c.getD (S.tab.j b z) 0 := by
  unfold skey
  rw [Prod.mk.injEq]
  constructor
  · rintro ⟨h1, h4⟩
    obtain ⟨h2, h3⟩ := List.append_inj h4 (by rw [List.length_map, List.length_map])
    rw [List.map_inj_left] at h2 h3
    exact ⟨h1, fun z hz => ⟨h2 z hz, h3 z hz⟩⟩
  · rintro ⟨h1, h2⟩
    refine ⟨h1, ?_⟩
    rw [List.map_inj_left.mpr fun z hz => (h2 z hz).1, List.map_inj_left.mpr fun z hz => (h2 z hz).2]
theorem Ch.next (V : Valid n S) (hSt : ∀ z ∈ St, z < S.m.length) (h : Ch S c) : Ch S (leads (skey S St c) S.m.length) := by
  have L := leads_lead (skey S St c) S.m.length
  have J := fun {a b : Nat} (p : a < S.m.length) (q : b < S.m.length) => V.toShape.jt p q
  refine ⟨L.mono fun x y hx hy => (lead_key L hx hy).symm, fun a b ha hb s => (lead_key L ha hb).mpr ?_, fun a b ha hb e => ?_⟩
  · rw [skey_iff]
    refine ⟨h.syn a b ha hb s, fun z hz => ⟨h.syn _ _ (J (hSt z hz) ha) (J (hSt z hz) hb) (syn_j V (hSt z hz) ha (hSt z hz) hb (Syn.refl S z) s), h.syn _ _ (J ha (hSt z hz)) (J hb (hSt z hz)) (syn_j V ha (hSt z hz) hb (hSt z hz) s (Syn.refl S z))⟩⟩
  · have := (lead_key L ha hb).mp e
    rw [skey_iff] at this
    exact h.acc a b ha hb this.1
/-- the least reader of a class does not get less -/
theorem Ch.up (h : Ch S c) {x : Nat} (hx : x < S.m.length) : c.getD x 0 ≤ (leads (skey S St c) S.m.length).getD x 0 := by
  have L := leads_lead (skey S St c) S.m.length
  obtain ⟨h1, h2, h3⟩ := L.at_ x hx
  rw [skey_iff] at h2
  obtain ⟨g1, g2, g3⟩ := h.ld.at_ x hx
  rcases Nat.lt_or_ge ((leads (skey S St c) S.m.length).getD x 0) (c.getD x 0) with q | q
  · exact absurd h2.1 (g3 _ q)
  · exact q
theorem sum_le : ∀ {c d : List Nat}, c.length = d.length → (∀ x, x < c.length → c.getD x 0 ≤ d.getD x 0) → c.sum ≤ d.sum ∧ (c ≠ d → c.sum < d.sum)
  | [], [], _, _ => ⟨Nat.le_refl _, fun h => absurd rfl h⟩
  | [], _ :: _, h, _ => by simp at h
  | _ :: _, [], h, _ => by simp at h
  | a :: c, b :: d, h, g => by
    obtain ⟨i1, i2⟩ := sum_le (c := c) (d := d) (by simpa using h) fun x hx => by
      have := g (x + 1) (by simp; exact hx)
      simpa using this
    have g0 : a ≤ b := by
      have := g 0 (by simp)
      simpa using this
    rw [List.sum_cons, List.sum_cons]
    refine ⟨by omega, fun ne => ?_⟩
    by_cases e : c = d
    · subst e
      have : a ≠ b := fun z => ne (by rw [z])
      omega
    · have := i2 e
      omega
theorem Ch.grow (h : Ch S c) (ne : leads (skey S St c) S.m.length ≠ c) : c.sum < (leads (skey S St c) S.m.length).sum :=
  (sum_le (by rw [leads_len, h.ld.len]) (fun x hx => h.up (by rw [h.ld.len] at hx; exact hx))).2 (Ne.symm ne)
theorem sum_bound : ∀ {c : List Nat} {b : Nat}, (∀ x ∈ c, x ≤ b) → c.sum ≤ c.length * b
  | [], _, _ => by simp
  | a :: c, b, h => by
    have := sum_bound (c := c) (b := b) fun x hx => h x (by simp [hx])
    have h0 := h a (by simp)
    rw [List.sum_cons, List.length_cons, Nat.add_mul]; omega
theorem Ch.bound (h : Ch S c) : c.sum ≤ S.m.length * S.m.length := by
  have := sum_bound (c := c) (b := S.m.length) fun x hx => ?_
  · rwa [h.ld.len] at this
  · obtain ⟨i, hi, rfl⟩ := List.mem_iff_getElem.mp hx
    have := h.lt (x := i) (by rw [← h.ld.len]; exact hi)
    rw [getD_lt _ hi] at this
    omega
/-- nothing more to split: it is Syn -/
theorem Ch.done (V : Valid n S) (gen : ∀ x, x < S.m.length → ∃ w, Word n w ∧ val S.tab w = x) (hSt : ∀ a, a < n → S.tab.l a ∈ St) (h : Ch S c) (e : leads (skey S St c) S.m.length = c) : IsLead S.m.length (Syn S) c := by
  have J := fun {a b : Nat} (p : a < S.m.length) (q : b < S.m.length) => V.toShape.jt p q
  have st : ∀ a b, a < S.m.length → b < S.m.length → c.getD a 0 = c.getD b 0 → ∀ z ∈ St, c.getD (S.tab.j z a) 0 = c.getD (S.tab.j z b) 0 ∧ c.getD (S.tab.j a z) 0 = c.getD (S.tab.j b z) 0 := by
    intro a b ha hb q
    have L := leads_lead (skey S St c) S.m.length
    have := lead_key L ha hb
    rw [e] at this
    exact ((skey_iff St c a b).mp (this.mp q)).2
  have right : ∀ w, Word n w → ∀ a b, a < S.m.length → b < S.m.length → c.getD a 0 = c.getD b 0 → c.getD (S.tab.j a (val S.tab w)) 0 = c.getD (S.tab.j b (val S.tab w)) 0 := by
    refine snoc_ind (fun _ a b ha hb q => ?_) fun w l ih hw a b ha hb q => ?_
    · show c.getD (S.tab.j a S.e) 0 = c.getD (S.tab.j b S.e) 0
      rw [V.u2 a ha, V.u2 b hb]; exact q
    · obtain ⟨h1, h2⟩ := Word.app.mp hw
      have hl := Word.one.mp h2
      have vw := V.mon.val w h1
      have ll := V.toShape.lt hl
      rw [val_snoc, ← V.as a _ _ ha vw ll, ← V.as b _ _ hb vw ll]
      exact (st _ _ (J ha vw) (J hb vw) (ih h1 a b ha hb q) _ (hSt l hl)).2
  have left : ∀ w, Word n w → ∀ a b, a < S.m.length → b < S.m.length → c.getD a 0 = c.getD b 0 → c.getD (S.tab.j (val S.tab w) a) 0 = c.getD (S.tab.j (val S.tab w) b) 0 := by
    refine snoc_ind (fun _ a b ha hb q => ?_) fun w l ih hw a b ha hb q => ?_
    · show c.getD (S.tab.j S.e a) 0 = c.getD (S.tab.j S.e b) 0
      rw [V.u1 a ha, V.u1 b hb]; exact q
    · obtain ⟨h1, h2⟩ := Word.app.mp hw
      have hl := Word.one.mp h2
      have vw := V.mon.val w h1
      have ll := V.toShape.lt hl
      rw [val_snoc, V.as _ _ a vw ll ha, V.as _ _ b vw ll hb]
      exact ih h1 _ _ (J ll ha) (J ll hb) (st a b ha hb q _ (hSt l hl)).1
  refine h.ld.mono fun a b ha hb => ⟨fun q u v hu hv => ?_, fun s => h.syn a b ha hb s⟩
  obtain ⟨wu, hwu, rfl⟩ := gen u hu
  obtain ⟨wv, hwv, rfl⟩ := gen v hv
  exact h.acc _ _ (J (J hu ha) hv) (J (J hu hb) hv) (right wv hwv _ _ (J hu ha) (J hu hb) (left wu hwu a b ha hb q))
end
theorem tabOf_gen {α : Type} [DecidableEq α] {T : Tab α} {n : Nat} {D : α → Prop} {L : List α} (C : IsClo T n L) (M : Mon T n D) : ∀ x, x < (tabOf T n L).m.length → ∃ w, Word n w ∧ val (tabOf T n L).tab w = x := by
  intro x hx
  rw [tabOf_len] at hx
  obtain ⟨a, ha, rfl⟩ := idx_surj C.nodup hx
  obtain ⟨u, hu, rfl⟩ := M.word C a ha
  exact ⟨u, hu, (tabOf_val C u hu).2⟩
/-! ### the law's own: pairs told apart -/
/-- told: pairs (y, x), y < x, that are not alike -/
structure Told (S : Rdr) (t : List (Nat × Nat)) : Prop where
  lt : ∀ p ∈ t, p.1 < p.2 ∧ p.2 < S.m.length
  nd : t.Nodup
  ok : ∀ p ∈ t, ¬ Syn S p.1 p.2
def Apart (t : List (Nat × Nat)) (a b : Nat) : Prop := (min a b, max a b) ∈ t
theorem Told.apart {S : Rdr} {t : List (Nat × Nat)} (T : Told S t) {a b : Nat} (h : Apart t a b) : ¬ Syn S a b := by
  have := T.ok _ h
  intro s
  apply this
  show Syn S (min a b) (max a b)
  rcases Nat.le_total a b with q | q
  · rw [Nat.min_eq_left q, Nat.max_eq_right q]; exact s
  · rw [Nat.min_eq_right q, Nat.max_eq_left q]; exact s.symm
theorem Told.snoc {S : Rdr} {t : List (Nat × Nat)} (T : Told S t) {y x : Nat} (h : y < x) (hx : x < S.m.length) (hn : (y, x) ∉ t) (hs : ¬ Syn S y x) : Told S (t ++ [(y, x)]) := by
  refine ⟨fun p hp => ?_, ?_, fun p hp => ?_⟩
  · rcases List.mem_append.mp hp with q | q
    · exact T.lt p q
    · rw [List.mem_singleton.mp q]; exact ⟨h, hx⟩
  · rw [List.nodup_append]
    exact ⟨T.nd, by simp, fun a ha b hb e => by rw [List.mem_singleton.mp hb] at e; exact hn (e ▸ ha)⟩
  · rcases List.mem_append.mp hp with q | q
    · exact T.ok p q
    · rw [List.mem_singleton.mp q]; exact hs
theorem Told.len {S : Rdr} {t : List (Nat × Nat)} (T : Told S t) : t.length ≤ S.m.length * S.m.length := by
  have := nodup_len (d := grid S.m.length S.m.length) T.nd fun p hp => mem_grid.mpr ⟨by have := T.lt p hp; omega, (T.lt p hp).2⟩
  rwa [grid_len] at this
/-- at the end: what is not told apart is alike -/
theorem Told.done {n : Nat} {S : Rdr} {t : List (Nat × Nat)} (V : Valid n S) (T : Told S t) (h0 : ∀ y x, y < x → x < S.m.length → S.tab.acc x ≠ S.tab.acc y → (y, x) ∈ t)
    (h1 : ∀ y x z, y < x → x < S.m.length → z < S.m.length → (y, x) ∉ t → ¬ Apart t (S.tab.j z x) (S.tab.j z y) ∧ ¬ Apart t (S.tab.j x z) (S.tab.j y z)) :
    ∀ y x, y < S.m.length → x < S.m.length → (Syn S y x ↔ y = x ∨ ¬ Apart t y x) := by
  have J := fun {a b : Nat} (p : a < S.m.length) (q : b < S.m.length) => V.toShape.jt p q
  have sym : ∀ a b, Apart t a b ↔ Apart t b a := fun a b => by unfold Apart; rw [Nat.min_comm, Nat.max_comm]
  have cl : ∀ a b z, a < S.m.length → b < S.m.length → z < S.m.length → (a = b ∨ ¬ Apart t a b) → (S.tab.j z a = S.tab.j z b ∨ ¬ Apart t (S.tab.j z a) (S.tab.j z b)) ∧ (S.tab.j a z = S.tab.j b z ∨ ¬ Apart t (S.tab.j a z) (S.tab.j b z)) := by
    intro a b z ha hb hz h
    rcases h with h | h
    · subst h; exact ⟨.inl rfl, .inl rfl⟩
    · rcases Nat.lt_trichotomy a b with q | q | q
      · have hn : (a, b) ∉ t := fun w => h (by unfold Apart; rw [Nat.min_eq_left (by omega), Nat.max_eq_right (by omega)]; exact w)
        obtain ⟨p1, p2⟩ := h1 a b z q hb hz hn
        exact ⟨.inr fun w => p1 ((sym _ _).mp w), .inr fun w => p2 ((sym _ _).mp w)⟩
      · subst q; exact ⟨.inl rfl, .inl rfl⟩
      · have hn : (b, a) ∉ t := fun w => h (by unfold Apart; rw [Nat.min_eq_right (by omega), Nat.max_eq_left (by omega)]; exact w)
        obtain ⟨p1, p2⟩ := h1 b a z q ha hz hn
        exact ⟨.inr p1, .inr p2⟩
  intro y x hy hx
  constructor
  · intro s
    exact .inr fun w => T.apart w s
  · intro h u v hu hv
    have a1 := (cl y x u hy hx hu h).1
    have a2 := (cl _ _ v (J hu hy) (J hu hx) hv a1).2
    rcases a2 with e | e
    · rw [e]
    · apply Classical.byContradiction
      intro ne
      apply e
      unfold Apart
      rcases Nat.lt_trichotomy (S.tab.j (S.tab.j u y) v) (S.tab.j (S.tab.j u x) v) with q | q | q
      · rw [Nat.min_eq_left (by omega), Nat.max_eq_right (by omega)]
        exact h0 _ _ q (J (J hu hx) hv) (Ne.symm ne)
      · exact absurd (by rw [q]) ne
      · rw [Nat.min_eq_right (by omega), Nat.max_eq_left (by omega)]
        exact h0 _ _ q (J (J hu hy) hv) ne
/-- told by the pairs that they bring -/
theorem not_syn_acc {n : Nat} {S : Rdr} (V : Valid n S) {y x : Nat} (hy : y < S.m.length) (hx : x < S.m.length) (h : S.tab.acc x ≠ S.tab.acc y) : ¬ Syn S y x := fun s => h (syn_acc V hy hx s).symm
theorem not_syn_l {n : Nat} {S : Rdr} (V : Valid n S) {y x z : Nat} (hy : y < S.m.length) (hx : x < S.m.length) (hz : z < S.m.length) (h : ¬ Syn S (S.tab.j z x) (S.tab.j z y)) : ¬ Syn S y x := fun s => h (syn_j V hz hx hz hy (Syn.refl S z) s.symm)
theorem not_syn_r {n : Nat} {S : Rdr} (V : Valid n S) {y x z : Nat} (hy : y < S.m.length) (hx : x < S.m.length) (hz : z < S.m.length) (h : ¬ Syn S (S.tab.j x z) (S.tab.j y z)) : ¬ Syn S y x := fun s => h (syn_j V hx hz hy hz s.symm (Syn.refl S z))
end My
end

section
/-! The law's own readers: tables with a unit, renamed. -/
namespace My
/-- a table with unit 0 and order -/
structure Mnd (m : Nat) (f : Nat → Nat → Nat) : Prop where
  pos : 0 < m
  cl : ∀ x y, x < m → y < m → f x y < m
  u1 : ∀ x, x < m → f 0 x = x
  u2 : ∀ x, x < m → f x 0 = x
  as : ∀ x y z, x < m → y < m → z < m → f (f x y) z = f x (f y z)
def prodN (k c x y : Nat) : Nat := if k = 0 then (x + y) % c else if k = 1 then max x y else if k = 2 then (if y = 0 then x else y) else (if x = 0 then y else x)
theorem prod_mnd (k : Nat) {c : Nat} (hc : 0 < c) : Mnd c (prodN k c) := by
  unfold prodN
  by_cases h0 : k = 0
  · simp only [h0, if_true]
    exact ⟨hc, fun x y _ _ => Nat.mod_lt _ hc, fun x hx => by rw [Nat.zero_add, Nat.mod_eq_of_lt hx], fun x hx => by rw [Nat.add_zero, Nat.mod_eq_of_lt hx], fun x y z _ _ _ => by rw [Nat.mod_add_mod, Nat.add_mod_mod, Nat.add_assoc]⟩
  · by_cases h1 : k = 1
    · simp only [h1, if_true, if_false, show ¬ (1 : Nat) = 0 by decide]
      exact ⟨hc, fun x y hx hy => by omega, fun x _ => by omega, fun x _ => by omega, fun x y z _ _ _ => by omega⟩
    · by_cases h2 : k = 2
      · simp only [h2, if_true, if_false, show ¬ (2 : Nat) = 0 by decide, show ¬ (2 : Nat) = 1 by decide]
        exact ⟨hc, fun x y hx hy => by split <;> omega, fun x _ => by split <;> omega, fun x _ => by simp, fun x y z _ _ _ => by
          by_cases hy : y = 0 <;> by_cases hz : z = 0 <;> simp [hy, hz]⟩
      · simp only [h0, h1, h2, if_false]
        exact ⟨hc, fun x y hx hy => by split <;> omega, fun x _ => by simp, fun x _ => by split <;> omega, fun x y z _ _ _ => by
          by_cases hx : x = 0 <;> by_cases hy : y = 0 <;> simp [hx, hy]⟩
/-! ### functions -/
def compF (a b : List Nat) : List Nat := a.map fun i => b.getD i 0
def IsF (p : Nat) (a : List Nat) : Prop := a.length = p ∧ ∀ x ∈ a, x < p
/-- what is found: no two alike, the identity ahead -/
structure Fn (p : Nat) (L : List (List Nat)) : Prop where
  nd : L.Nodup
  hd : ∃ r, L = List.range p :: r
  fn : ∀ a ∈ L, IsF p a
  l9 : L.length ≤ 9
theorem isF_range (p : Nat) : IsF p (List.range p) := ⟨List.length_range, fun _ h => List.mem_range.mp h⟩
theorem isF_comp {p : Nat} {a b : List Nat} (ha : IsF p a) (hb : IsF p b) : IsF p (compF a b) := by
  refine ⟨by unfold compF; rw [List.length_map]; exact ha.1, fun x hx => ?_⟩
  obtain ⟨i, hi, rfl⟩ := List.mem_map.mp hx
  have h' : i < b.length := by rw [hb.1]; exact ha.2 i hi
  rw [getD_lt _ h']
  exact hb.2 _ (List.getElem_mem h')
theorem comp_assoc {p : Nat} {a b c : List Nat} (ha : IsF p a) (hb : IsF p b) : compF (compF a b) c = compF a (compF b c) := by
  unfold compF
  rw [List.map_map]
  refine List.map_congr_left fun i hi => ?_
  have h' : i < b.length := by rw [hb.1]; exact ha.2 i hi
  show c.getD (b.getD i 0) 0 = _
  rw [List.getD_eq_getElem?_getD (l := b.map _), List.getElem?_map, List.getElem?_eq_getElem h', getD_lt _ h']
  rfl
theorem comp_id_l {p : Nat} {b : List Nat} (hb : IsF p b) : compF (List.range p) b = b := by
  refine ext_getD (by unfold compF; rw [List.length_map, List.length_range, hb.1]) fun x hx => ?_
  unfold compF at hx ⊢
  rw [List.length_map, List.length_range] at hx
  rw [List.getD_eq_getElem?_getD, List.getElem?_map, List.getElem?_range hx]
  rfl
theorem comp_id_r {p : Nat} {a : List Nat} (ha : IsF p a) : compF a (List.range p) = a := by
  unfold compF
  conv => rhs; rw [← List.map_id a]
  refine List.map_congr_left fun i hi => ?_
  rw [List.getD_eq_getElem?_getD, List.getElem?_range (ha.2 i hi)]
  rfl
theorem Fn.start (p : Nat) : Fn p [List.range p] := ⟨by simp, ⟨[], rfl⟩, fun a h => by rw [List.mem_singleton.mp h]; exact isF_range p, by simp⟩
theorem Fn.snoc {p : Nat} {L : List (List Nat)} (F : Fn p L) {a : List Nat} (ha : IsF p a) (hn : a ∉ L) (h9 : L.length < 9) : Fn p (L ++ [a]) := by
  obtain ⟨r, e⟩ := F.hd
  refine ⟨?_, ⟨r ++ [a], by rw [e]; rfl⟩, fun b hb => ?_, by rw [List.length_append, List.length_singleton]; omega⟩
  · rw [List.nodup_append]
    exact ⟨F.nd, by simp, fun x hx y hy q => by rw [List.mem_singleton.mp hy] at q; exact hn (q ▸ hx)⟩
  · rcases List.mem_append.mp hb with q | q
    · exact F.fn b q
    · rw [List.mem_singleton.mp q]; exact ha
def idxG {α : Type} [DecidableEq α] (L : List α) (x : α) : Nat := L.idxOf x
theorem idxG_lt {α : Type} [DecidableEq α] {L : List α} {x : α} (h : x ∈ L) : idxG L x < L.length := idx_lt h
theorem idxG_get {α : Type} [DecidableEq α] {L : List α} {x : α} (h : x ∈ L) : L[idxG L x]? = some x := idx_get h
theorem idxG_of {α : Type} [DecidableEq α] {L : List α} (hn : L.Nodup) {i : Nat} {x : α} (h : L[i]? = some x) : idxG L x = i := idx_of_get hn h
def funT (L : List (List Nat)) (x y : Nat) : Nat := idxG L (compF (L.getD x []) (L.getD y []))
theorem fun_mnd {p : Nat} {L : List (List Nat)} (F : Fn p L) (cl : ∀ a ∈ L, ∀ b ∈ L, compF a b ∈ L) : Mnd L.length (funT L) := by
  have mem : ∀ {x}, x < L.length → L.getD x [] ∈ L := fun {x} h => by rw [getD_lt _ h]; exact List.getElem_mem h
  have get : ∀ {a}, a ∈ L → L.getD (idxG L a) [] = a := fun {a} h => by
    rw [List.getD_eq_getElem?_getD, idxG_get h]; rfl
  have idx : ∀ {x}, x < L.length → idxG L (L.getD x []) = x := fun {x} h => by
    rw [getD_lt _ h]; exact idxG_of F.nd (List.getElem?_eq_getElem h)
  obtain ⟨r, e⟩ := F.hd
  have h0 : L.getD 0 [] = List.range p := by rw [e]; rfl
  refine ⟨by rw [e]; simp, fun x y hx hy => idxG_lt (cl _ (mem hx) _ (mem hy)), fun x hx => ?_, fun x hx => ?_, fun x y z hx hy hz => ?_⟩
  · unfold funT
    rw [h0, comp_id_l (F.fn _ (mem hx)), idx hx]
  · unfold funT
    rw [h0, comp_id_r (F.fn _ (mem hx)), idx hx]
  · unfold funT
    rw [get (cl _ (mem hx) _ (mem hy)), get (cl _ (mem hy) _ (mem hz)), comp_assoc (F.fn _ (mem hx)) (F.fn _ (mem hy))]
theorem fn_three : Fn 2 [[0, 1], [0, 0], [1, 1]] := ⟨by decide, ⟨_, rfl⟩, fun a h => by
    simp only [List.mem_cons, List.not_mem_nil, or_false] at h
    rcases h with h | h | h <;> subst h <;> exact ⟨rfl, by decide⟩, by decide⟩
theorem three_cl : ∀ a ∈ ([[0, 1], [0, 0], [1, 1]] : List (List Nat)), ∀ b ∈ ([[0, 1], [0, 0], [1, 1]] : List (List Nat)), compF a b ∈ ([[0, 1], [0, 0], [1, 1]] : List (List Nat)) := by decide
/-! ### renamed -/
def mixR (f : Nat → Nat → Nat) (nm : List Nat) (l a : List Nat) : Rdr where
  e := nm.getD 0 0
  l := l
  m := (List.range nm.length).map fun x => (List.range nm.length).map fun y => nm.getD (f (nm.idxOf x) (nm.idxOf y)) 0
  a := a
theorem mix_len (f : Nat → Nat → Nat) (nm l a : List Nat) : (mixR f nm l a).m.length = nm.length := by
  show (List.map _ _).length = _
  rw [List.length_map, List.length_range]
theorem mix_j {f : Nat → Nat → Nat} {nm l a : List Nat} {x y : Nat} (hx : x < nm.length) (hy : y < nm.length) : (mixR f nm l a).tab.j x y = nm.getD (f (nm.idxOf x) (nm.idxOf y)) 0 := by
  show ((List.map _ (List.range nm.length)).getD x []).getD y 0 = _
  rw [List.getD_eq_getElem?_getD (i := x), List.getElem?_map, List.getElem?_range hx]
  show (List.map _ (List.range nm.length)).getD y 0 = _
  rw [List.getD_eq_getElem?_getD, List.getElem?_map, List.getElem?_range hy]
  rfl
theorem mix_valid {n : Nat} {f : Nat → Nat → Nat} {nm l a : List Nat} (M : Mnd nm.length f) (hp : nm.Perm (List.range nm.length)) (hl : l.length = n) (hl2 : ∀ x ∈ l, x < nm.length) (ha : ∀ x ∈ a, x < nm.length) : Valid n (mixR f nm l a) := by
  have nd : nm.Nodup := hp.nodup_iff.mpr List.nodup_range
  have mem : ∀ {x}, x < nm.length ↔ x ∈ nm := fun {x} => by rw [hp.mem_iff, List.mem_range]
  have ix : ∀ {x}, x < nm.length → nm.idxOf x < nm.length := fun h => idx_lt (mem.mp h)
  have gt : ∀ {i}, i < nm.length → nm.getD i 0 < nm.length := fun {i} h => mem.mpr (by rw [getD_lt _ h]; exact List.getElem_mem h)
  have gi : ∀ {i}, i < nm.length → nm.idxOf (nm.getD i 0) = i := fun {i} h => by rw [getD_lt _ h]; exact List.Nodup.idxOf_getElem nd i h
  have ig : ∀ {x}, x < nm.length → nm.getD (nm.idxOf x) 0 = x := fun {x} h => by rw [getD_lt _ (ix h)]; exact List.getElem_idxOf (ix h)
  have ln := mix_len f nm l a
  refine Valid.of ⟨?_, hl, ?_, ?_, ?_, ?_⟩ ⟨?_, ?_, ?_, ?_, ?_, ?_⟩
  all_goals rw [ln]
  · exact gt M.pos
  · exact hl2
  · intro r hr
    obtain ⟨x, hx, rfl⟩ := List.mem_map.mp hr
    rw [List.length_map, List.length_range]
  · intro r hr y hy
    obtain ⟨x, hx, rfl⟩ := List.mem_map.mp hr
    obtain ⟨z, hz, rfl⟩ := List.mem_map.mp hy
    exact gt (M.cl _ _ (ix (List.mem_range.mp hx)) (ix (List.mem_range.mp hz)))
  · exact ha
  · exact gt M.pos
  · intro b hb
    have h' : b < l.length := by rw [hl]; exact hb
    show l.getD b 0 < _
    rw [getD_lt _ h']
    exact hl2 _ (List.getElem_mem h')
  · intro x y hx hy
    rw [mix_j hx hy]
    exact gt (M.cl _ _ (ix hx) (ix hy))
  · intro x hx
    show (mixR f nm l a).tab.j (nm.getD 0 0) x = x
    rw [mix_j (gt M.pos) hx, gi M.pos, M.u1 _ (ix hx), ig hx]
  · intro x hx
    show (mixR f nm l a).tab.j x (nm.getD 0 0) = x
    rw [mix_j hx (gt M.pos), gi M.pos, M.u2 _ (ix hx), ig hx]
  · intro x y z hx hy hz
    have cxy := M.cl _ _ (ix hx) (ix hy)
    have cyz := M.cl _ _ (ix hy) (ix hz)
    rw [mix_j hx hy, mix_j hy hz, mix_j (gt cxy) hz, mix_j hx (gt cyz), gi cxy, gi cyz, M.as _ _ _ (ix hx) (ix hy) (ix hz)]
end My
end

section
/-! Rules that the layer lacks. -/
namespace My
open PySem PySem.Spec PyProof.Rows L2
abbrev iv (n : Nat) : V := .int (n : Int)
/-- the tuples are kept -/
def Tups (H H' : Hp) : Prop := ∀ b xs, H b = some (.tup xs) → H' b = some (.tup xs)
theorem Tups.refl (H : Hp) : Tups H H := fun _ _ h => h
theorem Tups.trans {H H1 H2 : Hp} (a : Tups H H1) (b : Tups H1 H2) : Tups H H2 := fun c o h => b c o (a c o h)
theorem _root_.L2.Same.tups {H H' : Hp} (s : Same H H') : Tups H H' := fun b xs h => s b _ h
section
variable {X : Cx}
/-- set(t), t a tuple of ints -/
theorem call_set_tup (hc : X.calm = true) : CallR X (.type "set") (fun xs H Q => ∃ (p : Addr) (ns : List Int), xs = [.ref p] ∧ SqT X.K H p (ns.map V.int) ∧ ns.length ≤ 1000 ∧ ∀ a n, H a = none → n ≤ ns.length → Q (.ref a) (upd H a (SetO X.w a (fun j => decide (j ∈ ns)) n))) := by
  intro pins s σ H xs us Q I r h
  obtain ⟨p, ns, rfl, hq, hl, q⟩ := h
  rw [Vals.ref1 r]
  obtain ⟨its, rv, pt, hz⟩ := I.tuple hq
  have areInts : IntsAre its.toArray.toList ns := ints_of_vals rv
  refine call_set_tupI ns (I.ok.hd hc) (show s.heap.IsTuple p its.toArray from pt) areInts (by unfold scanBound; omega) fun h' tk c R1 hcn k => ?_
  exact ⟨.ref _, upd H s.heap.objs.size (SetO X.w s.heap.objs.size (fun j => decide (j ∈ ns)) c), I.laid (t' := tk) k (Nat.le_refl _) (setO_new R1), rfl, q _ _ (I.hok.fresh (Nat.le_refl _)) hcn⟩

/-- min(t), max(t) of a tuple of two ints -/
theorem num2 {x y : Int} {its : List Value} (rv : Vals [V.int x, V.int y] its) : ∀ i v, its.toArray[i]? = some v → ∃ t, v = Value.int ([x, y].getD i 0) t := by
  intro i v hv
  obtain ⟨t, u, rfl⟩ := Vals.int2 rv
  match i, hv with
  | 0, hv => exact ⟨t, by simpa using hv.symm⟩
  | 1, hv => exact ⟨u, by simpa using hv.symm⟩
  | i + 2, hv => simp at hv
theorem two_min (x y : Int) (k : Nat) (h1 : k ≤ 1) (h2 : ∀ j, j ≤ 1 → [x, y].getD k 0 ≤ [x, y].getD j 0) : [x, y].getD k 0 = min x y := by
  have a := h2 0 (by omega)
  have b := h2 1 (by omega)
  match k, h1 with
  | 0, _ => simp at a b ⊢; omega
  | 1, _ => simp at a b ⊢; omega
theorem two_max (x y : Int) (k : Nat) (h1 : k ≤ 1) (h2 : ∀ j, j ≤ 1 → [x, y].getD j 0 ≤ [x, y].getD k 0) : [x, y].getD k 0 = max x y := by
  have a := h2 0 (by omega)
  have b := h2 1 (by omega)
  match k, h1 with
  | 0, _ => simp at a b ⊢; omega
  | 1, _ => simp at a b ⊢; omega
theorem call_minT (hc : X.calm = true) : CallR X (.builtin "min") (fun xs H Q => ∃ (p : Addr) (x y : Int), xs = [.ref p] ∧ SqT X.K H p [.int x, .int y] ∧ Q (.int (min x y)) H) := by
  intro pins s σ H xs us Q I r h
  obtain ⟨p, x, y, rfl, hq, q⟩ := h
  rw [Vals.ref1 r]
  obtain ⟨its, rv, pt, hz⟩ := I.tuple hq
  have hsz : its.toArray.size = 2 := by rw [List.size_toArray, ← rv.length]; rfl
  have hlt : p < s.heap.objs.size := pt.lt
  refine call_min_walk (wpAny_pyIter_tuple (show s.heap.IsTuple p its.toArray from pt) ?_)
  refine ⟨_, _, _, _, _, _, _, rfl, Walks.tuple (A := X.A.in1) (I.ok.hd hc) s.heap.objs.size p (Nat.ne_of_lt hlt) its.toArray, ?_, fun b hb => ?_, ?_, CmpOf.ints_lt (fun i => [x, y].getD i 0) (num2 rv), fun v h' tk hP hk => ?_⟩
  · exact ⟨⟨_, Heap.get?_push_size _ rfl, rfl, rfl⟩, IsTup.keeps pt fun b u e => Heap.get?_push_of_some _ e⟩
  · show b < (s.heap.push _).objs.size
    rw [Heap.size_push]
    rcases List.mem_cons.mp hb with e | hb
    · rw [e]
      exact Nat.lt_succ_self _
    · rw [List.mem_singleton.mp hb]
      exact Nat.lt_succ_of_lt hlt
  · rw [hsz]; decide
  · obtain ⟨t, rfl⟩ := num2 rv _ v hP
    obtain ⟨b1, b2⟩ := argBest_lt (fun i => [x, y].getD i 0) (its.toArray.size - 1)
    rw [two_min x y _ (by rw [hsz] at b1 ⊢; exact b1) (fun j hj => b2 j (by rw [hsz]; exact hj))]
    exact ⟨.int (min x y), H, I.kept (t' := tk) (fun b u e => hk b u (by simp; exact Nat.ne_of_lt (Heap.lt_size e)) (Heap.get?_push_of_some _ e)), ⟨t, rfl⟩, q⟩
theorem call_maxT (hc : X.calm = true) : CallR X (.builtin "max") (fun xs H Q => ∃ (p : Addr) (x y : Int), xs = [.ref p] ∧ SqT X.K H p [.int x, .int y] ∧ Q (.int (max x y)) H) := by
  intro pins s σ H xs us Q I r h
  obtain ⟨p, x, y, rfl, hq, q⟩ := h
  rw [Vals.ref1 r]
  obtain ⟨its, rv, pt, hz⟩ := I.tuple hq
  have hsz : its.toArray.size = 2 := by rw [List.size_toArray, ← rv.length]; rfl
  have hlt : p < s.heap.objs.size := pt.lt
  refine call_max_walk (wpAny_pyIter_tuple (show s.heap.IsTuple p its.toArray from pt) ?_)
  refine ⟨_, _, _, _, _, _, _, rfl, Walks.tuple (A := X.A.in1) (I.ok.hd hc) s.heap.objs.size p (Nat.ne_of_lt hlt) its.toArray, ?_, fun b hb => ?_, ?_, CmpOf.ints_gt (fun i => [x, y].getD i 0) (num2 rv), fun v h' tk hP hk => ?_⟩
  · exact ⟨⟨_, Heap.get?_push_size _ rfl, rfl, rfl⟩, IsTup.keeps pt fun b u e => Heap.get?_push_of_some _ e⟩
  · show b < (s.heap.push _).objs.size
    rw [Heap.size_push]
    rcases List.mem_cons.mp hb with e | hb
    · rw [e]
      exact Nat.lt_succ_self _
    · rw [List.mem_singleton.mp hb]
      exact Nat.lt_succ_of_lt hlt
  · rw [hsz]; decide
  · obtain ⟨t, rfl⟩ := num2 rv _ v hP
    obtain ⟨b1, b2⟩ := argBest_gt (fun i => [x, y].getD i 0) (its.toArray.size - 1)
    rw [two_max x y _ (by rw [hsz] at b1 ⊢; exact b1) (fun j hj => b2 j (by rw [hsz]; exact hj))]
    exact ⟨.int (max x y), H, I.kept (t' := tk) (fun b u e => hk b u (by simp; exact Nat.ne_of_lt (Heap.lt_size e)) (Heap.get?_push_of_some _ e)), ⟨t, rfl⟩, q⟩
end
end My
end

section
/-! Dicts with bools as keys, with nested tuples as keys; displays with a tuple as key; the two kinds of dicts of one program. -/
namespace My
open PySem PySem.Spec PyProof.Rows L2
section
variable {κ κ' : Type} [DecidableEq κ] [DecidableEq κ']
theorem valV_inj {f : κ → κ'} (hf : ∀ a b, f a = f b → a = b) (k : κ) : ∀ kvs : List (κ × V), valV (kvs.map fun p => (f p.1, p.2)) (f k) = valV kvs k
  | [] => rfl
  | p :: r => by
    rw [List.map_cons]
    by_cases e : p.1 = k
    · rw [valV_pos (show (f p.1, p.2).1 = f k by rw [e]), valV_pos e]
    · rw [valV_neg (show ¬ (f p.1, p.2).1 = f k from fun q => e (hf _ _ q)), valV_neg e]
      exact valV_inj hf k r
theorem putK_inj {f : κ → κ'} (hf : ∀ a b, f a = f b → a = b) (k : κ) (v : V) (kvs : List (κ × V)) (h : valV kvs k = none) : putK (kvs.map fun p => (f p.1, p.2)) (f k) v = (putK kvs k v).map fun p => (f p.1, p.2) := by
  rw [putK_new v (by rw [valV_inj hf]; exact h), putK_new v h, List.map_append]
  rfl
end

/-! ### bools as keys -/
def bK (b : Bool) : Leaf := .num (if b = true then 1 else 0)
theorem bK_inj : ∀ a b, bK a = bK b → a = b := by intro a b; cases a <;> cases b <;> simp [bK]
theorem bK_is {P : Program} {w : World} (b : Bool) : (leafKind P w).is (bK b) (.bool b) = true := by
  show Leaf.isOf (bK b) (.bool b) = true
  cases b <;> rfl
def DBO (P : Program) (w : World) (a : Addr) (kvs : List (Bool × V)) : HO := .ext fun h => kvs.length ≤ sizeLine ∧ (a == sysModules) = false ∧ ∃ vs, KV (kvs.map fun p => (bK p.1, p.2)) vs ∧ h.DictOf (leafKind P w) a vs
section
variable {X : Cx} {pos : Pos}
theorem dbo_ok {P : Program} {w : World} {H : Hp} {h : Heap} {a : Addr} {kvs : List (Bool × V)} {vs : List (Leaf × Value)} (z : kvs.length ≤ sizeLine) (hd : (a == sysModules) = false) (r : KV (kvs.map fun p => (bK p.1, p.2)) vs) (dd : h.DictOf (leafKind P w) a vs) : ObjOk P w H h a (DBO P w a kvs) := by
  obtain ⟨o, es, ep, e, c⟩ := id dd
  refine ⟨⟨z, hd, vs, r, dd⟩, ⟨o, e⟩, fun h1 h2 p k => ?_⟩
  obtain ⟨z', hd', vs', r', o', es', ep', e', c'⟩ := p
  exact ⟨z', hd', vs', r', o', es', ep', k _ e', c'⟩
theorem dbo_get {pins : List (Addr × Obj)} {σ : L2.St} {H : Hp} {s : Shared} {a : Addr} {kvs : List (Bool × V)} (I : Inv X pins σ H s) (e : H a = some (DBO X.prog X.w a kvs)) :
    kvs.length ≤ sizeLine ∧ (a == sysModules) = false ∧ ∃ vs, KV (kvs.map fun p => (bK p.1, p.2)) vs ∧ s.heap.DictOf (leafKind X.prog X.w) a vs := (I.hok a _ e).1
def tDNewB (P : Program) (w : World) : TE := fun _ H Q => ∀ p, H p = none → Q (.ref p) (upd H p (DBO P w p []))
theorem pe_dnewB : PE X (.Dict [] [] pos) (tDNewB X.prog X.w) := ⟨fun pins s σ H Q I h =>
  wpAny_Dict_empty ⟨.ref s.heap.objs.size, _, I.laid (a := s.heap.objs.size) (o := DBO X.prog X.w s.heap.objs.size []) (t' := s.toks) (fun _ _ q => Heap.get?_push_of_some _ q) (Nat.le_refl _)
    (dbo_ok (Nat.zero_le _) (beq_eq_false_iff_ne.mpr (Ne.symm (Nat.ne_of_lt I.big))) .nil (Heap.DictOf.new s.heap)), rfl, h _ (I.hok.fresh (Nat.le_refl _))⟩⟩
theorem op_bnotin : OpR X (compareOp .NotIn) (fun x y H Q => ∃ b a kvs, x = .bl b ∧ y = .ref a ∧ H a = some (DBO X.prog X.w a kvs) ∧ Q (.bl (!(valV kvs b).isSome)) H) := by
  intro pins s σ H x y v u Q I rx ry h
  obtain ⟨b, a, kvs, rfl, rfl, e, q⟩ := h
  cases rx
  cases ry
  obtain ⟨z, hd, vs, rel, dd⟩ := dbo_get I e
  refine wpAny_notIn_of (bK_is b) hd dd.mapOf ?_
  rw [← (rel.val (bK b)).isSome_eq, valV_inj bK_inj]
  exact ⟨.bl _, H, I.tok _, rfl, q⟩
theorem ix_dictB : IxR X (fun x y H Q => ∃ a b kvs v, x = .ref a ∧ y = .bl b ∧ H a = some (DBO X.prog X.w a kvs) ∧ valV kvs b = some v ∧ Q v H) := by
  intro value slice pins s σ H x y v u Q I rx ry h hs
  obtain ⟨a, b, kvs, z, rfl, rfl, e, hv, q⟩ := h
  cases rx
  cases ry
  obtain ⟨zz, hd, vs, rel, dd⟩ := dbo_get I e
  have rr := rel.val (bK b)
  rw [valV_inj bK_inj, hv] at rr
  obtain ⟨w', hw, rw'⟩ := RelO.some_of rr
  exact tail_any dd.typeIs PySem.F.slot_dict_getitem.lookup (wpAny_getItem_of (bK_is b) dd.mapOf hw ⟨z, H, I.tok _, rw', q⟩) hs
theorem set_dictB : PSet X (fun o i v H Q => ∃ a b kvs, o = .ref a ∧ i = .bl b ∧ H a = some (DBO X.prog X.w a kvs) ∧ kvs.length < sizeLine ∧ valV kvs b = none ∧ Q (upd H a (DBO X.prog X.w a (putK kvs b v)))) := by
  intro pins s σ H o i v ov iv u Q I ro ri rv h
  obtain ⟨a, b, kvs, rfl, rfl, e, hl, hn, q⟩ := h
  cases ro
  cases ri
  obtain ⟨z, hd, vs, rel, dd⟩ := dbo_get I e
  have hz : vs.length ≤ sizeLine := by rw [← rel.length, List.length_map]; exact z
  have hp : (putK kvs b v).length ≤ sizeLine := by have := length_putK kvs b v; omega
  refine wpAny_setItem_pairs (hsz := hz) (bK_is b) dd fun h' dd' hs => ?_
  have stands : ∃ q, h'.get? a = some q := let ⟨q, _, _, hq, _⟩ := dd'; ⟨q, hq⟩
  have rp := rel.put (bK b) rv
  rw [putK_inj bK_inj _ _ _ hn] at rp
  exact ⟨_, d_write I (by rw [e]; exact True.intro) hs stands (dbo_ok hp hd rp dd'), q⟩
end

/-! ### (int, tuple of ints) as keys -/
abbrev KN := Nat × List Nat
def nums (l : List Nat) : List NestedKey := l.map fun (n : Nat) => NestedKey.num (n : Int)
def nk (k : KN) : NestedKey := .tup [.num (k.1 : Int), .tup (nums k.2)]
theorem nums_inj : ∀ a b, nums a = nums b → a = b
  | [], [], _ => rfl
  | [], _ :: _, h => by simp [nums] at h
  | _ :: _, [], h => by simp [nums] at h
  | x :: a, y :: b, h => by
    simp only [nums, List.map_cons, List.cons.injEq, NestedKey.num.injEq] at h
    rw [nums_inj a b h.2, Int.ofNat.inj h.1]
theorem nk_inj (a b : KN) (h : nk a = nk b) : a = b := by
  obtain ⟨a1, a2⟩ := a
  obtain ⟨b1, b2⟩ := b
  unfold nk at h
  injection h with h
  injection h with h1 h2
  injection h1 with h1
  injection h2 with h2 _
  injection h2 with h2
  have e1 : a1 = b1 := Int.ofNat.inj h1
  have e2 : a2 = b2 := nums_inj _ _ h2
  rw [e1, e2]
theorem depth_nums : ∀ l, NestedKey.depthAll (nums l) = 0
  | [] => rfl
  | x :: l => by
    show max (NestedKey.depth (.num (x : Int))) (NestedKey.depthAll (nums l)) = 0
    rw [depth_nums l]; rfl
theorem depth_nk (k : KN) : (nk k).depth ≤ 8 := by
  show max (NestedKey.depth (.num (k.1 : Int))) (max (NestedKey.depthAll (nums k.2) + 1) 0) + 1 ≤ 8
  rw [depth_nums]
  show max 0 (max (0 + 1) 0) + 1 ≤ 8
  decide
/-- at a stands the key k -/
def KeyAt (H : Hp) (k : KN) (a : Addr) : Prop := ∃ b, H a = some (.tup [iv k.1, .ref b]) ∧ H b = some (.tup (k.2.map iv))
theorem KeyAt.tups {H H' : Hp} {k : KN} {a : Addr} (t : Tups H H') (h : KeyAt H k a) : KeyAt H' k a := let ⟨b, h1, h2⟩ := h; ⟨b, t _ _ h1, t _ _ h2⟩
theorem nested_nums {h : Heap} : ∀ {l : List Nat} {us : List Value}, Vals (l.map iv) us → NestedAll h (nums l) us
  | [], _, .nil => .nil
  | x :: l, _, .cons r t => by
    obtain ⟨k, rfl⟩ := r
    exact .cons (.int _ _) (nested_nums t)
theorem KeyAt.is {P : Program} {w : World} {H : Hp} {h : Heap} {k : KN} {a : Addr} (ok : HOk P w H h) (x : KeyAt H k a) : (nestedKind P w).is h (nk k) a := by
  obtain ⟨b, ha, hb⟩ := x
  obtain ⟨_, its, r, o, h1, h2, n, h3⟩ := (show ObjOk P w H h a (.tup [iv k.1, .ref b]) from ok a _ ha)
  obtain ⟨_, its2, r2, o2, g1, g2, n2, g3⟩ := (show ObjOk P w H h b (.tup (k.2.map iv)) from ok b _ hb)
  refine ⟨.tup h1 h2 h3 ?_, depth_nk k⟩
  cases r with
  | cons ra rt =>
    cases rt with
    | cons rb rn =>
      cases rn
      obtain ⟨t, rfl⟩ := ra
      cases rb
      exact .cons (.int _ _) (.cons (.tup g1 g2 g3 (by simpa using nested_nums r2)) .nil)
abbrev XE := KN × Addr × V
def RelX : List XE → List (NestedKey × Addr × Value) → Prop := Paired fun x y => y.1 = nk x.1 ∧ y.2.1 = x.2.1 ∧ RelV x.2.2 y.2.2
def DXO (P : Program) (w : World) (a : Addr) (xs : List XE) : HO := .ext fun h => xs.length ≤ sizeLine ∧ (a == sysModules) = false ∧ ∃ ys, RelX xs ys ∧
  ∃ o es ep, h.get? a = some o ∧ o.ExactDict ∧ o.data = .dict es ep ∧ es.toList = ys.map (entryOfKey (nestedKind P w)) ∧ (ys.map (·.1)).Nodup
def KeysIn (H : Hp) (xs : List XE) : Prop := ∀ x ∈ xs, KeyAt H x.1 x.2.1
theorem KeysIn.tups {H H' : Hp} {xs : List XE} (t : Tups H H') (h : KeysIn H xs) : KeysIn H' xs := fun x hx => (h x hx).tups t
theorem RelX.at {xs : List XE} {ys : List (NestedKey × Addr × Value)} (r : RelX xs ys) (k : KN) : RelO (valV (xs.map fun x => (x.1, x.2.2)) k) ((atKey ys (nk k)).map (·.2)) := by
  unfold RelX at r
  induction r with
  | nil => exact True.intro
  | @cons x y xs ys h t ih =>
    rw [List.map_cons]
    by_cases e : x.1 = k
    · rw [valV_pos (show (x.1, x.2.2).1 = k from e)]
      have e2 : y.1 = nk k := by rw [h.1, e]
      rw [show atKey (y :: ys) (nk k) = some y.2 by simp [atKey, e2]]
      exact h.2.2
    · rw [valV_neg (show ¬ (x.1, x.2.2).1 = k from e)]
      have e2 : ¬ y.1 = nk k := fun q => e (nk_inj _ _ (h.1.symm.trans q))
      rw [show atKey (y :: ys) (nk k) = atKey ys (nk k) by simp [atKey, e2]]
      exact ih
section
variable {X : Cx} {pos : Pos} {pins : List (Addr × Obj)} {σ : L2.St} {H : Hp} {s : Shared}
theorem dxo_get {a : Addr} {xs : List XE} (I : Inv X pins σ H s) (e : H a = some (DXO X.prog X.w a xs)) (hk : KeysIn H xs) :
    xs.length ≤ sizeLine ∧ (a == sysModules) = false ∧ ∃ ys, RelX xs ys ∧ s.heap.DictOfH (nestedKind X.prog X.w) a ys := by
  obtain ⟨z, hd, ys, r, o, es, ep, h1, h2, h3, h4, h5⟩ := (I.hok a _ e).1
  refine ⟨z, hd, ys, r, o, es, ep, h1, h2, h3, h4, fun y hy => ?_, h5⟩
  have all : ∀ {l : List XE} {m : List (NestedKey × Addr × Value)}, RelX l m → KeysIn H l → ∀ y ∈ m, (nestedKind X.prog X.w).is s.heap y.1 y.2.1 := by
    intro l m q
    unfold RelX at q
    induction q with
    | nil => intro _ x hx; exact nomatch hx
    | @cons p q ps qs hq t ih =>
      intro hK x hx
      rcases List.mem_cons.mp hx with e | hx
      · subst e
        rw [hq.1, hq.2.1]
        exact (hK p (by simp)).is I.hok
      · exact ih (fun z hz => hK z (by simp [hz])) x hx
  exact all r hk y hy
theorem dxo_ok {P : Program} {w : World} {H : Hp} {h : Heap} {a : Addr} {xs : List XE} {ys : List (NestedKey × Addr × Value)} (z : xs.length ≤ sizeLine) (hd : (a == sysModules) = false) (r : RelX xs ys) (dd : h.DictOfH (nestedKind P w) a ys) : ObjOk P w H h a (DXO P w a xs) := by
  obtain ⟨o, es, ep, h1, h2, h3, h4, _, h5⟩ := dd
  refine ⟨⟨z, hd, ys, r, o, es, ep, h1, h2, h3, h4, h5⟩, ⟨o, h1⟩, fun g1 g2 p k => ?_⟩
  obtain ⟨z', hd', ys', r', o', es', ep', e', c'⟩ := p
  exact ⟨z', hd', ys', r', o', es', ep', k _ e', c'⟩
def tDNewX (P : Program) (w : World) : TE := fun _ H Q => ∀ p, H p = none → Q (.ref p) (upd H p (DXO P w p []))
theorem pe_dnewX : PE X (.Dict [] [] pos) (tDNewX X.prog X.w) := ⟨fun pins s σ H Q I h =>
  wpAny_Dict_empty ⟨.ref s.heap.objs.size, _, I.laid (a := s.heap.objs.size) (o := DXO X.prog X.w s.heap.objs.size []) (t' := s.toks) (fun _ _ q => Heap.get?_push_of_some _ q) (Nat.le_refl _)
    (dxo_ok (Nat.zero_le _) (beq_eq_false_iff_ne.mpr (Ne.symm (Nat.ne_of_lt I.big))) .nil (Heap.DictOfH.new s.heap)), rfl, h _ (I.hok.fresh (Nat.le_refl _))⟩⟩
theorem room_x {A : Around} (hu : A.units + 64 < cLine) : A.in1.units + 8 < cLine := by rw [Around.in1_units]; omega
theorem op_xnotin (hu : X.A.units + 64 < cLine) : OpR X (compareOp .NotIn) (fun x y H Q => ∃ a b k xs, x = .ref b ∧ y = .ref a ∧ KeyAt H k b ∧ H a = some (DXO X.prog X.w a xs) ∧ KeysIn H xs ∧ Q (.bl (!(valV (xs.map fun x => (x.1, x.2.2)) k).isSome)) H) := by
  intro pins s σ H x y v u Q I rx ry h
  obtain ⟨a, b, k, xs, rfl, rfl, hk, e, hK, q⟩ := h
  cases rx
  cases ry
  obtain ⟨z, hd, ys, rel, dd⟩ := dxo_get I e hK
  refine wpAny_notIn_heap (room_x hu) (hk.is I.hok) hd dd ?_
  have rr := (rel.at k).isSome_eq
  rw [Option.isSome_map] at rr
  rw [← rr]
  exact ⟨.bl _, H, I.tok _, rfl, q⟩
theorem ix_dictX (hu : X.A.units + 64 < cLine) : IxR X (fun x y H Q => ∃ a b k xs v, x = .ref a ∧ y = .ref b ∧ KeyAt H k b ∧ H a = some (DXO X.prog X.w a xs) ∧ KeysIn H xs ∧ valV (xs.map fun x => (x.1, x.2.2)) k = some v ∧ Q v H) := by
  intro value slice pins s σ H x y v u Q I rx ry h hs
  obtain ⟨a, b, k, xs, z, rfl, rfl, hk, e, hK, hv, q⟩ := h
  cases rx
  cases ry
  obtain ⟨zz, hd, ys, rel, dd⟩ := dxo_get I e hK
  have rr := rel.at k
  rw [hv] at rr
  obtain ⟨w', hw, rw'⟩ := RelO.some_of rr
  obtain ⟨p, hp, hp2⟩ := Option.map_eq_some_iff.mp hw
  refine tail_any dd.typeIs PySem.F.slot_dict_getitem.lookup (wpAny_getItem_heap (room_x hu) (hk.is I.hok) dd hp ?_) hs
  rw [hp2]
  exact ⟨z, H, I.tok _, rw', q⟩
theorem Paired.snoc {α β : Type} {F : α → β → Prop} {a : α} {b : β} (r : F a b) : ∀ {l₁ : List α} {l₂ : List β}, Paired F l₁ l₂ → Paired F (l₁ ++ [a]) (l₂ ++ [b])
  | _, _, .nil => .cons r .nil
  | _, _, .cons q t => .cons q (Paired.snoc r t)
theorem set_dictX (hu : X.A.units + 64 < cLine) : PSet X (fun o i v H Q => ∃ a b k xs, o = .ref a ∧ i = .ref b ∧ KeyAt H k b ∧ H a = some (DXO X.prog X.w a xs) ∧ KeysIn H xs ∧ xs.length < sizeLine ∧ valV (xs.map fun x => (x.1, x.2.2)) k = none ∧
    Q (upd H a (DXO X.prog X.w a (xs ++ [(k, b, v)])))) := by
  intro pins s σ H o i v ov iv u Q I ro ri rv h
  obtain ⟨a, b, k, xs, rfl, rfl, hk, e, hK, hl, hn, q⟩ := h
  cases ro
  cases ri
  obtain ⟨z, hd, ys, rel, dd⟩ := dxo_get I e hK
  have hz : ys.length ≤ sizeLine := by rw [← Paired.length rel]; exact z
  have hp : (xs ++ [(k, b, v)]).length ≤ sizeLine := by rw [List.length_append, List.length_singleton]; omega
  refine wpAny_setItem_heap (hsz := hz) (room_x hu) (hk.is I.hok) dd fun h' dd' hs => ?_
  have rr := rel.at k
  rw [hn] at rr
  have hat : atKey ys (nk k) = none := by
    have := RelO.none_of rr
    exact Option.map_eq_none_iff.mp this
  rw [storedH_new hat] at dd'
  have stands : ∃ q, h'.get? a = some q := let ⟨q, _, _, hq, _⟩ := dd'; ⟨q, hq⟩
  exact ⟨_, d_write I (by rw [e]; exact True.intro) hs stands (dxo_ok hp hd (Paired.snoc (F := fun (x : XE) (y : NestedKey × Addr × Value) => y.1 = nk x.1 ∧ y.2.1 = x.2.1 ∧ RelV x.2.2 y.2.2) ⟨rfl, rfl, rv⟩ rel) dd'), q⟩
end

/-! ### {t: v}, t a tuple of ints -/
section
variable {X : Cx} {pos : Pos}
theorem pe_dispT {k v : Expr} {tk tv : TE} (hk : PE X k tk) (hv : PE X v tv) (hu : X.A.units + 64 < cLine) : PE X (.Dict [some k] [v] pos) (fun σ H Q => ∀ p, H p = none → tk σ (upd H p (.dT [])) fun x H1 => tv σ H1 fun y H2 =>
    H2 p = some (.dT []) ∧ ∃ ks b, x = .ref b ∧ H2 b = some (.tup (ks.map kV)) ∧ Q (.ref p) (upd H2 p (.dT [(ks, y)]))) := by
  refine ⟨fun pins s σ H Q I q => ?_⟩
  have new := I.hok.fresh (Nat.le_refl s.heap.objs.size)
  have I1 := I.laid (a := s.heap.objs.size) (o := .dT []) (h' := s.heap.push { cls := .type "dict", data := .dict #[] }) (t' := s.toks) (fun _ _ q => Heap.get?_push_of_some _ q) (Nat.le_refl _) (dt_empty s.heap I.big)
  rw [arm_eval_Dict, zip_pairTrees [some k] [v] X.env pos rfl rfl, dictDisplay_pairs (pairTrees [some k] [v] X.env pos) (by simp [pairTrees]) (by simp [pairTrees])]
  have hp : PPs X pos [some k] [v] [(tk, tv)] := pps_cons hk hv pps_nil
  refine wpAny_bind (wpAny_standAt (wpAny_bind (wpAny_subDictH (knd := tupleKind (mixKind X.prog X.w)) (Q := fun d s' => wpAny (model X.prog X.w) X.A (pure (Value.ref d)) (EP X pins σ Q) X.xe s') (show X.A.units < cLine by omega) (by simp [pairTrees])
    (thn (hp.run pins _ σ _ (fun ps H2 => match ps with
      | [(x, y)] => H2 s.heap.objs.size = some (.dT []) ∧ ∃ ks b, x = .ref b ∧ H2 b = some (.tup (ks.map kV)) ∧ Q (.ref s.heap.objs.size) (upd H2 s.heap.objs.size (.dT [(ks, y)]))
      | _ => False) I1 (q _ new)) fun ws s2 h2 => ?_))))
  obtain ⟨ps, H2, I2, rel, q1⟩ := h2
  match ps, rel, q1 with
  | [(x, y)], .cons (b := (w1, w2)) r .nil, q1 =>
    obtain ⟨e, ks, b, ep, hb, q2⟩ := q1
    obtain ⟨r1, r2⟩ := r
    subst ep
    cases (show w1 = Value.ref b from r1)
    obtain ⟨z, hd, ys, ry, dd⟩ := dt_of I2.hok e
    cases ry
    refine ⟨[(ks, b, w2)], ⟨rfl, rfl, key_of I2.hok hb, True.intro⟩, dd, fun h' tk dd' hs => wpAny_pure ⟨.ref s.heap.objs.size, _, ?_, rfl, q2⟩⟩
    obtain ⟨o, es, ep', h1, h2, h3, h4, _, h5⟩ := dd'
    refine d_write I2 (by rw [e]; exact True.intro) hs ⟨o, h1⟩ ⟨by rw [sizeLine_eq]; show 1 ≤ 16777216; decide, hd, [(ks, b, w2)], .cons ⟨rfl, ?_, r2⟩ .nil, o, es, ep', h1, h2, h3, h4, h5⟩
    show upd H2 s.heap.objs.size _ b = _
    rw [upd_ne (ne_of hb e (fun z => nomatch z))]
    exact hb
end
end My
end

section
/-! any(x not in d for x in xs), xs a list, d a dict held by a name of the def. -/
namespace My
open PySem PySem.Spec PyProof.Rows L2 GxR
/-- without the tables -/
def noTbl (H : Hp) : Hp := fun b => match H b with
  | some (.tbl _) => none
  | x => x
theorem noTbl_some {H : Hp} {b : Addr} {u : HO} (h : noTbl H b = some u) : H b = some u ∧ ∀ ps, u ≠ .tbl ps := by
  unfold noTbl at h
  split at h
  · cases h
  · rename_i q
    exact ⟨h, fun ps z => q ps (by rw [h, z])⟩
theorem noTbl_of {H : Hp} {b : Addr} {u : HO} (h : H b = some u) (n : ∀ ps, u ≠ .tbl ps) : noTbl H b = some u := by
  unfold noTbl
  rw [h]
  cases u <;> first | rfl | exact absurd rfl (n _)
theorem noTbl_ok {P : Program} {w : World} {H : Hp} {h h' : Heap} (ok : HOk P w H h) (k : ∀ b u ob, H b = some u → (∀ ps, u ≠ .tbl ps) → h.get? b = some ob → h'.get? b = some ob) : HOk P w (noTbl H) h' := by
  intro a u e
  obtain ⟨e1, n⟩ := noTbl_some e
  refine (ok a u e1).stay (fun b ob hb q => ?_) (fun b q => noTbl_of q (fun _ z => nomatch z)) fun b xs q => noTbl_of q (fun _ z => nomatch z)
  rcases hb with z | z
  · rw [z] at q ⊢; exact k a u ob e1 n q
  · exact k b _ ob z (fun _ z => nomatch z) q
theorem rd_noTbl {H : Hp} {a : Addr} {u : HO} (h : Rd H a u) (n : ∀ ps, u ≠ .tbl ps) : Rd (noTbl H) a u := by
  rcases h with h | ⟨o, h⟩
  · exact .inl (noTbl_of h n)
  · exact .inr ⟨o, noTbl_of h fun _ z => nomatch z⟩
theorem dget_noTbl {H : Hp} {a : Addr} {y : V} {o : Option V} : DGet H a y o → DGet (noTbl H) a y o
  | .inl ⟨ents, key, e, q, l⟩ => .inl ⟨ents, key, rd_noTbl e (fun _ z => nomatch z), q, l⟩
  | .inr ⟨ents, key, p, e, q, t, l⟩ => .inr ⟨ents, key, p, rd_noTbl e (fun _ z => nomatch z), q, noTbl_of t (fun _ z => nomatch z), l⟩
theorem notIn_ok {P : Program} {w : World} {H : Hp} {s : Shared} {a : Addr} {y : V} {u : Value} {o : Option V} {A : Around} {E : Value → Shared → Prop} (ok : HOk P w H s.heap) (hu : A.units + 1 < cLine) (g : DGet H a y o) (ry : RelV y u) :
    wpAny (model P w) A (compareOp .NotIn u (.ref a)) (fun y s' => y = .bool (!o.isSome) ∧ Keeps s s') E s := by
  rcases g with ⟨ents, key, at_, rfl, found⟩ | ⟨ents, key, p, at_, rfl, atP, found⟩
  · obtain ⟨_, _, _, pairs, lies⟩ := dk_rd ok at_
    have same := (pairs.val key).isSome_eq
    refine wpAny_notIn_of (kV_is ry) (by assumption) lies.mapOf ⟨?_, keeps_tok _ _⟩
    rw [← same, ← found]
  · obtain rfl : u = .ref p := ry
    obtain ⟨_, _, _, pairs, lies⟩ := dt_rd ok at_
    have same := (pairs.val key).isSome_eq
    rw [Option.isSome_map] at same
    refine wpAny_notIn_heap (tupleKind_room_in1 hu) (key_of ok atP) (by assumption) lies ⟨?_, keeps_tok _ _⟩
    rw [← same, ← found]
section
variable {X : Cx} {pins : List (Addr × Obj)} {σ : L2.St} {H : Hp} {s : Shared}
def tAnyNot (K : PySem.W.Frag) (P : Addr) (i : Nat) (te : TE) : TE := fun σ H Q => te σ H fun v H1 => ∃ (a : Addr) (xs : List V) (d : Addr) (f : V → Option V), v = .ref a ∧ SqL K H1 a xs ∧ σ[i]? = some (some (.ref d)) ∧ (∀ x ∈ xs, DGet H1 d x (f x)) ∧ TabG H1 P ∧
  ∀ H2, Tabbed P H1 H2 → Q (.bl (xs.any fun x => !(f x).isSome)) H2
/-- g stands for the generator: its answers are bs, and behind it the heap is as it was but for the table -/
def Stands (X : Cx) (pins : List (Addr × Obj)) (σ : L2.St) (H1 : Hp) (P : Addr) (bs : List Bool) (g : Addr) (z : Shared) : Prop :=
  ∃ (foot writ : List Addr) (gens : Array GenState → Array GenState → Prop) (says : Nat → Value → Prop) (at_ : Nat → Shared → Prop), (at_ 0 z ∧ WalksS X.prog X.w X.A.in1 g foot writ gens bs.length says at_) ∧
    TruthOf X.prog X.w X.A.in1 says (fun i => bs.getD i false) ∧ ∀ z', Moved writ gens z z' → ∃ H2, Inv X pins σ H2 z' ∧ Tabbed P H1 H2
theorem three_ways {α β γ : Type} {Pc Gc : α → β → γ → Prop} {R : Prop} (h : ∀ a b c, Pc a b c → Gc a b c) (f : (∀ a b c, Pc a b c → Gc a b c) → R) : R := f h
theorem gen_listN {c P : Addr} {iter : Expr} {x y : Str} {px py q3 p3 gpos : Pos} {scope : Scope} {te : TE} {k i : Nat} {Q' : Value → Shared → Prop} {R : List Bool → Hp → Prop}
    (room : Room k X.A) (TB : TabB X.base X.mg c P) (inC : X.env.code = .ref c) (S : GenS X.env scope x) (over : PE X iter te)
    (slot : X.N[i]? = some y) (isCell : X.env.kindOf y = some .cell) (isFree : scope.names.lookup y = some .free) (closed : (cloFrom X.env.cells scope.names []).lookup y = some ((X.env.cells.lookup y).getD 0))
    (plain : ∀ u, genFold iter X.env u = pure u) (I : Inv X pins σ H s)
    (h : te σ H fun v H1 => ∃ (a : Addr) (xs : List V) (d : Addr) (f : V → Option V), v = .ref a ∧ SqL X.K H1 a xs ∧ σ[i]? = some (some (.ref d)) ∧ (∀ x ∈ xs, DGet H1 d x (f x)) ∧ TabG H1 P ∧ R (xs.map fun x => !(f x).isSome) H1)
    (use : ∀ bs H1 g z, R bs H1 → Stands X pins σ H1 P bs g z → Q' (.ref g) z)
    (nx : (x == ("__debug__" : Str)) = false := by decide) (ny : (y == ("__debug__" : Str)) = false := by decide) (nc : (y == ("__classdict__" : Str)) = false := by decide) :
    wpAny (model X.prog X.w) X.A (eval (.GeneratorExp (.Compare (.Name x py) [.NotIn] [.Name y q3] p3) [⟨.Name x px, iter, [], 0⟩] scope gpos) X.env) Q' X.xe s := by
  have shallow := room.dp
  refine wpAny_GeneratorExp_walksQD room.hd (closure_ok S.free |> fun _ => S.co) (closure_ok S.free) S.cell S.dot S.loc S.kind (by omega) (thn (over.run pins s σ H _ I h) fun u s1 got => ?_) plain
  obtain ⟨_, H1, I1, same, a, xs, d, f, rfl, isl, inσ, look, ⟨tab, tabH, trip⟩, rest1⟩ := got
  obtain rfl : u = .ref a := same
  obtain ⟨items, rv, lay, _⟩ := I1.list isl
  have lst := lay.isList
  have count := rv.length
  refine wpAny_pyIter_list lst ?_
  have aIn : a < s1.heap.objs.size := let ⟨_, e, _⟩ := lst; Heap.lt_size e
  -- the cell that holds the dict
  obtain ⟨_, _, slots⟩ := I1.loc
  obtain ⟨_, rfl, held⟩ := slots i y (.ref d) slot inσ (.inr (.inl isCell))
  obtain ⟨cl, clAt, clIs⟩ : ∃ cl, X.env.cells.lookup y = some cl ∧ s1.heap.IsCell cl (some (.ref d)) := by
    cases held with
    | inl no => exact absurd (no.1.symm.trans isCell) (by decide)
    | inr yes => exact yes.2
  have tabAt := I1.hok P _ tabH
  replace tabAt : s1.heap.get? P = some { cls := .none, data := .fields tab } := tabAt
  have tabIn := Heap.lt_size tabAt
  have apart : cl ≠ P := by
    rintro rfl
    obtain ⟨_, e, q⟩ := clIs
    rw [tabAt] at e
    injection e with e
    rw [← e] at q
    cases q
  generalize walker : ({ cls := .type "list_iterator", data := .fields #[.ref a, .int 0 0] } : Obj) = wk
  have up : ∀ b u, s1.heap.get? b = some u → (s1.heap.push wk).get? b = some u := fun b u e => Heap.get?_push_of_some _ e
  have codeUp := TB.code.keeps fun b u e => up b u (I1.bk b u e)
  have limUp := I1.nolimit.push wk
  have ready : (s1.heap.push wk).IsListIter s1.heap.objs.size a 0 ∧ (s1.heap.push wk).IsList a items.toArray := by
    subst walker
    exact ⟨⟨_, Heap.get?_push_size _ rfl, rfl, rfl⟩, lst.push _⟩
  refine ⟨limUp, three_ways (Pc := fun (_ : Value) (h3 : Heap) (_ : Nat) => Heap.ExtBut P (s1.heap.push wk) h3 ∧ (s1.heap.push wk).objs.size ≤ h3.objs.size ∧ ∃ more, h3.get? P = some { cls := .none, data := .fields (tab ++ more) } ∧ TriplesOk (tab ++ more).toList) (Gc := ?Gc) ?both ?split⟩
  case split =>
    intro both
    have there := up P _ tabAt
    cases found : codeAmong gpos tab.toList with
    | none =>
      refine wpAny_genexprCodeX inC (codeUp.code there trip) (codeUp.tab there) found fun made h3 tk ext ge lt obj _ grown _ => ?_
      obtain ⟨_, _, _, _, _, _, _, _, _, _, _, _, _, _, _, _, _, _, _, ok3, _⟩ := obj
      have out := grown.2
      generalize Value.ref made = code at out ok3 ⊢
      exact both code h3 tk ⟨ext, Nat.le_trans ge (Nat.le_of_lt lt), _, out, ok3⟩
    | some old =>
      refine wpAny_genexprCode_hit inC (codeUp.code there trip) found ?_
      exact both old (s1.heap.push wk) s1.toks ⟨Heap.ExtBut.refl _ _, Nat.le_refl _, #[], by rw [Array.append_empty]; exact there, by rw [Array.append_empty]; exact trip⟩
  case both =>
    rintro code h3 tk ⟨ext, ge, more, tab3, ok3⟩
    obtain ⟨_, _, b1, b2, b3, b4, b5, b6, b7, b8⟩ := TB.bm
    obtain ⟨_, stat, _⟩ := id I1.nolimit
    have statP : cStatics ≠ P := by
      rintro rfl
      obtain ⟨_, _, _, e, q, _⟩ := stat
      rw [tabAt] at e
      injection e with e
      rw [← e] at q
      cases q
    have grew : (s1.heap.push wk).objs.size = s1.heap.objs.size + 1 := Heap.size_push ..
    have kept : ∀ b u, b ≠ P → s1.heap.get? b = some u → h3.get? b = some u := fun b u n e => ext b u n (up b u e)
    refine wpAny_builtinsFor (m := X.mg) (by rw [I1.ok.glob]; exact ((I1.mod.glob.keeps I1.bk).push wk).extBut ext TB.gP) b1 b2 (kept _ _ b4 (I1.bk _ _ b5)) b6 b7 b8 ?_
    have atIter : ∀ b ∈ [s1.heap.objs.size, a], b ≠ P ∧ b < h3.objs.size := by
      intro b hb
      simp only [List.mem_cons, List.not_mem_nil, or_false] at hb
      rcases hb with rfl | rfl
      · exact ⟨Nat.ne_of_gt tabIn, by omega⟩
      · refine ⟨?_, Nat.lt_of_lt_of_le (Nat.lt_succ_of_lt aIn) (by rw [grew] at ge; exact ge)⟩
        rintro rfl
        obtain ⟨_, e, _, _, q⟩ := lst
        rw [tabAt] at e
        injection e with e
        rw [← e] at q
        cases q
    refine ⟨s1.heap.objs.size, [s1.heap.objs.size, a], [s1.heap.objs.size], items.toArray.size, (fun n u => items.toArray[n]? = some u), _, (fun _ => true), (fun n z => ∃ b, (xs.map fun x => !(f x).isSome)[n]? = some b ∧ z = .bool b), rfl,
      fun B none_ => Walks.list none_ s1.heap.objs.size a (Nat.ne_of_lt aIn) items.toArray, ?_, fun b hb => (atIter b hb).2, limUp.extBut ext statP, ?_, fun later sees => ⟨?_, ?_⟩, ?_⟩
    · exact (Walks.list (prog := X.prog) (w := X.w) (A := X.A) room.hd s1.heap.objs.size a (Nat.ne_of_lt aIn) items.toArray).frame _ _ _ ready fun b hb u e => ext b u (atIter b hb).1 e
    · intro q
      have := stat.lt
      simp only [List.mem_cons, List.not_mem_nil, or_false] at q
      rw [q] at this
      exact Nat.lt_irrefl _ this
    · intro _ _ _ _ _ _ _ _ _ _ _ _ _
      rw [List.forIn_nil]
      exact wpAny_pure ⟨rfl, keeps_refl _⟩
    · intro _ _ n u s2 nm _ _ _ isU _ hn hm keep2
      have all2 : ∀ b u, b ≠ P → s1.heap.get? b = some u → s2.heap.get? b = some u := fun b u ne e => by
        refine keep2 b (List.mem_range.mpr (Heap.lt_size (kept b u ne e))) (fun q => ?_) u (sees b u (kept b u ne e))
        rw [List.mem_singleton.mp q] at e
        exact absurd (Heap.lt_size e) (Nat.lt_irrefl _)
      replace isU : items[n]? = some u := by simpa using isU
      obtain ⟨nI, _⟩ := List.getElem?_eq_some_iff.mp isU
      have nX : n < xs.length := count ▸ nI
      obtain ⟨u', isU', rx⟩ := rv.get (i := n) (x := xs[n]) (List.getElem?_eq_getElem nX)
      obtain rfl : u = u' := Option.some.inj (isU.symm.trans isU')
      have still : HOk X.prog X.w (noTbl H1) s2.heap := noTbl_ok I1.hok fun b u ob hb no e => all2 b ob (fun q => no tab (by rw [q, tabH] at hb; exact (Option.some.inj hb).symm)) e
      obtain ⟨oc, ocAt, ocIs⟩ := clIs
      refine wpAny_Compare1 (wpAny_Name (wpAny_loadName_local S.kind (show scope.names.lookup x = some .local from S.loc) hn hm ?_) nx)
      refine wpAny_Name (wpAny_loadName_free (c := cl) (v := .ref d) S.kind (show scope.names.lookup y = some .free from isFree) (closed.trans (by rw [clAt]; rfl)) ⟨oc, all2 cl oc apart ocAt, ocIs⟩ ?_ nc) ny
      have few := room.un
      refine wpAny_mono (notIn_ok still (by omega) (dget_noTbl (look xs[n] (List.getElem_mem nX))) rx) (fun z s3 r => ⟨⟨_, ?_, r.1⟩, r.2⟩) fun _ _ e => e
      rw [List.getElem?_map, List.getElem?_eq_getElem nX, Option.map_some]
    · intro g h5 tk5 gs bare _ _ sees5 walks first
      simp only [List.length_range, GxR.passing_true] at walks
      have size : items.toArray.size = (xs.map fun x => !(f x).isSome).length := by rw [List.size_toArray, List.length_map, count]
      refine use _ H1 g _ rest1 ⟨_, _, _, _, _, ⟨first, by rw [← size]; exact walks.in4_1⟩, fun n z sj Qj Ej says hQj => ?_, fun z' moved => ?_⟩
      · obtain ⟨m, atM, b, atB, rfl⟩ := says
        have em : m = n := by
          obtain ⟨q, e⟩ := List.getElem?_eq_some_iff.mp atM
          rw [← e, List.getElem_range]
        have eb : (xs.map fun x => !(f x).isSome).getD n false = b := by rw [List.getD_eq_getElem?_getD, ← em, atB]; rfl
        replace hQj : Qj ((xs.map fun x => !(f x).isSome).getD n false) sj := hQj
        exact wpAny_truthy_bool (eb ▸ hQj)
      · have old : ∀ b u, s1.heap.get? b = some u → b ∉ h3.objs.size :: [s1.heap.objs.size] := fun b u e q => by
          have lt := Heap.lt_size e
          simp only [List.mem_cons, List.not_mem_nil, or_false] at q
          rcases q with q | q
          · have lt3 : (h3.objs.size : Nat) < s1.heap.objs.size := q ▸ lt
            omega
          · exact Nat.lt_irrefl _ (q ▸ lt)
        have J := inv_tab (more := more) (h' := z'.heap) (g' := z'.gens) (d' := z'.drawn) (t' := z'.toks) I1 tabH (fun b u ne e => moved.heap b u (old b u e) (sees5 b u (kept b u ne e)))
          (moved.heap P _ (old P _ tabAt) (sees5 P _ tab3)) (AllBare.movedS (I1.bare.push bare) moved)
        rw [sh_eta s1 z' moved.os] at J
        exact ⟨_, J, ⟨_, upd_same, ok3⟩, fun b ne => upd_ne ne⟩
theorem pe_anyNot {c P : Addr} {iter : Expr} {x y : Str} {px py q3 p3 p pos gpos : Pos} {scope : Scope} {te : TE} {k i : Nat}
    (hr : Room k X.A) (hg : Gl X "any") (hm : X.mg "any" = none) (TB : TabB X.base X.mg c P) (hcode : X.env.code = .ref c) (S : GenS X.env scope x) (hi : PE X iter te)
    (hN : X.N[i]? = some y) (hy : X.env.kindOf y = some .cell) (hfy : scope.names.lookup y = some .free) (hcl : (cloFrom X.env.cells scope.names []).lookup y = some ((X.env.cells.lookup y).getD 0))
    (hs : ∀ v, genFold iter X.env v = pure v)
    (he : starEach [.GeneratorExp (.Compare (.Name x py) [.NotIn] [.Name y q3] p3) [⟨.Name x px, iter, [], 0⟩] scope gpos] X.env = (false, eval (.GeneratorExp (.Compare (.Name x py) [.NotIn] [.Name y q3] p3) [⟨.Name x px, iter, [], 0⟩] scope gpos) X.env) :: starEach [] X.env := by rfl)
    (hdx : (x == ("__debug__" : Str)) = false := by decide) (hdy : (y == ("__debug__" : Str)) = false := by decide) (hcd : (y == ("__classdict__" : Str)) = false := by decide) :
    PE X (.Call (.Name "any" p) [.GeneratorExp (.Compare (.Name x py) [.NotIn] [.Name y q3] p3) [⟨.Name x px, iter, [], 0⟩] scope gpos] [] pos) (tAnyNot X.K P i te) := by
  constructor
  intro pins s σ H Q I h
  refine wpAny_Call_Name_kw (ld_blt I hg hm boot_any (PyProof.Rows.callWith_builtin1 ?_ he (by rfl)))
  rw [he]
  show wpAny _ _ (spliced ((false, eval (.GeneratorExp _ [⟨.Name x px, iter, [], 0⟩] scope gpos) X.env) :: backTo pos (starEach [] X.env))) _ _ s
  replace h : te σ H fun v H1 => ∃ (a : Addr) (xs : List V) (d : Addr) (f : V → Option V), v = .ref a ∧ SqL X.K H1 a xs ∧ σ[i]? = some (some (.ref d)) ∧ (∀ x ∈ xs, DGet H1 d x (f x)) ∧ TabG H1 P ∧ ∀ H2, Tabbed P H1 H2 → Q (.bl (xs.any fun x => !(f x).isSome)) H2 := h
  simp only [show ∀ (xs : List V) (f : V → Option V), (xs.any fun x => !(f x).isSome) = (xs.map fun x => !(f x).isSome).any id from fun xs f => by rw [List.any_map]; rfl] at h
  refine Calls.spliced_cons (gen_listN (R := fun bs H1 => ∀ H2, Tabbed P H1 H2 → Q (.bl (bs.any id)) H2) hr TB hcode S hi hN hy hfy hcl hs I h (fun bs H1 g z answer stands => Calls.spliced_nil ?_) hdx hdy hcd)
  obtain ⟨foot, writ, gens, says, at_, ⟨first, walks⟩, truth, behind⟩ := stands
  refine call_any_walkS (walks.self 0 _ _ _ first ⟨g, foot, writ, gens, _, says, at_, _, rfl, walks, first, truth, fun z' moved => ?_⟩)
  obtain ⟨H2, J, tabbed⟩ := behind z' moved
  refine ⟨.bl _, H2, J, rfl, ?_⟩
  rw [any_range bs]
  exact answer H2 tabbed
end
end My
end

section
/-! super().__init__(e) as the first statement of an __init__ that closes over __class__. -/
namespace My
open PySem PySem.Spec PyProof.Rows L2 NdefX
/-- what of the text the class must have for super() -/
structure SupK (P : Program) (K : PySem.W.Frag) (mg : Str → Option Value) (C cc cda f2 : Addr) : Prop where
  cell : ∃ cl cld csl, K.lookup cc = some ⟨cl, cld, .cell (some (.ref C)), csl⟩
  code : ∃ ccl cdd vs ccs file tf, K.lookup cda = some ⟨ccl, cdd, .fields vs, ccs⟩ ∧ vs[2]? = some (.str file tf) ∧ ((P.main.file : Str) == file) = true
  cls : ∃ cd, PySem.W.clsIn K C = some cd
  sub : PySem.W.mroIn K C (.ref C) = some true
  sup : mg "super" = none
  opq : PySem.W.nsIn K cStatics "thirdparty.any" = some none
  meth : PySem.W.ks_superIn K C C "__init__" = some (some (.ref f2))
  fty : PySem.W.typeIn K (.ref f2) = some (.type "function")
  fin : PySem.W.fnIn K f2 = true
  top : (P.main.scope.names.lookup ("super" : Str)).isSome = false
theorem fn_super {P : Program} {w : World} {K : PySem.W.Frag} {mg : Str → Option Value} {base : Heap} {k : Nat} {f cc cda C f2 : Addr} {fd2 : FuncData} {ps2 : List Str} {sp2 sp : Sp} {N ps : List Str} {name qual : Str} {params : Arguments} {body rest : List Stmt} {scope : Scope} {kV doc pm oc ct : Value} {od an : Option Addr} {osl : Array (Option Value)}
    {p0 p1 apos pos pos' py : Pos} {y : Str} {j : Nat} {ar : Arg}
    (lk : K.lookup f = some ⟨oc, od, .func (PySem.W.ksFn name qual params body scope .none kV doc pm an (.ref cda) ct cc), osl⟩)
    (hcd : PySem.W.codeIn K (.ref cda) qual = true) (S : NScope N ps ["__class__"] scope)
    (hbd : body = .Expr (.Call (.Attribute (.Call (.Name "super" p0) [] [] p1) "__init__" apos) [.Name y py] [] pos) pos' :: rest)
    (len : ∀ vs H Q E, sp vs H Q E → vs.length = ps.length) (T : SupK P K mg C cc cda f2)
    (hline : (apos.endLine == pos.line) = true) (hp : (params.posonlyargs ++ params.args).head? = some ar) (h0 : N[0]? = some ar.arg) (hka : scope.names.lookup ar.arg = some .local) (hks : scope.names.lookup ("super" : Str) = some .globalImplicit) (hkc : scope.names.lookup ("__class__" : Str) = some .free)
    (hyN : N[j]? = some y) (hyl : scope.names.lookup y = some .local) (hyd : (y == ("__debug__" : Str)) = false) (hycd : (y == ("__classdict__" : Str)) = false)
    (F2 : FnOk P w K mg base CX0 k f2 fd2 ps2 sp2) (hb2 : Binds K fd2 ps2 [])
    (hbody : ∀ (A : Around) (outer : List Env) (s : Shared) (H : Hp) (vs : List V) (Q : VK) (E : XK), Room k (A.deeper (envF ⟨name, qual, params, body, scope, [("__class__", cc)], cda⟩ f s.heap.objs.size)) → sp vs H Q E →
      ∃ (x dx : Addr) (fs : List (Str × V)) (v : V), (startF N vs [none])[0]? = some (some (.ref x)) ∧ H x = some (.ins C dx fs) ∧ (startF N vs [none])[j]? = some (some v) ∧
        sp2 [.ref x, v] H (fun _ H1 => ∃ t, PSs (ncx CX0 P w K mg base N ⟨name, qual, params, body, scope, [("__class__", cc)], cda⟩ f A outer s H E) rest t ∧ t { nx := fun _ H' => Q .non H', rt := Q } (startF N vs [none]) H1) E0) :
    FnOk P w K mg base CX0 (k + 1) f (PySem.W.ksFn name qual params body scope .none kV doc pm an (.ref cda) ct cc) ps sp := by
  refine ⟨len, ?_⟩
  intro A outer s H args us vs Q E hr e0 hb r hsp
  have hl := len _ _ _ _ hsp
  have below : ∀ b o, base.get? b = some o → s.heap.get? b = some o := fun b o e => (e0.bs b o e).1
  have KX := e0.mod.kin.keeps below
  have lim := e0.mod.nolimit.keeps below
  obtain ⟨cl, cld, csl, hcell⟩ := T.cell
  have ndP : ∀ x ∈ ps.zip us, scope.names.lookup x.1 = some .local := fun ⟨n, v⟩ hy => S.par n (List.of_mem_zip hy).1
  refine ks_codeAny_call_defAt (body := body) hr.depth (KX _ _ lk) rfl lim (PySem.W.codeRec_of KX hcd) rfl hb S.nocell ndP (fun h₀ hns hk => ?_) S.co S.gen S.kind
  have CA : CellsAt [("__class__", cc)] ["__class__"] [none] s.heap H := by
    have hcb := e0.bs cc _ (e0.mod.kin _ _ hcell)
    have look1 : ∀ y c, ([("__class__", cc)] : List (Str × Addr)).lookup y = some c → y = "__class__" ∧ c = cc := by
      intro y c e
      rw [List.lookup_cons] at e
      split at e
      · rename_i q
        exact ⟨beq_iff_eq.mp q, (Option.some.inj e).symm⟩
      · cases e
    refine ⟨rfl, fun y c e => ?_, fun y z c e1 e2 => ?_, fun i y e => ?_⟩
    · obtain ⟨_, rfl⟩ := look1 y c e
      exact ⟨hcb.2, _, ⟨_, hcb.1, rfl⟩⟩
    · rw [(look1 y c e1).1, (look1 z c e2).1]
    · match i, e with
      | 0, e =>
        cases e
        exact ⟨cc, by simp [List.lookup], fun v hv => by cases hv⟩
  generalize hF : (⟨name, qual, params, body, scope, [("__class__", cc)], cda⟩ : NF) = F at hbody
  have hFs : F.scope = scope := by rw [← hF]
  have I0 := inv_startN (CX := CX0) (E := E) (F := F) (f := f) (tk := s.toks + (ps.zip us).length) (by rw [hFs]; exact S) hr.hd e0 hl r (by rw [← hF]; exact CA) hns hk
  subst hF
  obtain ⟨x, dx, fs, v, hx0, hHx, hvj, q2⟩ := hbody A outer s H vs Q E (hr.deeper _) hsp
  generalize hX : ncx CX0 P w K mg base N ⟨name, qual, params, body, scope, [("__class__", cc)], cda⟩ f A outer s H E = X at I0 q2
  -- the end
  have fin : ∀ (fl : Flow) (s' : Shared), SP X [] { nx := fun _ H' => Q .non H', rt := Q } fl s' → CR CX0 outer P w H s Q E (.ok (.ret (match fl with | .ret v => v | _ => .none))) s' := by
    subst hX
    intro fl s' hs
    cases fl with
    | ret u =>
      obtain ⟨v, σ', H', J, rv, q⟩ := hs
      exact ⟨v, H', J.os, J.bare, J.base, J.hok, rv, q⟩
    | next =>
      obtain ⟨σ', H', J, q⟩ := hs
      exact ⟨.non, H', J.os, J.bare, J.base, J.hok, rfl, q⟩
    | brk => exact False.elim hs.choose_spec.choose_spec.2
    | cont => exact False.elim hs.choose_spec.choose_spec.2
  show _root_.PySem.wpAt (model P w) (A.deeper (envF ⟨name, qual, params, body, scope, [("__class__", cc)], cda⟩ f s.heap.objs.size)) (.func body (envF ⟨name, qual, params, body, scope, [("__class__", cc)], cda⟩ f s.heap.objs.size)) (execs body (envF ⟨name, qual, params, body, scope, [("__class__", cc)], cda⟩ f s.heap.objs.size)) _ _ _
  generalize hs1 : ({ s with heap := h₀, toks := s.toks + (ps.zip us).length } : Shared) = s1 at I0 ⊢
  have hkeep1 : ∀ b o, s.heap.get? b = some o → s1.heap.get? b = some o := by subst hs1; exact hk
  generalize hA : A.deeper (envF ⟨name, qual, params, body, scope, [("__class__", cc)], cda⟩ f s.heap.objs.size) = A1
  generalize hE : envF ⟨name, qual, params, body, scope, [("__class__", cc)], cda⟩ f s.heap.objs.size = env
  have eA : X.A = A1 := by rw [← hX, ← hA]; rfl
  have eE : X.env = env := by rw [← hX, ← hE]; rfl
  have eP : X.prog = P := by rw [← hX]; rfl
  have eW : X.w = w := by rw [← hX]; rfl
  have eK : X.K = K := by rw [← hX]; rfl
  have eM : X.mg = mg := by rw [← hX]; rfl
  have eB : X.base = base := by rw [← hX]; rfl
  have eN : X.N = N := by rw [← hX]; rfl
  have ex : X.xe = fun e s' => wpAny (model P w) A1 (leaving env e) (fun _ s'' => CR CX0 outer P w H s Q E (.error e) s'') (fun e' s'' => CR CX0 outer P w H s Q E (.error e') s'') s' := by rw [← hX, ← hA, ← hE]; rfl
  refine ks_wpAt_mono (Q := SP X [] { nx := fun _ H' => Q .non H', rt := Q }) (E := X.xe) ?_ fin (fun e s' h => by rw [ex] at h; subst hA; subst hE; exact h)
  have hrA : Room k X.A := by rw [eA, ← hA]; exact hr.deeper _
  have eS : X.env.scope = scope := by rw [eE, ← hE]
  have eL : X.env.locals = s.heap.objs.size := by rw [eE, ← hE]
  have kS : ∀ z, env.kindOf z = scope.names.lookup z := fun z => by rw [← hE]; rfl
  rw [show execs body env = execs (Stmt.Expr (.Call (.Attribute (.Call (.Name "super" p0) [] [] p1) "__init__" apos) [.Name y py] [] pos) pos' :: rest) env by rw [hbd]]
  refine ks_wpAt_execs_cons ?_
  have hint : interactive env = false := by rw [← eE]; exact I0.quiet
  refine ks_wpAt_Expr_any ?_ hint
  have he : eval (.Call (.Attribute (.Call (.Name "super" p0) [] [] p1) "__init__" apos) [.Name y py] [] pos) env = (do
      let ov ← attributeBase (.Call (.Name "super" p0) [] [] p1) "__init__" env (eval (.Call (.Name "super" p0) [] [] p1) env)
      standAt apos.atName
      let (f, first) ← holding [ov] (getMethod ov "__init__" (L2.plainOf (.Call (.Name "super" p0) [] [] p1) env))
      callWith pos f first (backTo pos (starEach [.Name y py] env)) []) := by
    rw [arm_eval_Call]
    have e1 : ∀ ov, methodCall (.Call (.Name "super" p0) [] [] p1) "__init__" apos pos env ov ([Expr.Name y py].length + ([] : List Keyword).length) (backTo pos (starEach [.Name y py] env)) (backToKw pos (keywordEach [] env)) = _ :=
      fun ov => L2.mcall_line rfl hline
    simp only [e1]
    rfl
  refine ks_wpAt_MethodCall (pl := L2.plainOf (.Call (.Name "super" p0) [] [] p1) env) ?_ he
  obtain ⟨ccl, cdd, cvs, ccs, file, tf, hcode, hvs, hfile⟩ := T.code
  obtain ⟨cdat, hcls⟩ := T.cls
  have K1 : K.In s1.heap := by have := I0.kIn; rw [eK] at this; exact this
  refine ks_wpAt_super_base (env := env) ((kS _).trans hks) ((kS _).trans hkc) (by decide +kernel) (by rw [← hE]) (K1 _ _ lk) rfl hp (by rw [← hE]) (K1 _ _ hcode) rfl hvs hfile T.top ?_
  obtain ⟨mb, hmb1, hmb2⟩ := I0.mod.blt
  have hkind : env.scope.kind = .function := by rw [← hE]; exact S.kind
  refine PySem.W.ks_loadName_global hkind ((kS _).trans hks) (Calls.loadGlobal_builtin (mg := X.mg) (env := env) (by rw [← eE, I0.ok.glob]; exact I0.mod.glob.keeps I0.bk) (by rw [eM]; exact T.sup) (by rw [← eE, I0.ok.blt]; exact hmb1.keeps I0.bk) ((hmb2 _ (by decide)).trans (by decide +kernel)) ⟨rfl, ?_⟩)
  refine wpAny_loadName_free (c := cc) (v := .ref C) hkind ((kS _).trans hkc) (by rw [← hE]; simp [List.lookup]) ⟨_, K1 _ _ hcell, rfl⟩ ?_
  obtain ⟨m, hns1, hlk⟩ := id I0.loc
  obtain ⟨ux, rx, lx⟩ := hlk 0 ar.arg (.ref x) (by rw [eN]; exact h0) hx0 (.inl (by rw [eS]; exact hka))
  cases rx
  have hmx : m ar.arg = some (.ref x) := by
    rcases lx with ⟨_, q⟩ | ⟨q, _⟩
    · exact q
    · have q2 : scope.names.lookup ar.arg = some .cell ∨ scope.names.lookup ar.arg = some .free := by rw [← eS]; exact q
      rw [hka] at q2
      rcases q2 with z | z <;> cases z
  refine wpAny_loadName_local (m := m) hkind ((kS _).trans hka) (by rw [← eE]; exact hns1) hmx ?_
  obtain ⟨oD, hD1, hD2⟩ : ∃ oD, s1.heap.get? C = some oD ∧ oD.data = .cls cdat := by
    unfold PySem.W.clsIn at hcls
    split at hcls
    · rename_i c d cd' sl ho
      cases hcls
      exact ⟨_, K1 _ _ ho, rfl⟩
    · cases hcls
  obtain ⟨mA, OM, hfs, hwi, hfl, hdx⟩ := ins_get I0.hok hHx
  obtain ⟨od1, IA, _⟩ := OM.look
  have hxC : x ≠ C := PySem.W.ks_ne K1 IA hcls
  obtain ⟨hh1, g1, d1, t1, os1⟩ := s1
  refine ks_wpAny_isType_cls hD1 hD2 ⟨rfl, ?_⟩
  refine ks_wpAny_call_super hD1 hD2 OM.obj rfl (fun c e => by cases e) (PySem.W.looks_mroIn K1 T.sub) (fun h2 e2 k2 => ?_)
  -- the method
  obtain ⟨of2, hof2, hof2c⟩ : ∃ of2, h2.get? f2 = some of2 ∧ of2.cls = .type "function" := by
    have ht' : (K.lookup f2).map (·.cls) = some (.type "function") := T.fty
    cases z : K.lookup f2 with
    | none => rw [z] at ht'; cases ht'
    | some of => rw [z] at ht'; exact ⟨of, k2 _ _ (K1 _ _ z), Option.some.inj ht'⟩
  have K2 : K.In h2 := fun b o e => k2 _ _ (K1 b o e)
  have hm2 := T.meth
  unfold PySem.W.ks_superIn at hm2
  rw [hcls] at hm2
  refine ks_wpAny_getMethod_super e2 (PySem.W.looks_opaque K2 T.opq) (l₀ := cdat.mro) (fun A Q E s k q => wpAny_bind ((PySem.W.looks_clsIn K2 hcls) A _ E s k (wpAny_pure q))) rfl K2 hm2 hof2 hof2c hxC (by decide +kernel) ?_
  generalize hh3 : h2.push { cls := .type "method", data := .fields #[.ref f2, .ref x] } = h3
  have e3 : h3.get? h2.objs.size = some { cls := .type "method", dict := none, data := .fields #[.ref f2, .ref x], slots := #[] } := by rw [← hh3]; exact Heap.get?_push_at rfl rfl
  have k3 : ∀ b o, hh1.get? b = some o → h3.get? b = some o := fun b o e => by rw [← hh3]; exact Heap.get?_push_of_some _ (k2 b o e)
  have I3 : L2.Inv X [] (startF N vs [none]) H { heap := h3, gens := g1, drawn := d1, toks := t1 + 1, os := os1 } := I0.kept (t' := t1 + 1) k3
  have q3 : ∀ b o, h2.get? b = some o → h3.get? b = some o := fun b o e => by rw [← hh3]; exact Heap.get?_push_of_some _ e
  have hst : starEach [Expr.Name y py] env = (false, eval (.Name y py) env) :: starEach [] env := rfl
  rw [hst]
  refine PySem.W.callWith_of (P := PySem.W.MethP K h2.objs.size f2 (.ref x)) rfl (PySem.W.keeps_M T.fin) (Calls.evalArgs_plain ?_)
  obtain ⟨uy, ry, ly⟩ := hlk j y v (by rw [eN]; exact hyN) hvj (.inl (by rw [eS]; exact hyl))
  have hmy : m y = some uy := by
    rcases ly with ⟨_, q⟩ | ⟨q, _⟩
    · exact q
    · have q2 : scope.names.lookup y = some .cell ∨ scope.names.lookup y = some .free := by rw [← eS]; exact q
      rw [hyl] at q2
      rcases q2 with z | z <;> cases z
  have K3 : K.In h3 := fun b o e => k3 _ _ (K1 b o e)
  refine Calls.spliced_cons (wpAny_Name (wpAny_loadName_local (m := m) hkind ((kS _).trans hyl) (by rw [← eE]; exact hns1.keeps k3) hmy ?_) hyd)
  refine Calls.spliced_nil ⟨⟨e3, K3⟩, ?_⟩
  have hl2 : ([Value.ref x, uy] : List Value).length = ps2.length := by rw [← F2.len _ _ _ _ q2]; rfl
  refine wpAny_call (ks_codeAny_call_bound e3 (codeAny_mono (F2.run A1 X.stack { heap := h3, gens := g1, drawn := d1, toks := t1 + 1, os := os1 } H ⟨[.ref x, uy], []⟩ [.ref x, uy] [.ref x, v] _ E0 (by rw [← eA]; exact hrA) ?_ ?_ (.cons rfl (.cons ry .nil)) q2) fun r s' hr' => ?_))
  · have z := I3.env0
    rw [eP, eW, eK, eM, eB, eA] at z
    exact z
  · have z := hb2 { heap := h3, gens := g1, drawn := d1, toks := t1 + 1, os := os1 } [.ref x, uy] K3 (by rw [List.append_nil]; exact hl2)
    rw [List.append_nil] at z
    exact z
  cases r with
  | error e => exact False.elim hr'
  | ok fl =>
    cases fl with
    | next => exact False.elim hr'
    | brk => exact False.elim hr'
    | cont => exact False.elim hr'
    | ret u =>
      have z := I3.after (Q := fun _ H1 => ∃ t, PSs X rest t ∧ t { nx := fun _ H' => Q .non H', rt := Q } (startF N vs [none]) H1) (u := u) (s' := s') (by rw [eP, eW]; exact hr')
      obtain ⟨v', H5, I5, _, t5, hp5, ht5⟩ := z
      have z := hp5.run [] s' (startF N vs [none]) H5 _ I5 ht5
      rw [eP, eW, eA, eE] at z
      exact wpAt_of_wpAny z
end My
end

section
/-! Two kinds of dicts told alike; readers in the heap. -/
namespace My
open PySem PySem.Spec PyProof.Rows L2
/-! ### {k: v}, k an int -/
theorem pe_dispK {X : Cx} {pos : Pos} {k v : Expr} {tk tv : TE} (hk : PE X k tk) (hv : PE X v tv) : PE X (.Dict [some k] [v] pos) (fun σ H Q => ∀ p, H p = none → tk σ (upd H p (.dK [])) fun x H1 => tv σ H1 fun y H2 =>
    H2 p = some (.dK []) ∧ ∃ n : Key, x = kV n ∧ Q (.ref p) (upd H2 p (.dK [(n, y)]))) := by
  refine ⟨fun pins s σ H Q I q => ?_⟩
  have new := I.hok.fresh (Nat.le_refl s.heap.objs.size)
  have laid1 := I.laid (a := s.heap.objs.size) (o := .dK []) (h' := s.heap.push { cls := .type "dict", data := .dict #[] }) (t' := s.toks) (fun _ _ q => Heap.get?_push_of_some _ q) (Nat.le_refl _) (dk_empty s.heap I.big)
  have hp : PPs X pos [some k] [v] [(tk, tv)] := pps_cons hk hv pps_nil
  refine wpAny_Dict_walk (knd := mixKind X.prog X.w) rfl rfl (by simp) (by simp) (thn (hp.run pins _ σ _ (fun ps H2 => match ps with
      | [(x, y)] => H2 s.heap.objs.size = some (.dK []) ∧ ∃ n : Key, x = kV n ∧ Q (.ref s.heap.objs.size) (upd H2 s.heap.objs.size (.dK [(n, y)]))
      | _ => False) laid1 (q _ new)) fun ws s2 h2 => ?_)
  obtain ⟨ps, H2, I2, rel, q1⟩ := h2
  match ps, rel, q1 with
  | [(x, y)], .cons (b := (w1, w2)) r .nil, q1 =>
    obtain ⟨e, n, ep, q2⟩ := q1
    obtain ⟨r1, r2⟩ := r
    subst ep
    obtain ⟨z, hd, vs0, r0, dd⟩ := dk_of I2.hok e
    cases r0
    refine ⟨[(n, w2)], ⟨kV_is r1, rfl, True.intro⟩, dd, fun h' dd' hs => ⟨.ref s.heap.objs.size, _, ?_, rfl, q2⟩⟩
    have stands : ∃ q, h'.get? s.heap.objs.size = some q := let ⟨q, _, _, hq, _⟩ := dd'; ⟨q, hq⟩
    exact d_write I2 (by rw [e]; exact True.intro) hs stands (dk_new (by rw [sizeLine_eq]; show 1 ≤ 16777216; decide) hd (.cons ⟨rfl, r2⟩ .nil) dd')

/-- what the two kinds of dicts give -/
structure Kind (α : Type) [DecidableEq α] where
  ho : List (α × V) → HO
  rep : Hp → α → V → Prop
  tups : ∀ {H H' : Hp} {x : α} {v : V}, Tups H H' → rep H x v → rep H' x v
  inj : ∀ {H : Hp} {x y : α} {v : V}, rep H x v → rep H y v → x = y
  nt : ∀ kvs xs, ho kvs ≠ .tup xs
  nl : ∀ kvs xs, ho kvs ≠ .lst xs
  get : ∀ {H : Hp} {d : Addr} {kvs : List (α × V)} {x : α} {v : V}, H d = some (ho kvs) → rep H x v → DGet H d v (valV kvs x)
  put : ∀ {H : Hp} {d : Addr} {kvs : List (α × V)} {x : α} {v y : V}, H d = some (ho kvs) → rep H x v → kvs.length < sizeLine → valV kvs x = none → DPut H d v y (upd H d (ho (kvs ++ [(x, y)])))
  mtb : ∀ kvs, Mut (some (ho kvs))
  new : ∀ {X : Cx} {pos : Pos}, PE X (.Dict [] [] pos) (fun σ H Q => ∀ p, H p = none → Q (.ref p) (upd H p (ho [])))
  disp : ∀ {X : Cx} {pos : Pos} {k v : Expr} {tk tv : TE}, X.A.units + 64 < cLine → PE X k tk → PE X v tv → PE X (.Dict [some k] [v] pos) (fun σ H Q => ∀ p, H p = none → tk σ (upd H p (ho [])) fun x H1 => tv σ H1 fun y H2 =>
    H2 p = some (ho []) ∧ ∃ a, rep H2 a x ∧ Q (.ref p) (upd H2 p (ho [(a, y)])))
  list : ∀ {X : Cx}, X.calm = true → CallR X (.type "list") (fun xs H Q => ∃ d kvs, xs = [.ref d] ∧ H d = some (ho kvs) ∧ ∀ q vs, H q = none → Paired (rep H) (kvs.map (·.1)) vs → Q (.ref q) (upd H q (.lst vs)))
  len : ∀ {X : Cx}, CallR X (.builtin "len") (fun xs H Q => ∃ d kvs, xs = [.ref d] ∧ H d = some (ho kvs) ∧ Q (.int ((kvs.length : Nat) : Int)) H)
def keyI (n : Nat) : Key := Sum.inl (n : Int)
theorem keyI_inj : ∀ a b, keyI a = keyI b → a = b := fun a b h => by
  have := Sum.inl.inj h
  omega
def keyP (p : Nat × Nat) : List Key := [keyI p.1, keyI p.2]
theorem keyP_inj : ∀ a b, keyP a = keyP b → a = b := fun a b h => by
  obtain ⟨a1, a2⟩ := a
  obtain ⟨b1, b2⟩ := b
  simp only [keyP, List.cons.injEq, and_true] at h
  rw [keyI_inj _ _ h.1, keyI_inj _ _ h.2]
theorem isKeys_pairs {H : Hp} : ∀ {kvs : List ((Nat × Nat) × V)} {bs : List Addr}, IsKeys H (kvs.map fun p => (keyP p.1, p.2)) bs → Paired (fun (x : Nat × Nat) v => ∃ b, v = .ref b ∧ H b = some (.tup [iv x.1, iv x.2])) (kvs.map (·.1)) (bs.map V.ref)
  | [], [], _ => .nil
  | [], _ :: _, h => by cases h
  | _ :: _, [], h => by cases h
  | p :: kvs, b :: bs, h => by
    unfold IsKeys at h
    rw [List.map_cons] at h
    cases h with
    | cons r t =>
      rw [List.map_cons, List.map_cons]
      exact .cons ⟨b, rfl, r⟩ (isKeys_pairs t)
def kInt : Kind Nat where
  ho := fun kvs => .dK (kvs.map fun p => (keyI p.1, p.2))
  rep := fun _ x v => v = iv x
  tups := fun _ h => h
  inj := fun {H x y v} h g => by
    have e : iv x = iv y := h.symm.trans g
    injection e with e
    omega
  nt := fun _ _ z => nomatch z
  nl := fun _ _ z => nomatch z
  get := fun {H d kvs x v} h e => by
    subst e
    have := DGet.k (k := keyI x) h
    rw [valV_inj keyI_inj] at this
    exact this
  put := fun {H d kvs x v y} h e hl hn => by
    subst e
    have := DPut.k (k := keyI x) (v := y) h (by rw [List.length_map]; exact hl)
    rw [putK_inj keyI_inj _ _ _ hn, putK_new _ hn] at this
    exact this
  mtb := fun _ => True.intro
  new := pe_dnewK
  disp := fun {X pos k v tk tv} _ hk hv => ⟨fun pins s σ H Q I q => by
    -- the same, with the key told as a number
    have new := I.hok.fresh (Nat.le_refl s.heap.objs.size)
    have laid1 := I.laid (a := s.heap.objs.size) (o := .dK []) (h' := s.heap.push { cls := .type "dict", data := .dict #[] }) (t' := s.toks) (fun _ _ q => Heap.get?_push_of_some _ q) (Nat.le_refl _) (dk_empty s.heap I.big)
    have hp : PPs X pos [some k] [v] [(tk, tv)] := pps_cons hk hv pps_nil
    refine wpAny_Dict_walk (knd := mixKind X.prog X.w) rfl rfl (by simp) (by simp) (thn (hp.run pins _ σ _ (fun ps H2 => match ps with
        | [(x, y)] => H2 s.heap.objs.size = some (.dK (([] : List (Nat × V)).map fun p => (keyI p.1, p.2))) ∧ ∃ n : Nat, x = iv n ∧ Q (.ref s.heap.objs.size) (upd H2 s.heap.objs.size (.dK ([(n, y)].map fun p => (keyI p.1, p.2))))
        | _ => False) laid1 (q _ new)) fun ws s2 h2 => ?_)
    obtain ⟨ps, H2, I2, rel, q1⟩ := h2
    match ps, rel, q1 with
    | [(x, y)], .cons (b := (w1, w2)) r .nil, q1 =>
      obtain ⟨e, n, ep, q2⟩ := q1
      obtain ⟨r1, r2⟩ := r
      subst ep
      obtain ⟨z, hd, vs0, r0, dd⟩ := dk_of I2.hok e
      cases r0
      refine ⟨[(keyI n, w2)], ⟨kV_is (k := keyI n) r1, rfl, True.intro⟩, dd, fun h' dd' hs => ⟨.ref s.heap.objs.size, _, ?_, rfl, q2⟩⟩
      have stands : ∃ q, h'.get? s.heap.objs.size = some q := let ⟨q, _, _, hq, _⟩ := dd'; ⟨q, hq⟩
      exact d_write I2 (by rw [e]; exact True.intro) hs stands (dk_new (by rw [sizeLine_eq]; show 1 ≤ 16777216; decide) hd (.cons ⟨rfl, r2⟩ .nil) dd')⟩
  list := fun {X} hc pins s σ H xs us Q I r h => by
    obtain ⟨d, kvs, e, hd, q⟩ := h
    refine call_list_dK hc pins s σ H xs us Q I r ⟨d, _, e, hd, fun p hp => ?_⟩
    refine q p _ hp ?_
    rw [List.map_map]
    have : ∀ l : List (Nat × V), Paired (fun (x : Nat) v => v = iv x) (l.map (·.1)) (l.map ((fun kv : Key × V => kV kv.1) ∘ fun p : Nat × V => (keyI p.1, p.2))) := by
      intro l
      induction l with
      | nil => exact .nil
      | cons a l ih => exact .cons rfl ih
    exact this kvs
  len := fun {X} pins s σ H xs us Q I r h => by
    obtain ⟨d, kvs, e, hd, q⟩ := h
    exact call_lenD pins s σ H xs us Q I r ⟨d, _, e, hd, by rw [List.length_map]; exact q⟩
def kPair : Kind (Nat × Nat) where
  ho := fun kvs => .dT (kvs.map fun p => (keyP p.1, p.2))
  rep := fun H x v => ∃ b, v = .ref b ∧ H b = some (.tup [iv x.1, iv x.2])
  tups := fun t ⟨b, e, h⟩ => ⟨b, e, t _ _ h⟩
  inj := fun {H x y v} h g => by
    obtain ⟨b, rfl, h1⟩ := h
    obtain ⟨b', e, g1⟩ := g
    injection e with e
    subst e
    rw [h1] at g1
    injection g1 with g1
    injection g1 with g1
    simp only [List.cons.injEq, V.int.injEq, and_true] at g1
    exact Prod.ext (by omega) (by omega)
  nt := fun _ _ z => nomatch z
  nl := fun _ _ z => nomatch z
  get := fun {H d kvs x v} h e => by
    obtain ⟨b, rfl, hb⟩ := e
    have := DGet.t (k := keyP x) h (b := b) hb
    rw [valV_inj keyP_inj] at this
    exact this
  put := fun {H d kvs x v y} h e hl hn => by
    obtain ⟨b, rfl, hb⟩ := e
    have := DPut.t (k := keyP x) (v := y) h (b := b) hb (by rw [List.length_map]; exact hl)
    rw [putK_inj keyP_inj _ _ _ hn, putK_new _ hn] at this
    exact this
  mtb := fun _ => True.intro
  new := pe_dnewT
  disp := fun {X pos k v tk tv} hu hk hv => ⟨fun pins s σ H Q I q => by
    have new := I.hok.fresh (Nat.le_refl s.heap.objs.size)
    have laid1 := I.laid (a := s.heap.objs.size) (o := .dT []) (h' := s.heap.push { cls := .type "dict", data := .dict #[] }) (t' := s.toks) (fun _ _ q => Heap.get?_push_of_some _ q) (Nat.le_refl _) (dt_empty s.heap I.big)
    rw [arm_eval_Dict, zip_pairTrees [some k] [v] X.env pos rfl rfl, dictDisplay_pairs (pairTrees [some k] [v] X.env pos) (by simp [pairTrees]) (by simp [pairTrees])]
    have hp : PPs X pos [some k] [v] [(tk, tv)] := pps_cons hk hv pps_nil
    refine wpAny_bind (wpAny_standAt (wpAny_bind (wpAny_subDictH (knd := tupleKind (mixKind X.prog X.w)) (Q := fun d s' => wpAny (model X.prog X.w) X.A (pure (Value.ref d)) (EP X pins σ Q) X.xe s') (show X.A.units < cLine by omega) (by simp [pairTrees])
      (thn (hp.run pins _ σ _ (fun ps H2 => match ps with
        | [(x, y)] => H2 s.heap.objs.size = some (.dT (([] : List ((Nat × Nat) × V)).map fun p => (keyP p.1, p.2))) ∧ ∃ a : Nat × Nat, (∃ b, x = .ref b ∧ H2 b = some (.tup [iv a.1, iv a.2])) ∧ Q (.ref s.heap.objs.size) (upd H2 s.heap.objs.size (.dT ([(a, y)].map fun p => (keyP p.1, p.2))))
        | _ => False) laid1 (q _ new)) fun ws s2 h2 => ?_))))
    obtain ⟨ps, H2, I2, rel, q1⟩ := h2
    match ps, rel, q1 with
    | [(x, y)], .cons (b := (w1, w2)) r .nil, q1 =>
      obtain ⟨e, a, ⟨b, ep, hb⟩, q2⟩ := q1
      obtain ⟨r1, r2⟩ := r
      subst ep
      cases (show w1 = Value.ref b from r1)
      obtain ⟨z, hd, ys, ry, dd⟩ := dt_of I2.hok e
      cases ry
      refine ⟨[(keyP a, b, w2)], ⟨rfl, rfl, key_of (ks := keyP a) I2.hok hb, True.intro⟩, dd, fun h' tk dd' hs => wpAny_pure ⟨.ref s.heap.objs.size, _, ?_, rfl, q2⟩⟩
      obtain ⟨o, es, ep', h1, h2, h3, h4, _, h5⟩ := dd'
      refine d_write I2 (by rw [e]; exact True.intro) hs ⟨o, h1⟩ ⟨by rw [sizeLine_eq]; show 1 ≤ 16777216; decide, hd, [(keyP a, b, w2)], .cons ⟨rfl, ?_, r2⟩ .nil, o, es, ep', h1, h2, h3, h4, h5⟩
      show upd H2 s.heap.objs.size _ b = _
      rw [upd_ne (ne_of hb e (fun z => nomatch z))]
      exact hb⟩
  list := fun {X} hc pins s σ H xs us Q I r h => by
    obtain ⟨d, kvs, e, hd, q⟩ := h
    exact call_list_dT hc pins s σ H xs us Q I r ⟨d, _, e, .inl hd, fun p bs hp hk => q p _ hp (isKeys_pairs hk)⟩
  len := fun {X} pins s σ H xs us Q I r h => by
    obtain ⟨d, kvs, e, hd, q⟩ := h
    exact call_len_dT pins s σ H xs us Q I r ⟨d, _, e, hd, by rw [List.length_map]; exact q⟩
end My
end

section
/-! The text by places; readers in the heap; frames. -/
namespace My
open PySem PySem.Spec PyProof.Rows L2
abbrev pw : Program := PySem.Challenge.pw_twoways_k12_whole_readers_of_the_same_wo
def top (i : Nat) : Stmt := pw.main.body.getD i (.Pass ⟨0, 0, 0, 0⟩)
abbrev sTInit : Stmt := inClass (top 5) 0
abbrev sTEmpty : Stmt := inClass (top 5) 1
abbrev sTLetter : Stmt := inClass (top 5) 2
abbrev sTJoin : Stmt := inClass (top 5) 3
abbrev sTAcc : Stmt := inClass (top 5) 4
abbrev sPInit : Stmt := inClass (top 6) 0
abbrev sPEmpty : Stmt := inClass (top 6) 1
abbrev sPLetter : Stmt := inClass (top 6) 2
abbrev sPJoin : Stmt := inClass (top 6) 3
abbrev sPAcc : Stmt := inClass (top 6) 4
abbrev sCollect : Stmt := top 7
abbrev sTabled : Stmt := top 8
abbrev sMade : Stmt := top 9
abbrev sNumbered : Stmt := top 10
abbrev sJoint : Stmt := top 11
abbrev sSplit : Stmt := top 12
abbrev sLeaders : Stmt := top 13
abbrev sLInit : Stmt := inClass (top 14) 0
abbrev sLEmpty : Stmt := inClass (top 14) 1
abbrev sLLetter : Stmt := inClass (top 14) 2
abbrev sLJoin : Stmt := inClass (top 14) 3
abbrev sLeast : Stmt := top 15
abbrev sSameWords : Stmt := top 16
abbrev sDraw : Stmt := top 18
abbrev sFunctions : Stmt := top 19
abbrev sProduct : Stmt := top 20
abbrev sTable : Stmt := top 21
abbrev sMixed : Stmt := top 22
abbrev sReader : Stmt := top 23
abbrev sWorth : Stmt := top 24
abbrev sTakes : Stmt := top 25
abbrev sList : Stmt := top 26
abbrev sByNumber : Stmt := top 27
abbrev sLead : Stmt := top 28
abbrev sSmallest : Stmt := top 29
abbrev sWords : Stmt := top 30
abbrev sLaw : Stmt := top 31

/-! ### frames -/
theorem same_upd {H : Hp} {p : Addr} {o : HO} (h : H p = none) : Same H (upd H p o) := fun b x e => by
  rw [upd_ne (ne_of_none e h)]
  exact e
theorem _root_.L2.Same.upd0 {H0 H : Hp} {p : Addr} {o : HO} (s : Same H0 H) (h : H0 p = none) : Same H0 (upd H p o) := fun b x e => by
  rw [upd_ne (ne_of_none e h)]
  exact s b x e
/-- all but x is kept -/
def Upto (x : Addr) (H H' : Hp) : Prop := ∀ b o, b ≠ x → H b = some o → H' b = some o
theorem Upto.refl (x : Addr) (H : Hp) : Upto x H H := fun _ _ _ h => h
theorem Upto.trans {x : Addr} {H H1 H2 : Hp} (a : Upto x H H1) (b : Upto x H1 H2) : Upto x H H2 := fun c o n h => b c o n (a c o n h)
theorem _root_.L2.Same.upto {H H' : Hp} (s : Same H H') (x : Addr) : Upto x H H' := fun b o _ h => s b o h
theorem Upto.upd0 {x : Addr} {H0 H : Hp} {p : Addr} {o : HO} (s : Upto x H0 H) (h : H0 p = none) : Upto x H0 (upd H p o) := fun b u n e => by
  rw [upd_ne (ne_of_none e h)]
  exact s b u n e
theorem Upto.updx {x : Addr} {H0 H : Hp} {o : HO} (s : Upto x H0 H) : Upto x H0 (upd H x o) := fun b u n e => by
  rw [upd_ne n]
  exact s b u n e
theorem Upto.free {x : Addr} {H H' : Hp} (e : Upto x H H') {l : Addr} (hx : H' x ≠ none) (h : H' l = none) : H l = none := by
  cases q : H l with
  | none => rfl
  | some o =>
    by_cases hl : l = x
    · rw [hl] at h; exact absurd h hx
    · rw [e l o hl q] at h; cases h
theorem Upto.tups {x : Addr} {H H' : Hp} (s : Upto x H H') (h : ∀ xs, H x ≠ some (.tup xs)) : Tups H H' := fun b xs e => s b _ (fun z => by rw [z] at e; exact h xs e) e
theorem tups_upd {H : Hp} {p : Addr} {o : HO} (h : ∀ xs, H p ≠ some (.tup xs)) : Tups H (upd H p o) := fun b xs e => by
  rw [upd_ne (fun z => by rw [z] at e; exact h xs e)]
  exact e
/-! ### readers -/
def ivs (l : List Nat) : List V := l.map iv
theorem ivs_get {l : List Nat} {i : Nat} (h : i < l.length) : (ivs l)[i]? = some (iv (l.getD i 0)) := by
  unfold ivs
  rw [List.getElem?_map, List.getElem?_eq_getElem h, getD_lt _ h]; rfl
theorem ivs_len (l : List Nat) : (ivs l).length = l.length := List.length_map ..
def Rows (H : Hp) (rows : List (List Nat)) (vs : List V) : Prop := Paired (fun r v => ∃ a, v = V.ref a ∧ H a = some (.tup (ivs r))) rows vs
def RdAt (H : Hp) (p : Addr) (R : Rdr) : Prop :=
  ∃ l m a ms, H p = some (.tup [iv R.e, .ref l, .ref m, .ref a]) ∧ H l = some (.tup (ivs R.l)) ∧ H m = some (.tup ms) ∧ Rows H R.m ms ∧ H a = some (.tup (ivs R.a))
theorem Rows.tups {H H' : Hp} {rows : List (List Nat)} {vs : List V} (t : Tups H H') (h : Rows H rows vs) : Rows H' rows vs :=
  Paired.mapP h fun _ _ ⟨a, e, q⟩ => ⟨a, e, t _ _ q⟩
theorem RdAt.tups {H H' : Hp} {p : Addr} {R : Rdr} (t : Tups H H') (h : RdAt H p R) : RdAt H' p R := by
  obtain ⟨l, m, a, ms, h1, h2, h3, h4, h5⟩ := h
  exact ⟨l, m, a, ms, t _ _ h1, t _ _ h2, t _ _ h3, h4.tups t, t _ _ h5⟩
theorem Rows.get {H : Hp} {rows : List (List Nat)} {vs : List V} (h : Rows H rows vs) {i : Nat} (hi : i < rows.length) : ∃ a, vs[i]? = some (.ref a) ∧ H a = some (.tup (ivs (rows.getD i []))) := by
  obtain ⟨v, hv, a, e, q⟩ := paired_get h (List.getElem?_eq_getElem hi)
  exact ⟨a, by rw [hv, e], by rw [q, getD_lt _ hi]⟩
theorem Rows.len {H : Hp} {rows : List (List Nat)} {vs : List V} (h : Rows H rows vs) : rows.length = vs.length := Paired.length h
end My
end

section
/-! Table. -/
namespace My
open PySem PySem.Spec PyProof.Rows L2
theorem inV_ivs (x : Nat) : ∀ l : List Nat, inV (iv x) (ivs l) = decide (x ∈ l)
  | [] => rfl
  | y :: l => by
    have ih := inV_ivs x l
    unfold inV ivs at ih ⊢
    rw [List.map_cons, List.any_cons, ih]
    have e : eqV (iv y) (iv x) = decide (x = y) := by
      show ((y : Int) == (x : Int)) = _
      by_cases h : x = y
      · subst h; simp
      · rw [decide_eq_false h]
        exact beq_eq_false_iff_ne.mpr (by omega)
    rw [e]
    by_cases h : x = y <;> simp [h]
theorem flat_ivs (l : List Nat) : (ivs l).all flatV = true := by
  rw [List.all_eq_true]
  intro v hv
  obtain ⟨n, _, rfl⟩ := List.mem_map.mp hv
  rfl
section
variable {P : Program} {w : World} {K : PySem.W.Frag} {mg : Str → Option Value} {base : Heap}
/-- at t stands an instance of C whose attribute reader is the reader R -/
structure HasR (K : PySem.W.Frag) (H : Hp) (t : Addr) (R : Rdr) : Prop where
  ex : ∃ C dx fs r, H t = some (.ins C dx fs) ∧ Cls K C ∧ NoAttr K C "reader" ∧ fs.lookup ("reader" : Str) = some (.ref r) ∧ RdAt H r R
def spTInit (K : PySem.W.Frag) : Sp := fun vs H Q _ => ∃ p v C dx, vs = [.ref p, v] ∧ H p = some (.ins C dx []) ∧ Cls K C ∧ NoAttr K C "reader" ∧ Q .non (upd H p (.ins C dx [("reader", v)]))
def spTEmpty (K : PySem.W.Frag) : Sp := fun vs H Q _ => ∃ t R, vs = [.ref t] ∧ HasR K H t R ∧ Q (iv R.e) H
def spTLetter (K : PySem.W.Frag) : Sp := fun vs H Q _ => ∃ t R a, vs = [.ref t, iv a] ∧ HasR K H t R ∧ a < R.l.length ∧ Q (iv (R.tab.l a)) H
def spTJoin (K : PySem.W.Frag) : Sp := fun vs H Q _ => ∃ n t R x y, vs = [.ref t, iv x, iv y] ∧ HasR K H t R ∧ Shape n R ∧ x < R.m.length ∧ y < R.m.length ∧ Q (iv (R.tab.j x y)) H
def spTAcc (K : PySem.W.Frag) : Sp := fun vs H Q _ => ∃ t R x, vs = [.ref t, iv x] ∧ HasR K H t R ∧ Q (.bl (R.tab.acc x)) H
theorem scTInit : FnScope ["self", "reader"] ["self", "reader"] (defScope sTInit) := ⟨rfl, rfl, rfl, by decide +kernel, rfl, by decide +kernel, by decide +kernel⟩
theorem scTEmpty : FnScope ["self"] ["self"] (defScope sTEmpty) := ⟨rfl, rfl, rfl, by decide +kernel, rfl, by decide +kernel, by decide +kernel⟩
theorem scTLetter : FnScope ["self", "a"] ["self", "a"] (defScope sTLetter) := ⟨rfl, rfl, rfl, by decide +kernel, rfl, by decide +kernel, by decide +kernel⟩
theorem scTJoin : FnScope ["self", "x", "y"] ["self", "x", "y"] (defScope sTJoin) := ⟨rfl, rfl, rfl, by decide +kernel, rfl, by decide +kernel, by decide +kernel⟩
theorem scTAcc : FnScope ["self", "x"] ["self", "x"] (defScope sTAcc) := ⟨rfl, rfl, rfl, by decide +kernel, rfl, by decide +kernel, by decide +kernel⟩
theorem ok_tinit {f : Addr} {fd : FuncData} (F : Fun K "__init__" "Table.__init__" sTInit f fd) : FnOk P w K mg base CX0 1 f fd ["self", "reader"] (spTInit K) := by
  refine F.ok scTInit (fun vs H Q E h => ?_) (fun cdv A outer s H vs Q E hr h => ?_)
  · obtain ⟨p, v, C, dx, rfl, _⟩ := h; rfl
  · obtain ⟨p, v, C, dx, rfl, hp, cl, na, k⟩ := h
    refine ⟨_, pss_one (ps_fld (pv 0) (pv 1) rfl), ?_⟩
    exact ⟨_, rfl, _, rfl, p, C, dx, [], rfl, hp, cl, na, (by show 0 < 1000; decide), k⟩
theorem ok_tempty {f : Addr} {fd : FuncData} (F : Fun K "empty" "Table.empty" sTEmpty f fd) : FnOk P w K mg base CX0 1 f fd ["self"] (spTEmpty K) := by
  refine F.ok scTEmpty (fun vs H Q E h => ?_) (fun cdv A outer s H vs Q E hr h => ?_)
  · obtain ⟨t, R, rfl, _⟩ := h; rfl
  · obtain ⟨t, R, rfl, ⟨C, dx, fs, r, ht, cl, na, hl, l, m, a, ms, h1, h2, h3, h4, h5⟩, k⟩ := h
    refine ⟨_, pss_one (ps_ret (pe_ix ix_tup (pe_fld (pv 0) rfl) pe_int (fun _ _ => rfl))), ?_⟩
    exact ⟨_, rfl, t, C, dx, fs, _, rfl, ht, cl, na, hl, r, _, 0, _, rfl, rfl, SqT.of h1, atI_nat (j := 0) rfl, k⟩
theorem ok_tletter {f : Addr} {fd : FuncData} (F : Fun K "letter" "Table.letter" sTLetter f fd) : FnOk P w K mg base CX0 1 f fd ["self", "a"] (spTLetter K) := by
  refine F.ok scTLetter (fun vs H Q E h => ?_) (fun cdv A outer s H vs Q E hr h => ?_)
  · obtain ⟨t, R, x, rfl, _⟩ := h; rfl
  · obtain ⟨t, R, x, rfl, ⟨C, dx, fs, r, ht, cl, na, hl, l, m, a, ms, h1, h2, h3, h4, h5⟩, hx, k⟩ := h
    refine ⟨_, pss_one (ps_ret (pe_ix ix_tup (pe_ix ix_tup (pe_fld (pv 0) rfl) pe_int (fun _ _ => rfl)) (pv 1) (fun _ _ => rfl))), ?_⟩
    exact ⟨_, rfl, t, C, dx, fs, _, rfl, ht, cl, na, hl, r, _, 1, _, rfl, rfl, SqT.of h1, atI_nat (j := 1) rfl, _, rfl, l, _, (x : Int), _, rfl, rfl, SqT.of h2, atI_nat (ivs_get hx), k⟩
theorem ok_tjoin {f : Addr} {fd : FuncData} (F : Fun K "join" "Table.join" sTJoin f fd) : FnOk P w K mg base CX0 1 f fd ["self", "x", "y"] (spTJoin K) := by
  refine F.ok scTJoin (fun vs H Q E h => ?_) (fun cdv A outer s H vs Q E hr h => ?_)
  · obtain ⟨n, t, R, x, y, rfl, _⟩ := h; rfl
  · obtain ⟨n, t, R, x, y, rfl, ⟨C, dx, fs, r, ht, cl, na, hl, l, m, a, ms, h1, h2, h3, h4, h5⟩, S, hx, hy, k⟩ := h
    obtain ⟨b, hb1, hb2⟩ := h4.get hx
    have hyl : y < (R.m.getD x []).length := by
      rw [getD_lt _ hx, S.row _ (List.getElem_mem hx)]; exact hy
    refine ⟨_, pss_one (ps_ret (pe_ix ix_tup (pe_ix ix_tup (pe_ix ix_tup (pe_fld (pv 0) rfl) pe_int (fun _ _ => rfl)) (pv 1) (fun _ _ => rfl)) (pv 2) (fun _ _ => rfl))), ?_⟩
    exact ⟨_, rfl, t, C, dx, fs, _, rfl, ht, cl, na, hl, r, _, 2, _, rfl, rfl, SqT.of h1, atI_nat (j := 2) rfl, _, rfl, m, _, (x : Int), _, rfl, rfl, SqT.of h3, atI_nat hb1, _, rfl, b, _, (y : Int), _, rfl, rfl, SqT.of hb2, atI_nat (ivs_get hyl), k⟩
theorem ok_tacc {f : Addr} {fd : FuncData} (F : Fun K "is_accepted" "Table.is_accepted" sTAcc f fd) : FnOk P w K mg base CX0 1 f fd ["self", "x"] (spTAcc K) := by
  refine F.ok scTAcc (fun vs H Q E h => ?_) (fun cdv A outer s H vs Q E hr h => ?_)
  · obtain ⟨t, R, x, rfl, _⟩ := h; rfl
  · obtain ⟨t, R, x, rfl, ⟨C, dx, fs, r, ht, cl, na, hl, l, m, a, ms, h1, h2, h3, h4, h5⟩, k⟩ := h
    refine ⟨_, pss_one (ps_ret (pe_cmpR op_in_seq (pv 1) (pe_ix ix_tup (pe_fld (pv 0) rfl) pe_int (fun _ _ => rfl)) (by rfl))), ?_⟩
    refine ⟨_, rfl, _, rfl, t, C, dx, fs, _, rfl, ht, cl, na, hl, r, _, 3, _, rfl, rfl, SqT.of h1, atI_nat (j := 3) rfl, a, _, rfl, .inr (SqT.of h5), rfl, flat_ivs _, ?_⟩
    show Q (.bl (inV (iv x) (ivs R.a))) _
    rw [inV_ivs]
    exact k
end
end My
end

section
/-! Pairs, Leaders. -/
namespace My
open PySem PySem.Spec PyProof.Rows L2
theorem look_ne {x y : Str} {v : V} {r : List (Str × V)} (h : ¬ x = y) : List.lookup x ((y, v) :: r) = List.lookup x r := by
  rw [List.lookup_cons, beq_eq_false_iff_ne.mpr h]
theorem look_eq {x : Str} {v : V} {r : List (Str × V)} : List.lookup x ((x, v) :: r) = some v := by
  rw [List.lookup_cons, beq_self_eq_true]
abbrev fsT (r : Addr) : List (Str × V) := [("reader", .ref r)]
abbrev fsP (a b : Addr) : List (Str × V) := [("kind", .str "both"), ("first", .ref a), ("second", .ref b)]
abbrev fsL (r l : Addr) : List (Str × V) := [("reader", .ref r), ("leading", .ref l)]
theorem fsT_no (r : Addr) {x : Str} (h : ¬ x = "reader") : (fsT r).lookup x = none := by
  unfold fsT; rw [look_ne h]; rfl
theorem fsT_r (r : Addr) : (fsT r).lookup ("reader" : Str) = some (.ref r) := look_eq
theorem fsP_k (a b : Addr) : (fsP a b).lookup ("kind" : Str) = some (.str "both") := look_eq
theorem fsP_a (a b : Addr) : (fsP a b).lookup ("first" : Str) = some (.ref a) := by
  unfold fsP; rw [look_ne (by decide +kernel)]; exact look_eq
theorem fsP_b (a b : Addr) : (fsP a b).lookup ("second" : Str) = some (.ref b) := by
  unfold fsP; rw [look_ne (by decide +kernel), look_ne (by decide +kernel)]; exact look_eq
theorem fsP_no (a b : Addr) {x : Str} (h1 : ¬ x = "kind") (h2 : ¬ x = "first") (h3 : ¬ x = "second") : (fsP a b).lookup x = none := by
  unfold fsP; rw [look_ne h1, look_ne h2, look_ne h3]; rfl
theorem fsL_r (r l : Addr) : (fsL r l).lookup ("reader" : Str) = some (.ref r) := look_eq
theorem fsL_l (r l : Addr) : (fsL r l).lookup ("leading" : Str) = some (.ref l) := by
  unfold fsL; rw [look_ne (by decide +kernel)]; exact look_eq
theorem fsL_no (r l : Addr) {x : Str} (h1 : ¬ x = "reader") (h2 : ¬ x = "leading") : (fsL r l).lookup x = none := by
  unfold fsL; rw [look_ne h1, look_ne h2]; rfl
/-- the class Table, as the top has made it, and that its methods keep their promises -/
structure TT (P : Program) (w : World) (K : PySem.W.Frag) (mg : Str → Option Value) (base : Heap) where
  C : Addr
  fI : Addr
  fE : Addr
  fL : Addr
  fJ : Addr
  fA : Addr
  dI : FuncData
  dE : FuncData
  dL : FuncData
  dJ : FuncData
  dA : FuncData
  cl : Cls K C
  nR : NoAttr K C "reader"
  mgC : mg "Table" = some (.ref C)
  M : Mk K C fI
  gI : FnOk P w K mg base CX0 1 fI dI ["self", "reader"] (spTInit K)
  bI : Binds K dI ["self", "reader"] []
  mE : Meth K C "empty" fE
  gE : FnOk P w K mg base CX0 1 fE dE ["self"] (spTEmpty K)
  bE : Binds K dE ["self"] []
  mL : Meth K C "letter" fL
  gL : FnOk P w K mg base CX0 1 fL dL ["self", "a"] (spTLetter K)
  bL : Binds K dL ["self", "a"] []
  mJ : Meth K C "join" fJ
  gJ : FnOk P w K mg base CX0 1 fJ dJ ["self", "x", "y"] (spTJoin K)
  bJ : Binds K dJ ["self", "x", "y"] []
  mA : Meth K C "is_accepted" fA
  gA : FnOk P w K mg base CX0 1 fA dA ["self", "x"] (spTAcc K)
  bA : Binds K dA ["self", "x"] []
/-- a Table of the reader R -/
def IsTab (C : Addr) (H : Hp) (t : Addr) (R : Rdr) : Prop := ∃ dx r, H t = some (.ins C dx (fsT r)) ∧ RdAt H r R
/-- a pair of Tables -/
def IsPairs (CT C : Addr) (H : Hp) (t : Addr) (R B : Rdr) : Prop := ∃ dx a b, H t = some (.ins C dx (fsP a b)) ∧ IsTab CT H a R ∧ IsTab CT H b B
def IsLd (C : Addr) (H : Hp) (t : Addr) (R : Rdr) (c : List Nat) : Prop := ∃ dx r l, H t = some (.ins C dx (fsL r l)) ∧ RdAt H r R ∧ H l = some (.lst (ivs c))
section
variable {P : Program} {w : World} {K : PySem.W.Frag} {mg : Str → Option Value} {base : Heap}
theorem IsTab.has {T : TT P w K mg base} {H : Hp} {t : Addr} {R : Rdr} (h : IsTab T.C H t R) : HasR K H t R := by
  obtain ⟨dx, r, h1, h2⟩ := h
  exact ⟨T.C, dx, _, r, h1, T.cl, T.nR, fsT_r r, h2⟩
theorem IsTab.same {C : Addr} {H H' : Hp} {t : Addr} {R : Rdr} (s : Same H H') (h : IsTab C H t R) : IsTab C H' t R := by
  obtain ⟨dx, r, h1, h2⟩ := h
  exact ⟨dx, r, s _ _ h1, h2.tups s.tups⟩
theorem IsPairs.same {CT C : Addr} {H H' : Hp} {t : Addr} {R B : Rdr} (s : Same H H') (h : IsPairs CT C H t R B) : IsPairs CT C H' t R B := by
  obtain ⟨dx, a, b, h1, h2, h3⟩ := h
  exact ⟨dx, a, b, s _ _ h1, h2.same s, h3.same s⟩
theorem IsLd.same {C : Addr} {H H' : Hp} {t : Addr} {R : Rdr} {c : List Nat} (s : Same H H') (h : IsLd C H t R c) : IsLd C H' t R c := by
  obtain ⟨dx, r, l, h1, h2, h3⟩ := h
  exact ⟨dx, r, l, s _ _ h1, h2.tups s.tups, s _ _ h3⟩
/-! ### Pairs -/
structure PKl (K : PySem.W.Frag) (C : Addr) : Prop where
  cl : Cls K C
  nK : NoAttr K C "kind"
  n1 : NoAttr K C "first"
  n2 : NoAttr K C "second"
abbrev repP (H : Hp) (x : Nat × Nat) (v : V) : Prop := kPair.rep H x v
def spPInit (CT C : Addr) : Sp := fun vs H Q _ => ∃ p r1 r2 dx R B, vs = [.ref p, .str "both", .ref r1, .ref r2] ∧ H p = some (.ins C dx []) ∧ RdAt H r1 R ∧ RdAt H r2 B ∧
  ∀ H', (∀ b o, b ≠ p → H b = some o → H' b = some o) → IsPairs CT C H' p R B → Q .non H'
def spPEmpty (CT C : Addr) : Sp := fun vs H Q _ => ∃ t R B, vs = [.ref t] ∧ IsPairs CT C H t R B ∧ ∀ v H', Same H H' → repP H' (pairTab R B).e v → Q v H'
def spPLetter (CT C : Addr) : Sp := fun vs H Q _ => ∃ t R B a, vs = [.ref t, iv a] ∧ IsPairs CT C H t R B ∧ a < R.l.length ∧ a < B.l.length ∧ ∀ v H', Same H H' → repP H' ((pairTab R B).l a) v → Q v H'
def spPJoin (CT C : Addr) : Sp := fun vs H Q _ => ∃ n t R B x y vx vy, vs = [.ref t, vx, vy] ∧ IsPairs CT C H t R B ∧ repP H x vx ∧ repP H y vy ∧ Shape n R ∧ Shape n B ∧ (x.1 < R.m.length ∧ x.2 < B.m.length) ∧ (y.1 < R.m.length ∧ y.2 < B.m.length) ∧
  ∀ v H', Same H H' → repP H' ((pairTab R B).j x y) v → Q v H'
def spPAcc (CT C : Addr) : Sp := fun vs H Q _ => ∃ t R B x vx, vs = [.ref t, vx] ∧ IsPairs CT C H t R B ∧ repP H x vx ∧ Q (.bl ((pairTab R B).acc x)) H
theorem scPInit : FnScope ["self", "kind", "first", "second"] ["self", "kind", "first", "second"] (defScope sPInit) := ⟨rfl, rfl, rfl, by decide +kernel, rfl, by decide +kernel, by decide +kernel⟩
theorem scPEmpty : FnScope ["self"] ["self"] (defScope sPEmpty) := ⟨rfl, rfl, rfl, by decide +kernel, rfl, by decide +kernel, by decide +kernel⟩
theorem scPLetter : FnScope ["self", "a"] ["self", "a"] (defScope sPLetter) := ⟨rfl, rfl, rfl, by decide +kernel, rfl, by decide +kernel, by decide +kernel⟩
theorem scPJoin : FnScope ["self", "x", "y"] ["self", "x", "y"] (defScope sPJoin) := ⟨rfl, rfl, rfl, by decide +kernel, rfl, by decide +kernel, by decide +kernel⟩
theorem scPAcc : FnScope ["self", "x", "one", "two"] ["self", "x"] (defScope sPAcc) := ⟨rfl, rfl, rfl, by decide +kernel, rfl, by decide +kernel, by decide +kernel⟩
theorem no_empty (r : Addr) : (fsT r).lookup ("empty" : Str) = none := fsT_no r (by decide +kernel)
theorem no_letter (r : Addr) : (fsT r).lookup ("letter" : Str) = none := fsT_no r (by decide +kernel)
theorem no_join (r : Addr) : (fsT r).lookup ("join" : Str) = none := fsT_no r (by decide +kernel)
theorem no_acc (r : Addr) : (fsT r).lookup ("is_accepted" : Str) = none := fsT_no r (by decide +kernel)
theorem ok_pinit {f C : Addr} {fd : FuncData} (T : TT P w K mg base) (F : Fun K "__init__" "Pairs.__init__" sPInit f fd) (c : PKl K C) : FnOk P w K mg base CX0 3 f fd ["self", "kind", "first", "second"] (spPInit T.C C) := by
  refine F.ok scPInit (fun vs H Q E h => ?_) (fun cdv A outer s H vs Q E hr h => ?_)
  · obtain ⟨p, r1, r2, dx, R, B, rfl, _⟩ := h; rfl
  · obtain ⟨p, r1, r2, dx, R, B, rfl, hp, h1, h2, k⟩ := h
    refine ⟨_, pss_cons (ps_fld (pv 0) (pv 1) rfl)
      (pss_cons (ps_fld (pv 0) (pe_make T.M T.gI hr rfl T.mgC T.bI .nil pass0 (pa_cons (pv 2) pa_nil)) rfl)
      (pss_one (ps_fld (pv 0) (pe_make T.M T.gI hr rfl T.mgC T.bI .nil pass0 (pa_cons (pv 3) pa_nil)) rfl))), ?_⟩
    refine ⟨_, rfl, _, rfl, p, C, dx, [], rfl, hp, c.cl, c.nK, (by show 0 < 1000; decide), ?_⟩
    generalize e1 : upd H p (.ins C dx (putF "kind" (.str "both") [])) = H1
    have hp1 : H1 p = some (.ins C dx [("kind", .str "both")]) := by rw [← e1]; exact upd_same
    have k1 : ∀ b o, b ≠ p → H b = some o → H1 b = some o := fun b o n e => by rw [← e1, upd_ne n]; exact e
    have t1 : Tups H H1 := by rw [← e1]; exact tups_upd (fun xs z => by rw [hp] at z; cases z)
    refine ⟨_, rfl, fun x dx1 nx ndx nex => ⟨x, _, T.C, dx1, rfl, upd_same, T.cl, T.nR, rfl, ?_⟩⟩
    generalize e2 : upd (upd (upd H1 dx1 (.own x)) x (.ins T.C dx1 [])) x (.ins T.C dx1 [("reader", .ref r1)]) = H2
    have s2 : Same H1 H2 := by rw [← e2]; exact ((same_upd ndx).upd0 nx).upd0 nx
    have hx2 : H2 x = some (.ins T.C dx1 (fsT r1)) := by rw [← e2]; exact upd_same
    refine ⟨_, rfl, p, C, dx, _, rfl, s2 _ _ hp1, c.cl, c.n1, (by show 1 < 1000; decide), ?_⟩
    generalize e3 : upd H2 p (.ins C dx (putF "first" (.ref x) [("kind", .str "both")])) = H3
    have hp3 : H3 p = some (.ins C dx [("kind", .str "both"), ("first", .ref x)]) := by
      rw [← e3, upd_same]
      show some (HO.ins C dx (if ("kind" : Str) = "first" then _ else (("kind" : Str), V.str "both") :: [("first", V.ref x)])) = _
      rw [if_neg (by decide +kernel)]
    have npx : x ≠ p := fun z => by rw [z, hp1] at nx; cases nx
    have k3 : ∀ b o, b ≠ p → H2 b = some o → H3 b = some o := fun b o n e => by rw [← e3, upd_ne n]; exact e
    have t3 : Tups H2 H3 := by rw [← e3]; exact tups_upd (fun xs z => by rw [s2 _ _ hp1] at z; cases z)
    refine ⟨_, rfl, fun y dy ny ndy ney => ⟨y, _, T.C, dy, rfl, upd_same, T.cl, T.nR, rfl, ?_⟩⟩
    generalize e4 : upd (upd (upd H3 dy (.own y)) y (.ins T.C dy [])) y (.ins T.C dy [("reader", .ref r2)]) = H4
    have s4 : Same H3 H4 := by rw [← e4]; exact ((same_upd ndy).upd0 ny).upd0 ny
    have hy4 : H4 y = some (.ins T.C dy (fsT r2)) := by rw [← e4]; exact upd_same
    have npy : y ≠ p := fun z => by rw [z, hp3] at ny; cases ny
    refine ⟨_, rfl, p, C, dx, _, rfl, s4 _ _ hp3, c.cl, c.n2, (by show 2 < 1000; decide), ?_⟩
    have e5 : putF "second" (.ref y) [(("kind" : Str), V.str "both"), ("first", .ref x)] = fsP x y := by
      show (if ("kind" : Str) = "second" then _ else (("kind" : Str), V.str "both") :: (if ("first" : Str) = "second" then _ else (("first" : Str), V.ref x) :: [("second", V.ref y)])) = _
      rw [if_neg (by decide +kernel), if_neg (by decide +kernel)]
    rw [e5]
    have t5 : Tups H4 (upd H4 p (.ins C dx (fsP x y))) := tups_upd (fun xs z => by rw [s4 _ _ hp3] at z; cases z)
    refine k _ (fun b o n e => ?_) ⟨dx, x, y, upd_same, ⟨dx1, r1, ?_, ?_⟩, ⟨dy, r2, ?_, ?_⟩⟩
    · rw [upd_ne n]; exact s4 _ _ (k3 b o n (s2 _ _ (k1 b o n e)))
    · rw [upd_ne npx]; exact s4 _ _ (k3 _ _ npx hx2)
    · exact h1.tups (((t1.trans s2.tups).trans t3).trans (s4.tups.trans t5))
    · rw [upd_ne npy]; exact hy4
    · exact h2.tups (((t1.trans s2.tups).trans t3).trans (s4.tups.trans t5))
theorem ok_pempty {f C : Addr} {fd : FuncData} (T : TT P w K mg base) (F : Fun K "empty" "Pairs.empty" sPEmpty f fd) (c : PKl K C) : FnOk P w K mg base CX0 2 f fd ["self"] (spPEmpty T.C C) := by
  refine F.ok scPEmpty (fun vs H Q E h => ?_) (fun cdv A outer s H vs Q E hr h => ?_)
  · obtain ⟨t, R, B, rfl, _⟩ := h; rfl
  · obtain ⟨t, R, B, rfl, ⟨dx, a, b, ht, hA, hB⟩, k⟩ := h
    obtain ⟨da, ra, ha, hra⟩ := id hA
    obtain ⟨db, rb, hb, hrb⟩ := id hB
    refine ⟨_, pss_one (ps_ret (pe_tup (pa_cons (pe_meth0 (pe_fld (pv 0) rfl) T.cl T.mE T.gE hr T.bE .nil pass0) (pa_cons (pe_meth0 (pe_fld (pv 0) rfl) T.cl T.mE T.gE hr T.bE .nil pass0) pa_nil)))), ?_⟩
    refine ⟨_, rfl, t, C, dx, _, _, rfl, ht, c.cl, c.n1, fsP_a a b, a, da, _, rfl, ha, no_empty ra, a, R, rfl, hA.has, _, rfl, t, C, dx, _, _, rfl, ht, c.cl, c.n2, fsP_b a b, b, db, _, rfl, hb, no_empty rb, b, B, rfl, hB.has, ?_⟩
    exact ⟨by rw [sizeLine_eq]; show 2 ≤ 16777216; decide, fun p np => k _ _ (same_upd np) ⟨p, rfl, upd_same⟩⟩
theorem ok_pletter {f C : Addr} {fd : FuncData} (T : TT P w K mg base) (F : Fun K "letter" "Pairs.letter" sPLetter f fd) (c : PKl K C) : FnOk P w K mg base CX0 2 f fd ["self", "a"] (spPLetter T.C C) := by
  refine F.ok scPLetter (fun vs H Q E h => ?_) (fun cdv A outer s H vs Q E hr h => ?_)
  · obtain ⟨t, R, B, x, rfl, _⟩ := h; rfl
  · obtain ⟨t, R, B, x, rfl, ⟨dx, a, b, ht, hA, hB⟩, h1, h2, k⟩ := h
    obtain ⟨da, ra, ha, hra⟩ := id hA
    obtain ⟨db, rb, hb, hrb⟩ := id hB
    refine ⟨_, pss_one (ps_ret (pe_tup (pa_cons (pe_meth (pe_fld (pv 0) rfl) T.cl T.mL T.gL hr T.bL .nil pass0 (pa_cons (pv 1) pa_nil)) (pa_cons (pe_meth (pe_fld (pv 0) rfl) T.cl T.mL T.gL hr T.bL .nil pass0 (pa_cons (pv 1) pa_nil)) pa_nil)))), ?_⟩
    refine ⟨_, rfl, t, C, dx, _, _, rfl, ht, c.cl, c.n1, fsP_a a b, a, da, _, rfl, ha, no_letter ra, _, rfl, a, R, x, rfl, hA.has, h1, _, rfl, t, C, dx, _, _, rfl, ht, c.cl, c.n2, fsP_b a b, b, db, _, rfl, hb, no_letter rb, _, rfl, b, B, x, rfl, hB.has, h2, ?_⟩
    exact ⟨by rw [sizeLine_eq]; show 2 ≤ 16777216; decide, fun p np => k _ _ (same_upd np) ⟨p, rfl, upd_same⟩⟩
theorem ok_pjoin {f C : Addr} {fd : FuncData} (T : TT P w K mg base) (F : Fun K "join" "Pairs.join" sPJoin f fd) (c : PKl K C) : FnOk P w K mg base CX0 2 f fd ["self", "x", "y"] (spPJoin T.C C) := by
  refine F.ok scPJoin (fun vs H Q E h => ?_) (fun cdv A outer s H vs Q E hr h => ?_)
  · obtain ⟨n, t, R, B, x, y, vx, vy, rfl, _⟩ := h; rfl
  · obtain ⟨n, t, R, B, x, y, vx, vy, rfl, ⟨dx, a, b, ht, hA, hB⟩, ⟨bx, rfl, hx⟩, ⟨yx, rfl, hy⟩, S1, S2, lx, ly, k⟩ := h
    obtain ⟨da, ra, ha, hra⟩ := id hA
    obtain ⟨db, rb, hb, hrb⟩ := id hB
    refine ⟨_, pss_one (ps_ret (pe_tup (pa_cons (pe_meth (pe_fld (pv 0) rfl) T.cl T.mJ T.gJ hr T.bJ .nil pass0 (pa_cons (pe_ix ix_tup (pv 1) pe_int (fun _ _ => rfl)) (pa_cons (pe_ix ix_tup (pv 2) pe_int (fun _ _ => rfl)) pa_nil)))
      (pa_cons (pe_meth (pe_fld (pv 0) rfl) T.cl T.mJ T.gJ hr T.bJ .nil pass0 (pa_cons (pe_ix ix_tup (pv 1) pe_int (fun _ _ => rfl)) (pa_cons (pe_ix ix_tup (pv 2) pe_int (fun _ _ => rfl)) pa_nil))) pa_nil)))), ?_⟩
    refine ⟨_, rfl, t, C, dx, _, _, rfl, ht, c.cl, c.n1, fsP_a a b, a, da, _, rfl, ha, no_join ra, _, rfl, bx, _, 0, _, rfl, rfl, SqT.of hx, atI_nat (j := 0) rfl, _, rfl, yx, _, 0, _, rfl, rfl, SqT.of hy, atI_nat (j := 0) rfl, n, a, R, x.1, y.1, rfl, hA.has, S1, lx.1, ly.1, ?_⟩
    refine ⟨_, rfl, t, C, dx, _, _, rfl, ht, c.cl, c.n2, fsP_b a b, b, db, _, rfl, hb, no_join rb, _, rfl, bx, _, 1, _, rfl, rfl, SqT.of hx, atI_nat (j := 1) rfl, _, rfl, yx, _, 1, _, rfl, rfl, SqT.of hy, atI_nat (j := 1) rfl, n, b, B, x.2, y.2, rfl, hB.has, S2, lx.2, ly.2, ?_⟩
    exact ⟨by rw [sizeLine_eq]; show 2 ≤ 16777216; decide, fun p np => k _ _ (same_upd np) ⟨p, rfl, upd_same⟩⟩
theorem ok_pacc {f C : Addr} {fd : FuncData} (T : TT P w K mg base) (F : Fun K "is_accepted" "Pairs.is_accepted" sPAcc f fd) (c : PKl K C) : FnOk P w K mg base CX0 2 f fd ["self", "x"] (spPAcc T.C C) := by
  refine F.ok scPAcc (fun vs H Q E h => ?_) (fun cdv A outer s H vs Q E hr h => ?_)
  · obtain ⟨t, R, B, x, vx, rfl, _⟩ := h; rfl
  · obtain ⟨t, R, B, x, vx, rfl, ⟨dx, a, b, ht, hA, hB⟩, ⟨bx, rfl, hx⟩, k⟩ := h
    obtain ⟨da, ra, ha, hra⟩ := id hA
    obtain ⟨db, rb, hb, hrb⟩ := id hB
    refine ⟨_, pss_cons (ps_set (i := 2) scPAcc.nd rfl (.inl rfl) (pe_meth (pe_fld (pv 0) rfl) T.cl T.mA T.gA hr T.bA .nil pass0 (pa_cons (pe_ix ix_tup (pv 1) pe_int (fun _ _ => rfl)) pa_nil)))
      (pss_cons (ps_set (i := 3) scPAcc.nd rfl (.inl rfl) (pe_meth (pe_fld (pv 0) rfl) T.cl T.mA T.gA hr T.bA .nil pass0 (pa_cons (pe_ix ix_tup (pv 1) pe_int (fun _ _ => rfl)) pa_nil)))
      (pss_cons (ps_if (pt_cmpR op_eq (pe_fld (pv 0) rfl) pe_str (nomark _)) (pss_one (ps_ret (pe_and (pv 2) (pe_one (pv 3))))) pss_nil)
      (pss_cons ps_never (pss_one ps_never)))), ?_⟩
    refine ⟨_, rfl, t, C, dx, _, _, rfl, ht, c.cl, c.n1, fsP_a a b, a, da, _, rfl, ha, no_acc ra, _, rfl, bx, _, 0, _, rfl, rfl, SqT.of hx, atI_nat (j := 0) rfl, a, R, x.1, rfl, hA.has, ?_⟩
    refine ⟨_, rfl, t, C, dx, _, _, rfl, ht, c.cl, c.n2, fsP_b a b, b, db, _, rfl, hb, no_acc rb, _, rfl, bx, _, 1, _, rfl, rfl, SqT.of hx, atI_nat (j := 1) rfl, b, B, x.2, rfl, hB.has, ?_⟩
    refine ⟨_, rfl, t, C, dx, _, _, rfl, ht, c.cl, c.nK, fsP_k a b, rfl, _, rfl, ?_⟩
    rw [decide_eq_true rfl]
    refine iteT ⟨_, rfl, _, rfl, ?_⟩
    have k' : Q (.bl (R.tab.acc x.1 && B.tab.acc x.2)) H := k
    cases e : R.tab.acc x.1 with
    | true =>
      refine iteT ⟨_, rfl, ?_⟩
      rw [e, Bool.true_and] at k'
      exact k'
    | false =>
      refine iteF ?_
      rw [e, Bool.false_and] at k'
      exact k'
end
end My
end

section
/-! Leaders. -/
namespace My
open PySem PySem.Spec PyProof.Rows L2 NdefX
section
variable {P : Program} {w : World} {K : PySem.W.Frag} {mg : Str → Option Value} {base : Heap}
structure LKl (K : PySem.W.Frag) (C : Addr) : Prop where
  cl : Cls K C
  nR : NoAttr K C "reader"
  nL : NoAttr K C "leading"
theorem IsLd.has {C : Addr} {H : Hp} {t : Addr} {R : Rdr} {c : List Nat} (k : LKl K C) (h : IsLd C H t R c) : HasR K H t R := by
  obtain ⟨dx, r, l, h1, h2, h3⟩ := h
  exact ⟨C, dx, _, r, h1, k.cl, k.nR, fsL_r r l, h2⟩
def spLInit (C : Addr) : Sp := fun vs H Q _ => ∃ p r l dx, vs = [.ref p, .ref r, .ref l] ∧ H p = some (.ins C dx []) ∧ Q .non (upd H p (.ins C dx (fsL r l)))
def spLEmpty (C : Addr) : Sp := fun vs H Q _ => ∃ t R c, vs = [.ref t] ∧ IsLd C H t R c ∧ R.e < c.length ∧ Q (iv (leadTab R c).e) H
def spLLetter (C : Addr) : Sp := fun vs H Q _ => ∃ t R c a, vs = [.ref t, iv a] ∧ IsLd C H t R c ∧ a < R.l.length ∧ R.tab.l a < c.length ∧ Q (iv ((leadTab R c).l a)) H
def spLJoin (C : Addr) : Sp := fun vs H Q _ => ∃ n t R c x y, vs = [.ref t, iv x, iv y] ∧ IsLd C H t R c ∧ Shape n R ∧ x < R.m.length ∧ y < R.m.length ∧ c.length = R.m.length ∧ Q (iv ((leadTab R c).j x y)) H
theorem scLEmpty : FnScope ["self"] ["self"] (defScope sLEmpty) := ⟨rfl, rfl, rfl, by decide +kernel, rfl, by decide +kernel, by decide +kernel⟩
theorem scLLetter : FnScope ["self", "a"] ["self", "a"] (defScope sLLetter) := ⟨rfl, rfl, rfl, by decide +kernel, rfl, by decide +kernel, by decide +kernel⟩
theorem scLJoin : FnScope ["self", "x", "y"] ["self", "x", "y"] (defScope sLJoin) := ⟨rfl, rfl, rfl, by decide +kernel, rfl, by decide +kernel, by decide +kernel⟩
theorem scLInit : NScope ["self", "reader", "leading", "__class__"] ["self", "reader", "leading"] ["__class__"] (defScope sLInit) := nscope_by (by decide +kernel)
theorem ok_lempty {f C : Addr} {fd : FuncData} (F : Fun K "empty" "Leaders.empty" sLEmpty f fd) (k : LKl K C) : FnOk P w K mg base CX0 1 f fd ["self"] (spLEmpty C) := by
  refine F.ok scLEmpty (fun vs H Q E h => ?_) (fun cdv A outer s H vs Q E hr h => ?_)
  · obtain ⟨t, R, c, rfl, _⟩ := h; rfl
  · obtain ⟨t, R, c, rfl, ⟨dx, r, ld, ht, ⟨l, m, a, ms, h1, h2, h3, h4, h5⟩, hc⟩, hb, q⟩ := h
    refine ⟨_, pss_one (ps_ret (pe_ix ix_list (pe_fld (pv 0) rfl) (pe_ix ix_tup (pe_fld (pv 0) rfl) pe_int (fun _ _ => rfl)) (fun _ _ => rfl))), ?_⟩
    exact ⟨_, rfl, t, C, dx, _, _, rfl, ht, k.cl, k.nL, fsL_l r ld, _, rfl, t, C, dx, _, _, rfl, ht, k.cl, k.nR, fsL_r r ld, r, _, 0, _, rfl, rfl, SqT.of h1, atI_nat (j := 0) rfl, ld, _, (R.e : Int), _, rfl, rfl, SqL.of hc, atI_nat (ivs_get hb), q⟩
theorem ok_lletter {f C : Addr} {fd : FuncData} (F : Fun K "letter" "Leaders.letter" sLLetter f fd) (k : LKl K C) : FnOk P w K mg base CX0 1 f fd ["self", "a"] (spLLetter C) := by
  refine F.ok scLLetter (fun vs H Q E h => ?_) (fun cdv A outer s H vs Q E hr h => ?_)
  · obtain ⟨t, R, c, x, rfl, _⟩ := h; rfl
  · obtain ⟨t, R, c, x, rfl, ⟨dx, r, ld, ht, ⟨l, m, a, ms, h1, h2, h3, h4, h5⟩, hc⟩, hx, hb, q⟩ := h
    refine ⟨_, pss_one (ps_ret (pe_ix ix_list (pe_fld (pv 0) rfl) (pe_ix ix_tup (pe_ix ix_tup (pe_fld (pv 0) rfl) pe_int (fun _ _ => rfl)) (pv 1) (fun _ _ => rfl)) (fun _ _ => rfl))), ?_⟩
    exact ⟨_, rfl, t, C, dx, _, _, rfl, ht, k.cl, k.nL, fsL_l r ld, _, rfl, t, C, dx, _, _, rfl, ht, k.cl, k.nR, fsL_r r ld, r, _, 1, _, rfl, rfl, SqT.of h1, atI_nat (j := 1) rfl, _, rfl, l, _, (x : Int), _, rfl, rfl, SqT.of h2, atI_nat (ivs_get hx),
      ld, _, (R.tab.l x : Int), _, rfl, rfl, SqL.of hc, atI_nat (ivs_get hb), q⟩
theorem ok_ljoin {f C : Addr} {fd : FuncData} (F : Fun K "join" "Leaders.join" sLJoin f fd) (k : LKl K C) : FnOk P w K mg base CX0 1 f fd ["self", "x", "y"] (spLJoin C) := by
  refine F.ok scLJoin (fun vs H Q E h => ?_) (fun cdv A outer s H vs Q E hr h => ?_)
  · obtain ⟨n, t, R, c, x, y, rfl, _⟩ := h; rfl
  · obtain ⟨n, t, R, c, x, y, rfl, ⟨dx, r, ld, ht, ⟨l, m, a, ms, h1, h2, h3, h4, h5⟩, hc⟩, S, hx, hy, hcl, q⟩ := h
    obtain ⟨b, hb1, hb2⟩ := h4.get hx
    have hyl : y < (R.m.getD x []).length := by
      rw [getD_lt _ hx, S.row _ (List.getElem_mem hx)]; exact hy
    have hj : R.tab.j x y < c.length := by rw [hcl]; exact S.jt hx hy
    refine ⟨_, pss_one (ps_ret (pe_ix ix_list (pe_fld (pv 0) rfl) (pe_ix ix_tup (pe_ix ix_tup (pe_ix ix_tup (pe_fld (pv 0) rfl) pe_int (fun _ _ => rfl)) (pv 1) (fun _ _ => rfl)) (pv 2) (fun _ _ => rfl)) (fun _ _ => rfl))), ?_⟩
    exact ⟨_, rfl, t, C, dx, _, _, rfl, ht, k.cl, k.nL, fsL_l r ld, _, rfl, t, C, dx, _, _, rfl, ht, k.cl, k.nR, fsL_r r ld, r, _, 2, _, rfl, rfl, SqT.of h1, atI_nat (j := 2) rfl, _, rfl, m, _, (x : Int), _, rfl, rfl, SqT.of h3, atI_nat hb1, _, rfl, b, _, (y : Int), _, rfl, rfl, SqT.of hb2, atI_nat (ivs_get hyl),
      ld, _, (R.tab.j x y : Int), _, rfl, rfl, SqL.of hc, atI_nat (ivs_get hj), q⟩
theorem ok_linit {f cc cda C : Addr} {kV doc pm oc ct : Value} {od an : Option Addr} {osl : Array (Option Value)} (T : TT P w K mg base)
    (lk : K.lookup f = some ⟨oc, od, .func (PySem.W.ksFn "__init__" "Leaders.__init__" (defArgs sLInit) (defBody sLInit) (defScope sLInit) .none kV doc pm an (.ref cda) ct cc), osl⟩)
    (hcd : PySem.W.codeIn K (.ref cda) "Leaders.__init__" = true) (S : SupK P K mg C cc cda T.fI) (k : LKl K C) :
    FnOk P w K mg base CX0 2 f (PySem.W.ksFn "__init__" "Leaders.__init__" (defArgs sLInit) (defBody sLInit) (defScope sLInit) .none kV doc pm an (.ref cda) ct cc) ["self", "reader", "leading"] (spLInit C) := by
  refine fn_super (j := 1) lk hcd scLInit rfl (fun vs H Q E h => ?_) S rfl rfl rfl rfl rfl rfl rfl rfl (by decide +kernel) (by decide +kernel) T.gI T.bI (fun A outer s H vs Q E hr h => ?_)
  · obtain ⟨p, r, l, dx, rfl, _⟩ := h; rfl
  · obtain ⟨p, r, l, dx, rfl, hp, q⟩ := h
    refine ⟨p, dx, [], .ref r, rfl, hp, rfl, p, .ref r, C, dx, rfl, hp, k.cl, k.nR, _, pss_one (ps_fld (pv 0) (pv 2) rfl), ?_⟩
    refine ⟨_, rfl, _, rfl, p, C, dx, _, rfl, upd_same, k.cl, k.nL, (by show 1 < 1000; decide), ?_⟩
    have e5 : putF "leading" (.ref l) [(("reader" : Str), V.ref r)] = fsL r l := by
      show (if ("reader" : Str) = "leading" then _ else (("reader" : Str), V.ref r) :: [("leading", V.ref l)]) = _
      rw [if_neg (by decide +kernel)]
    rw [e5, upd_upd]
    exact q
end
end My
end

section
/-! What collect and tabled ask of a table; frames up to code tables. -/
namespace My
open PySem PySem.Spec PyProof.Rows L2
/-- all is kept, but that tables grow -/
def Kp (H H' : Hp) : Prop := ∀ b o, H b = some o → H' b = some o ∨ ∃ ps ps', o = .tbl ps ∧ H' b = some (.tbl ps')
theorem Kp.refl (H : Hp) : Kp H H := fun _ _ h => .inl h
theorem _root_.L2.Same.kp {H H' : Hp} (s : Same H H') : Kp H H' := fun b o h => .inl (s b o h)
theorem Kp.get {H H' : Hp} (s : Kp H H') {b : Addr} {o : HO} (h : H b = some o) (n : ∀ ps, o ≠ .tbl ps) : H' b = some o := by
  rcases s b o h with q | ⟨ps, _, e, _⟩
  · exact q
  · exact absurd e (n ps)
theorem Kp.trans {H H1 H2 : Hp} (a : Kp H H1) (b : Kp H1 H2) : Kp H H2 := fun c o h => by
  rcases a c o h with q | ⟨ps, ps', e, q⟩
  · exact b c o q
  · rcases b c _ q with z | ⟨ps2, ps3, e2, z⟩
    · exact .inr ⟨ps, ps', e, z⟩
    · exact .inr ⟨ps, ps3, e, z⟩
theorem Kp.free {H H' : Hp} (s : Kp H H') {l : Addr} (h : H' l = none) : H l = none := by
  cases q : H l with
  | none => rfl
  | some o =>
    rcases s l o q with z | ⟨_, _, _, z⟩ <;> (rw [h] at z; cases z)
theorem Kp.tups {H H' : Hp} (s : Kp H H') : Tups H H' := fun b xs h => s.get h fun _ z => nomatch z
theorem Kp.upd0 {H0 H : Hp} {p : Addr} {o : HO} (s : Kp H0 H) (h : H0 p = none) : Kp H0 (upd H p o) := fun b u e => by
  rw [upd_ne (ne_of_none e h)]
  exact s b u e
theorem Kp.lst {H H' : Hp} (s : Kp H H') {b : Addr} {xs : List V} (h : H b = some (.lst xs)) : H' b = some (.lst xs) := s.get h fun _ z => nomatch z
theorem kp_tab {P : Addr} {H H' : Hp} (g : GxR.TabG H P) (t : GxR.Tabbed P H H') : Kp H H' := fun b o h => by
  by_cases hb : b = P
  · obtain ⟨ps, e, _⟩ := g
    obtain ⟨⟨ps', e', _⟩, _⟩ := t
    rw [hb] at h ⊢
    rw [e] at h
    cases h
    exact .inr ⟨ps, ps', rfl, e'⟩
  · exact .inl ((t.2 b hb).trans h)
theorem tabG_same {P : Addr} {H H' : Hp} (g : GxR.TabG H P) (s : Same H H') : GxR.TabG H' P := let ⟨ps, e, t⟩ := g; ⟨ps, s _ _ e, t⟩
theorem tabG_upd {P p : Addr} {H : Hp} {o : HO} (g : GxR.TabG H P) (h : p ≠ P) : GxR.TabG (upd H p o) P := let ⟨ps, e, t⟩ := g; ⟨ps, (upd_ne (Ne.symm h)).trans e, t⟩
theorem tab_ne {P p : Addr} {H : Hp} {o : HO} (g : GxR.TabG H P) (h : H p = some o) (n : ∀ ps, o ≠ .tbl ps) : p ≠ P := fun e => by
  obtain ⟨ps, q, _⟩ := g
  rw [e, q] at h
  exact n ps (Option.some.inj h).symm
theorem tab_ne0 {P p : Addr} {H : Hp} (g : GxR.TabG H P) (h : H p = none) : p ≠ P := fun e => by
  obtain ⟨ps, q, _⟩ := g
  rw [e, q] at h
  cases h

/-- the values vs stand for the members of xs -/
abbrev Reps {α : Type} [DecidableEq α] (kd : Kind α) (H : Hp) (xs : List α) (vs : List V) : Prop := Paired (kd.rep H) xs vs
section
variable {α : Type} [DecidableEq α]
theorem Reps.tups {kd : Kind α} {H H' : Hp} {xs : List α} {vs : List V} (t : Tups H H') (h : Reps kd H xs vs) : Reps kd H' xs vs := Paired.mapP h fun _ _ r => kd.tups t r
theorem Paired.getR {β γ : Type} {F : β → γ → Prop} : ∀ {l : List β} {m : List γ} {i : Nat} {y : γ}, Paired F l m → m[i]? = some y → ∃ x, l[i]? = some x ∧ F x y
  | _, _, _, _, .nil, h => by simp at h
  | _, _, 0, y, .cons r _, h => by
    simp at h; subst h; exact ⟨_, rfl, r⟩
  | _, _, i + 1, y, .cons _ t, h => by
    obtain ⟨x, h1, h2⟩ := Paired.getR (i := i) t (by simpa using h)
    exact ⟨x, by simpa using h1, h2⟩
theorem Paired.dropR {β γ : Type} {F : β → γ → Prop} : ∀ {l : List β} {m : List γ} (i : Nat), Paired F l m → Paired F (l.drop i) (m.drop i)
  | _, _, 0, h => h
  | _, _, i + 1, .nil => .nil
  | _, _, i + 1, .cons _ t => Paired.dropR i t
theorem Paired.appR {β γ : Type} {F : β → γ → Prop} : ∀ {l l2 : List β} {m m2 : List γ}, Paired F l m → Paired F l2 m2 → Paired F (l ++ l2) (m ++ m2)
  | _, _, _, _, .nil, h => h
  | _, _, _, _, .cons r t, h => .cons r (Paired.appR t h)
theorem take_snoc {β : Type} {l : List β} {i : Nat} {x : β} (h : l[i]? = some x) : l.take (i + 1) = l.take i ++ [x] := by
  rw [List.take_add_one, h]; rfl
theorem mem_valV (kvs : List (α × V)) (x : α) : (valV kvs x).isSome = decide (x ∈ kvs.map (·.1)) := by
  rw [← valV_any]
  rw [Bool.eq_iff_iff, List.any_eq_true, decide_eq_true_iff, List.mem_map]
  constructor
  · rintro ⟨p, hp, e⟩; exact ⟨p, hp, of_decide_eq_true e⟩
  · rintro ⟨p, hp, e⟩; exact ⟨p, hp, decide_eq_true e⟩
theorem valV_none {kvs : List (α × V)} {x : α} (h : x ∉ kvs.map (·.1)) : valV kvs x = none := by
  have := mem_valV kvs x
  rw [decide_eq_false h] at this
  cases e : valV kvs x with
  | none => rfl
  | some v => rw [e] at this; cases this
/-- the products of the first i -/
def madeN (T : Tab α) (known : List α) (old i : Nat) : List α := (known.zipIdx.take i).flatMap fun p => (if p.2 < old then known.drop old else known).map (T.j p.1)
theorem madeN_zero (T : Tab α) (known : List α) (old : Nat) : madeN T known old 0 = [] := rfl
theorem madeN_succ (T : Tab α) (known : List α) (old i : Nat) (x : α) (h : known[i]? = some x) : madeN T known old (i + 1) = madeN T known old i ++ (if i < old then known.drop old else known).map (T.j x) := by
  unfold madeN
  have e : known.zipIdx[i]? = some (x, i) := by rw [List.getElem?_zipIdx, h]; simp
  rw [take_snoc e, List.flatMap_append]
  simp
theorem madeN_all (T : Tab α) (known : List α) (old : Nat) : madeN T known old known.length = madeP T known old := by
  unfold madeN madeP
  rw [List.take_of_length_le (by simp)]
theorem madeN_len (T : Tab α) (known : List α) (old : Nat) : ∀ i, (madeN T known old i).length ≤ i * known.length
  | 0 => by simp [madeN_zero]
  | i + 1 => by
    have ih := madeN_len T known old i
    cases h : known[i]? with
    | none =>
      have : madeN T known old (i + 1) = madeN T known old i := by
        unfold madeN
        have h2 := List.getElem?_eq_none_iff.mp h
        rw [List.take_of_length_le (by simp; omega), List.take_of_length_le (by simp; omega)]
      rw [this, Nat.add_mul]; omega
    | some x =>
      rw [madeN_succ T known old i x h, List.length_append, List.length_map, Nat.add_mul]
      split
      · rw [List.length_drop]; omega
      · omega
theorem cutV_drop (xs : List V) (k : Nat) : cutV xs (some (k : Int)) none = xs.drop k := by
  unfold cutV
  rw [HT.sIx_nat, HT.sIx_none]
  by_cases h : k ≤ xs.length
  · rw [Nat.min_eq_left h, List.take_of_length_le (by rw [List.length_drop]; omega)]
  · rw [Nat.min_eq_right (by omega), List.drop_of_length_le (Nat.le_refl _), List.drop_of_length_le (by omega)]
    simp
end
/-- the list at D is filled, turn by turn, up to Qd -/
abbrev Fills (J : It) (g : TG) (tt : L2.TT) (te : TE) (vs : List Nat) (σ : L2.St) (H1 : Hp) (D : Addr) (Qd : Hp → Prop) : Prop :=
  ∃ Inv : Nat → Nat → Hp → Prop, (∃ left, Inv 0 left (upd H1 D (.lst []))) ∧ ∀ n left G, Inv n left G → (J.stop n G ∧ Qd G) ∨ (J.go n G ∧ ∃ Next : Hp → Prop, (∀ G', Next G' → ∃ less, less < left ∧ Inv (n + 1) less G') ∧
    ∀ it G', J.yld n G it G' → g it (wipe σ vs) G' fun τ G2 => wipe τ vs = wipe σ vs ∧ tt τ G2 fun yes G3 => if yes = true then te τ G3 fun made G4 => ∃ so, G4 D = some (.lst so) ∧ so.length < sizeLine ∧ Next (upd G4 D (.lst (so ++ [made]))) else Next G3)
/-- a comprehension without a test -/
theorem lc_yes {σ σ2 : L2.St} {H : Hp} {vs : List Nat} {te : TE} {R : V → Hp → Prop} {L : Hp → Prop} (hw : wipe σ2 vs = wipe σ vs) (h : te σ2 H R) :
    wipe σ2 vs = wipe σ vs ∧ tYes σ2 H fun b H3 => if b = true then te σ2 H3 R else L H3 := by
  refine ⟨hw, ?_⟩
  show if true = true then te σ2 H R else L H
  rw [if_pos rfl]
  exact h
/-- what is asked of the table that is handed to collect and tabled -/
structure Meths {α : Type} [DecidableEq α] (P : Program) (w : World) (K : PySem.W.Frag) (mg : Str → Option Value) (base : Heap) (kd : Kind α) (T : Tab α) (n : Nat) (D : α → Prop) where
  C : Addr
  fE : Addr
  fL : Addr
  fJ : Addr
  fA : Addr
  dE : FuncData
  dL : FuncData
  dJ : FuncData
  dA : FuncData
  At : Hp → Addr → Prop
  ins : ∀ {H : Hp} {t : Addr}, At H t → ∃ dx fs, H t = some (.ins C dx fs) ∧ fs.lookup ("empty" : Str) = none ∧ fs.lookup ("letter" : Str) = none ∧ fs.lookup ("join" : Str) = none ∧ fs.lookup ("is_accepted" : Str) = none
  mono : ∀ {H H' : Hp} {t : Addr}, Kp H H' → At H t → At H' t
  cl : Cls K C
  mE : Meth K C "empty" fE
  gE : FnOk P w K mg base CX0 2 fE dE ["self"] (fun vs H Q _ => ∃ t, vs = [.ref t] ∧ At H t ∧ ∀ v H', Same H H' → kd.rep H' T.e v → Q v H')
  bE : Binds K dE ["self"] []
  mL : Meth K C "letter" fL
  gL : FnOk P w K mg base CX0 2 fL dL ["self", "a"] (fun vs H Q _ => ∃ t a, vs = [.ref t, iv a] ∧ At H t ∧ a < n ∧ ∀ v H', Same H H' → kd.rep H' (T.l a) v → Q v H')
  bL : Binds K dL ["self", "a"] []
  mJ : Meth K C "join" fJ
  gJ : FnOk P w K mg base CX0 2 fJ dJ ["self", "x", "y"] (fun vs H Q _ => ∃ t x y vx vy, vs = [.ref t, vx, vy] ∧ At H t ∧ kd.rep H x vx ∧ kd.rep H y vy ∧ D x ∧ D y ∧ ∀ v H', Same H H' → kd.rep H' (T.j x y) v → Q v H')
  bJ : Binds K dJ ["self", "x", "y"] []
  mA : Meth K C "is_accepted" fA
  gA : FnOk P w K mg base CX0 2 fA dA ["self", "x"] (fun vs H Q _ => ∃ t x vx, vs = [.ref t, vx] ∧ At H t ∧ kd.rep H x vx ∧ Q (.bl (T.acc x)) H)
  bA : Binds K dA ["self", "x"] []
  dE_ : D T.e
  dL_ : ∀ a, a < n → D (T.l a)
  dJ_ : ∀ x y, D x → D y → D (T.j x y)
end My
end

section
/-! collect. -/
namespace My
open PySem PySem.Spec PyProof.Rows L2
structure Blt (mg : Str → Option Value) : Prop where
  range : mg "range" = none
  len : mg "len" = none
  list : mg "list" = none
  enumerate : mg "enumerate" = none
  any : mg "any" = none
  tuple : mg "tuple" = none
  sorted : mg "sorted" = none
  set : mg "set" = none
  int : mg "int" = none
  max : mg "max" = none
  min : mg "min" = none
  all : mg "all" = none
section
variable {P : Program} {w : World} {K : PySem.W.Frag} {mg : Str → Option Value} {base : Heap}
theorem ok_code {x qual : Str} {st : Stmt} {f c : Addr} {N ps : List Str} {k : Nat} {sp : Sp} {oc kV doc pm ct : Value} {od an : Option Addr} {osl : Array (Option Value)}
    (lk : K.lookup f = some ⟨oc, od, .func (PySem.W.fnOf x qual (defArgs st) (defBody st) (defScope st) .none kV doc pm an (.ref c) ct), osl⟩) (hcd : PySem.W.codeIn K (.ref c) qual = true)
    (S : FnScope N ps (defScope st)) (len : ∀ vs H Q E, sp vs H Q E → vs.length = ps.length)
    (hbody : ∀ (A : Around) (outer : List Env) (s : Shared) (H : Hp) (vs : List V) (Q : VK) (E : XK), Room k (A.deeper (envOfC qual (defScope st) s.heap.objs.size f (.ref c))) → sp vs H Q E →
      ∃ t, PSs (cxOf CX0 P w K mg base N qual (defScope st) f (.ref c) A outer s H E).nox (defBody st) t ∧ t { nx := fun _ H' => Q .non H', rt := Q } (start N vs) H) :
    FnOk P w K mg base CX0 (k + 1) f (PySem.W.fnOf x qual (defArgs st) (defBody st) (defScope st) .none kV doc pm an (.ref c) ct) ps sp := by
  refine fn_of lk hcd S len fun A outer s H vs Q E hr hsp => ?_
  obtain ⟨t, h, q⟩ := hbody A outer s H vs Q E hr hsp
  exact ⟨t, h.nox, q⟩
variable {α : Type} [DecidableEq α]
/-- found: the list of the values that words have -/
def spCollect (kd : Kind α) (T : Tab α) (n N Pt : Nat) (At : Hp → Addr → Prop) : Sp := fun vs H Q _ => ∃ (t : Addr) (most : Nat), vs = [.ref t, iv n, iv most] ∧ At H t ∧ GxR.TabG H Pt ∧ N ≤ most ∧
  ∀ H' p L us, Kp H H' → GxR.TabG H' Pt → H p = none → H' p = some (.lst us) → Reps kd H' L us → IsClo T n L → Q (.ref p) H'
abbrev nmC : List Str := ["table", "count", "most", "found", "made", "old", "more", "x", "known", "number", "a", "y"]
theorem scCollect : FnScope nmC ["table", "count", "most"] (defScope sCollect) := ⟨rfl, rfl, rfl, by decide +kernel, rfl, by decide +kernel, by decide +kernel⟩
/-- what holds at the while -/
structure AtWhile (kd : Kind α) (T : Tab α) (n N Pt : Nat) (D : α → Prop) (H0 : Hp) (t d m : Addr) (most old : Nat) (more : Bool) (kvs : List (α × V)) (mL : List α) (ms : List V) (H : Hp) : Prop where
  kp : Kp H0 H
  tg : GxR.TabG H Pt
  d0 : H0 d = none
  hd : H d = some (kd.ho kvs)
  m0 : H0 m = none
  hm : H m = some (.lst ms)
  re : Reps kd H mL ms
  nd : (kvs.map (·.1)).Nodup
  fd : ∀ x ∈ kvs.map (·.1), D x
  md : ∀ x ∈ mL, D x
  fl : (kvs.map (·.1)).length ≤ N + 1
  ml : mL.length ≤ 1000000
  lo : Loop T n (kvs.map (·.1)) mL old more
def sigC (t d m : Addr) (n most old : Nat) (more : Bool) (a b c e g : Option V) : L2.St := [some (.ref t), some (iv n), some (iv most), some (.ref d), some (.ref m), some (iv old), some (.bl more), a, b, c, e, g]
theorem adds_D {D : α → Prop} {f l : List α} (h1 : ∀ x ∈ f, D x) (h2 : ∀ x ∈ l, D x) : ∀ x ∈ adds f l, D x := fun x hx => (mem_adds.mp hx).elim (h1 x) (h2 x)
theorem adds_len_le (f l : List α) : (adds f l).length ≤ f.length + l.length := by
  induction l generalizing f with
  | nil => simp [adds_nil]
  | cons x l ih =>
    rw [adds_cons]
    refine Nat.le_trans (ih _) ?_
    split
    · rw [List.length_cons]; omega
    · rw [List.length_append, List.length_cons, List.length_cons, List.length_nil]; omega
/-- [table.join(x, y) for y in ys] -/
theorem join_comp {kd : Kind α} {T : Tab α} {n : Nat} {D : α → Prop} (M : Meths P w K mg base kd T n D) {σ : L2.St} {H : Hp} {Qd : Addr → Hp → Prop} {t l : Addr} {x : α} {vx : V} {ys : List α} {zs : List V}
    (h0 : ∀ v, ((wipe σ [11]).set 11 (some v))[0]? = some (some (.ref t))) (h7 : ∀ v, ((wipe σ [11]).set 11 (some v))[7]? = some (some vx)) (h11 : ∀ v, ((wipe σ [11]).set 11 (some v))[11]? = some (some v)) (hw : ∀ v, wipe ((wipe σ [11]).set 11 (some v)) [11] = wipe σ [11])
    (hl : H l = some (.lst zs)) (hr : Reps kd H ys zs) (hAt : M.At H t) (hx : kd.rep H x vx) (dx_ : D x) (dy : ∀ y ∈ ys, D y) (hs : ys.length < sizeLine)
    (k : ∀ H' D' us, Same H H' → H D' = none → H' D' = some (.lst us) → Reps kd H' (ys.map (T.j x)) us → Qd D' H') :
    ∃ a, V.ref l = .ref a ∧ (∃ xs, SqL K H a xs) ∧ ∀ Da, H Da = none → ∃ W : Nat → Nat → Hp → Prop, (∃ m, W 0 m (upd H Da (.lst []))) ∧ ∀ i m H, W i m H →
      ((Itl K a).stop i H ∧ Qd Da H) ∨ ((Itl K a).go i H ∧ ∃ Nx : Hp → Prop, (∀ H', Nx H' → ∃ m', m' < m ∧ W (i + 1) m' H') ∧ ∀ x H', (Itl K a).yld i H x H' → gName 11 x (wipe σ [11]) H' fun σ2 H2 => wipe σ2 [11] = wipe σ [11] ∧ tYes σ2 H2 fun b H3 =>
        if b = true then (tMeth M.C "join" (fun vs H Q _ => ∃ t x y vx vy, vs = [.ref t, vx, vy] ∧ M.At H t ∧ kd.rep H x vx ∧ kd.rep H y vy ∧ D x ∧ D y ∧ ∀ v H', Same H H' → kd.rep H' (T.j x y) v → Q v H') [] E0 (tVar 0) (tCons (tVar 7) (tCons (tVar 11) tNil))) σ2 H3 fun y H4 => ∃ acc, H4 Da = some (.lst acc) ∧ acc.length < sizeLine ∧ Nx (upd H4 Da (.lst (acc ++ [y]))) else Nx H3) := by
  refine ⟨l, rfl, ⟨_, SqL.of hl⟩, fun p hp => ?_⟩
  have hlen := Paired.length hr
  refine lc_it (walk_list (xs := zs)) (fun i H' => Same H H' ∧ ∃ us, H' p = some (.lst us) ∧ Reps kd H' ((ys.take i).map (T.j x)) us) ⟨same_upd hp, [], upd_same, .nil⟩ (fun i H' _ h => h.1.seq (SqL.of hl)) ?_ ?_
  · rintro i v H3 H4 hi ⟨s3, us, hu, r3⟩ ⟨rfl, hv⟩
    obtain ⟨y, hy, ry⟩ := Paired.getR hr hv
    have hmem : y ∈ ys := List.mem_of_getElem? hy
    refine lc_yes (hw _) ?_
    obtain ⟨dx1, fs1, hi1, n1, n2, n3, n4⟩ := M.ins (M.mono s3.kp hAt)
    refine ⟨_, h0 _, t, dx1, fs1, rfl, hi1, n3, _, h7 _, _, h11 _, t, x, y, vx, v, rfl, M.mono s3.kp hAt, kd.tups s3.tups hx, kd.tups s3.tups ry, dx_, dy y hmem, fun v5 H5 s5 r5 => ?_⟩
    have hu5 := s5 _ _ hu
    have tu : Tups H5 (upd H5 p (.lst (us ++ [v5]))) := tups_upd fun xs z => by rw [hu5] at z; cases z
    refine ⟨us, hu5, ?_, (s3.trans s5).upd0 hp, us ++ [v5], upd_same, ?_⟩
    · have := Paired.length r3
      rw [List.length_map, List.length_take] at this
      omega
    · rw [take_snoc hy, List.map_append]
      exact Paired.appR (Reps.tups (s5.tups.trans tu) r3) (.cons (kd.tups tu r5) .nil)
  · rintro H3 ⟨s3, us, hu, r3⟩
    rw [← hlen, List.take_length] at r3
    exact k H3 p us s3 hp hu r3
theorem any_reps {kd : Kind α} {H : Hp} {kvs : List (α × V)} {f : V → Option V} : ∀ {xs : List α} {us : List V}, Reps kd H xs us → (∀ x v, kd.rep H x v → f v = valV kvs x) → us.any (fun v => !(f v).isSome) = xs.any fun x => decide (x ∉ kvs.map (·.1))
  | [], [], _, _ => rfl
  | x :: xs, v :: us, h, hf => by
    cases h with
    | cons r t =>
      rw [List.any_cons, List.any_cons, any_reps t hf, hf x v r, mem_valV]
      congr 1
      by_cases q : x ∈ kvs.map (·.1) <;> simp [q]
  | [], _ :: _, h, _ => by cases h
  | _ :: _, [], h, _ => by cases h
theorem ok_collect {f c Pt : Addr} {n N : Nat} {kd : Kind α} {T : Tab α} {D : α → Prop} {oc kV doc pm ct : Value} {od an : Option Addr} {osl : Array (Option Value)}
    (lk : K.lookup f = some ⟨oc, od, .func (PySem.W.fnOf "collect" "collect" (defArgs sCollect) (defBody sCollect) (defScope sCollect) .none kV doc pm an (.ref c) ct), osl⟩) (hcd : PySem.W.codeIn K (.ref c) "collect" = true)
    (TB : GxR.TabB base mg c Pt) (B : Blt mg) (M : Meths P w K mg base kd T n D) (hn : n ≤ 100) (hN : ∀ k, (iter T n k).length ≤ N) (hN3 : N ≤ 300) :
    FnOk P w K mg base CX0 3 f (PySem.W.fnOf "collect" "collect" (defArgs sCollect) (defBody sCollect) (defScope sCollect) .none kV doc pm an (.ref c) ct) ["table", "count", "most"] (spCollect kd T n N Pt M.At) := by
  refine ok_code lk hcd scCollect (fun vs H Q E h => ?_) (fun A outer s H vs Q E hr h => ?_)
  · obtain ⟨t, most, rfl, _⟩ := h; rfl
  · obtain ⟨t, most, rfl, hAt, hTg, hmost, k⟩ := h
    have hu := hu_of hr
    obtain ⟨dx, fs, hins, nE, nL, nJ, nA⟩ := M.ins hAt
    refine ⟨_, pss_cons (ps_set (i := 3) scCollect.nd rfl (.inr rfl) (kd.disp hr.units (pe_meth0 (pv 0) M.cl M.mE M.gE hr M.bE .nil pass0) pe_int))
      (pss_cons (ps_setLc (i := 4) (own := [("a", 10)]) (g := gName 10) (tt := tYes) rfl scCollect.nd rfl rfl (sw_true rfl rfl rfl (by decide +kernel)) (pi_range1 rfl B.range (pa_cons (pv 1) pa_nil)) (blkOk_by (N := nmC) (sc := defScope sCollect) (by decide +kernel)) (fun _ _ _ _ _ => pg_name (i := 10) scCollect.nd rfl (Or.inl rfl)) (fun _ _ _ _ _ => pts_nil)
        (fun _ _ _ _ _ => pe_meth (pv 0) M.cl M.mL M.gL hr M.bL .nil pass0 (pa_cons (pv 10) pa_nil)))
      (pss_cons (ps_set (i := 5) scCollect.nd rfl (.inl rfl) pe_int)
      (pss_cons (ps_set (i := 6) scCollect.nd rfl (.inl rfl) pe_bl)
      (pss_cons (ps_while PassesOwn.never (pt_val (pv 6))
        (pss_cons (ps_for PassesOwn.never rfl (pi_list (pv 4)) (pg_name (i := 7) scCollect.nd rfl (Or.inr rfl))
          (pss_one (ps_if (pt_cmp (pc_dnotin hu (pv 7) (pv 3))) (pss_one (ps_dput hu (pv 3) (pv 7) (pe_callB kd.len (by rfl) B.len PySem.boot_len (pa_cons (pv 3) pa_nil)) rfl)) pss_nil)))
        (pss_cons (ps_if (pt_cmpR op_gt (pe_callB kd.len (by rfl) B.len PySem.boot_len (pa_cons (pv 3) pa_nil)) (pv 2) (nomark _)) (pss_one (ps_ret pe_non)) pss_nil)
        (pss_cons (ps_set (i := 8) scCollect.nd rfl (.inl rfl) (pe_callTy (kd.list rfl) (by rfl) B.list (by decide +kernel) (pa_cons (pv 3) pa_nil)))
        (pss_cons (ps_set (i := 4) scCollect.nd rfl (.inl rfl) (pe_lst pa_nil))
        (pss_cons (ps_for PassesOwn.never rfl (pi_enum (by rfl) B.enumerate (pa_cons (pv 8) pa_nil)) (pg_tup rfl (pgs_cons (pg_name (i := 9) scCollect.nd rfl (Or.inl rfl)) (pgs_cons (pg_name (i := 7) scCollect.nd rfl (Or.inr rfl)) pgs_nil)))
          (pss_one (ps_aug (i := 4) scCollect.nd rfl (.inl rfl) (pe_lc (own := [("y", 11)]) (g := gName 11) (tt := tYes) rfl scCollect.nd (pi_list (pe_ifExp (pt_cmpR op_lt (pv 9) (pv 5) (nomark _)) (pe_slice sl_list (pv 8) (po_some (pv 5)) po_none) (pv 8)))
            (blkOk_by (N := nmC) (sc := defScope sCollect) (by decide +kernel)) (fun _ _ _ _ _ => pg_name (i := 11) scCollect.nd rfl (Or.inl rfl)) (fun _ _ _ _ _ => pts_nil) (fun _ _ _ _ _ => pe_meth (pv 0) M.cl M.mJ M.gJ hr M.bJ .nil pass0 (pa_cons (pv 7) (pa_cons (pv 11) pa_nil)))) iop_ext)))
        (pss_cons (ps_set (i := 5) scCollect.nd rfl (.inl rfl) (pe_callB call_len_seq (by rfl) B.len PySem.boot_len (pa_cons (pv 8) pa_nil)))
        (pss_one (ps_set (i := 6) scCollect.nd rfl (.inl rfl) (pe_anyNot (i := 3) hr (by rfl) B.any TB rfl ⟨rfl, rfl, by decide +kernel, by decide +kernel, by decide +kernel, ?_⟩ (pv 4) rfl rfl (by decide +kernel) (by rfl) (fun _ => rfl)))))))))))
      (pss_one (ps_ret (pe_callTy (kd.list rfl) (by rfl) B.list (by decide +kernel) (pa_cons (pv 3) pa_nil)))))))), ?_⟩
    · intro y hy hf
      have hy' : y ∈ ([((".0" : Str), NameKind.local), ("x", NameKind.local), ("found", NameKind.free)] : List (Str × NameKind)) := hy
      simp only [List.mem_cons, List.not_mem_nil, or_false] at hy'
      rcases hy' with e | e | e <;> subst e
      · cases hf
      · cases hf
      · exact cell_has rfl
    -- found = {table.empty(): 0}
    refine fun d hd0 => ⟨_, rfl, t, dx, fs, rfl, (upd_ne (ne_of_none hins hd0)).trans hins, nE, t, rfl, M.mono (same_upd hd0).kp hAt, fun ve H1 s1 re => ⟨s1 _ _ upd_same, T.e, re, ?_⟩⟩
    have sH1 : Same H (upd H1 d (kd.ho [(T.e, .int 0)])) := ((same_upd hd0).trans s1).upd0 hd0
    generalize hH2 : upd H1 d (kd.ho [(T.e, .int 0)]) = H2 at sH1 ⊢
    have hd2 : H2 d = some (kd.ho [(T.e, .int 0)]) := by rw [← hH2]; exact upd_same
    have ndt : ∀ kvs ps, kd.ho kvs ≠ HO.tbl ps := fun kvs ps z => by have := kd.mtb kvs; rw [z] at this; exact this
    -- made = [table.letter(a) for a in range(count)]
    refine ⟨_, rfl, (n : Int), rfl, by omega, by omega, fun m hm => ?_⟩
    refine lc_it (walk_range (lo := 0) (n := n)) (fun i H' => Same H2 H' ∧ ∃ us, H' m = some (.lst us) ∧ Reps kd H' ((List.range i).map T.l) us) ⟨same_upd hm, [], upd_same, .nil⟩ (fun _ _ _ _ => trivial) ?_ ?_
    · rintro i x H3 H4 hi ⟨s3, us, hm3, r3⟩ ⟨rfl, rfl⟩
      obtain ⟨dx1, fs1, hi1, n1, n2, n3, n4⟩ := M.ins (M.mono (sH1.trans s3).kp hAt)
      refine lc_yes rfl ?_
      refine ⟨_, rfl, t, dx1, fs1, rfl, hi1, n2, _, rfl, t, i, by simp, M.mono (sH1.trans s3).kp hAt, hi, fun v H5 s5 r5 => ?_⟩
      have hm5 := s5 _ _ hm3
      have tu : Tups H5 (upd H5 m (.lst (us ++ [v]))) := tups_upd fun xs z => by rw [hm5] at z; cases z
      refine ⟨us, hm5, ?_, (s3.trans s5).upd0 hm, us ++ [v], upd_same, ?_⟩
      · have := Paired.length r3
        rw [List.length_map, List.length_range] at this
        rw [sizeLine_eq]; omega
      · rw [List.range_succ, List.map_append]
        exact Paired.appR (Reps.tups (s5.tups.trans tu) r3) (.cons (kd.tups tu r5) .nil)
    rintro H3 ⟨s3, us, hm3, r3⟩
    have hm0 : H m = none := sH1.free hm
    -- while more
    refine ⟨fun μ σ H' => ∃ m old more a b c e g kvs mL ms, σ = sigC t d m n most old more a b c e g ∧ AtWhile kd T n N Pt D H t d m most old more kvs mL ms H' ∧ μ = lmeas N (kvs.map (·.1)) mL more,
      ⟨_, m, 0, true, none, none, none, none, none, [(T.e, .int 0)], lets T n, us, rfl, ?_, rfl⟩, ?_⟩
    · refine ⟨(sH1.trans s3).kp, tabG_same hTg (sH1.trans s3), hd0, s3 _ _ hd2, hm0, hm3, r3, by simp, ?_, ?_, by simp, ?_, Loop.start T n⟩
      · intro x hx
        simp at hx
        rw [hx]; exact M.dE_
      · intro x hx
        obtain ⟨a, ha, rfl⟩ := List.mem_map.mp hx
        exact M.dL_ a (List.mem_range.mp ha)
      · show ((List.range n).map T.l).length ≤ _
        rw [List.length_map, List.length_range]; omega
    rintro μ σ H4 ⟨m, old, more, va, vb, vc, ve, vg, kvs, mL, ms, rfl, W, rfl⟩
    refine ⟨_, rfl, more, rfl, ?_⟩
    cases more with
    | false =>
      refine iteF ⟨_, rfl, d, kvs, rfl, W.hd, fun q us hq hp => ?_⟩
      exact k _ q _ us (W.kp.upd0 (W.kp.free hq)) (tabG_upd W.tg (tab_ne0 W.tg hq)) (W.kp.free hq) upd_same (Reps.tups (same_upd hq).tups hp) (W.lo.no rfl)
    | true =>
      refine iteT ⟨fun σ' H' => ∃ m' old' more' a b c e g kvs' mL' ms', σ' = sigC t d m' n most old' more' a b c e g ∧ AtWhile kd T n N Pt D H t d m' most old' more' kvs' mL' ms' H' ∧ lmeas N (kvs'.map (·.1)) mL' more' < lmeas N (kvs.map (·.1)) mL true,
        fun σ' H' ⟨m', old', more', a, b, c, e, g, kvs', mL', ms', e1, e2, e3⟩ => ⟨_, e3, m', old', more', a, b, c, e, g, kvs', mL', ms', e1, e2, rfl⟩, ?_⟩
      -- for x in made
      refine ⟨_, rfl, m, rfl, ⟨_, SqL.of W.hm⟩, for_it (walk_list (xs := ms)) (fun i σ H' => ∃ a kvs1, σ = sigC t d m n most old true a vb vc ve vg ∧ Kp H H' ∧ GxR.TabG H' Pt ∧ H' d = some (kd.ho kvs1) ∧ kvs1.map (·.1) = adds (kvs.map (·.1)) (mL.take i) ∧ H' m = some (.lst ms) ∧ Reps kd H' mL ms)
        ⟨va, kvs, rfl, W.kp, W.tg, W.hd, rfl, W.hm, W.re⟩ (fun i σ H' _ ⟨_, _, _, _, _, _, _, h, _⟩ => SqL.of h) ?_ ?_⟩
      · rintro i x σ H5 H6 hi ⟨a, kvs1, rfl, kp5, tg5, hd5, ek5, hm5, re5⟩ ⟨rfl, hx⟩
        obtain ⟨y, hy, ry⟩ := Paired.getR re5 hx
        refine ⟨_, rfl, _, rfl, d, valV kvs1 y, rfl, kd.get hd5 ry, _, rfl, ?_⟩
        rw [mem_valV]
        by_cases hmem : y ∈ kvs1.map (·.1)
        · rw [decide_eq_true hmem]
          refine iteF ?_
          refine ⟨some x, kvs1, rfl, kp5, tg5, hd5, ?_, hm5, re5⟩
          rw [take_snoc hy, adds_snoc, if_pos (by rw [← ek5]; exact hmem)]
          exact ek5
        · rw [decide_eq_false hmem]
          refine iteT ?_
          have hlt : kvs1.length < sizeLine := by
            have h1 := congrArg List.length ek5
            rw [List.length_map] at h1
            have h2 := adds_len_le (kvs.map (·.1)) (mL.take i)
            have h3 := W.fl
            have h4 := W.ml
            rw [List.length_take] at h2
            rw [sizeLine_eq]
            omega
          refine ⟨_, rfl, d, kvs1, rfl, hd5, _, rfl, _, rfl, d, _, rfl, kd.put hd5 ry hlt (valV_none hmem), ?_⟩
          have ndm : m ≠ d := ne_of hm5 hd5 (fun z => kd.nl _ _ z.symm)
          have tu : Tups H6 (upd H6 d (kd.ho (kvs1 ++ [(y, .int ((kvs1.length : Nat) : Int))]))) := tups_upd fun xs z => by rw [hd5] at z; exact kd.nt _ _ (Option.some.inj z)
          refine ⟨some x, _, rfl, kp5.upd0 W.d0, tabG_upd tg5 (tab_ne tg5 hd5 (ndt _)), upd_same, ?_, (upd_ne ndm).trans hm5, Reps.tups tu re5⟩
          rw [take_snoc hy, adds_snoc, if_neg (by rw [← ek5]; exact hmem), List.map_append, ek5]
          rfl
      rintro σ H5 ⟨a, kvs1, rfl, kp5, tg5, hd5, ek5, hm5, re5⟩
      have hll := Paired.length re5
      rw [← hll, List.take_length] at ek5
      have hlenN : (kvs1.map (·.1)).length ≤ N := by rw [ek5]; exact W.lo.len hN
      have hlenN' : kvs1.length ≤ N := by rw [List.length_map] at hlenN; exact hlenN
      -- if len(found) > most
      refine ⟨_, rfl, d, kvs1, rfl, hd5, _, rfl, ((kvs1.length : Nat) : Int), (most : Int), rfl, rfl, _, rfl, ?_⟩
      rw [decide_eq_false (by omega)]
      refine iteF ?_
      -- known = list(found)
      refine ⟨_, rfl, d, kvs1, rfl, hd5, fun q ks hq rq => ?_⟩
      -- made = []
      refine ⟨Nat.zero_le _, fun m2 hm2 => ?_⟩
      have sH7 : Same H5 (upd (upd H5 q (.lst ks)) m2 (.lst [])) := (same_upd hq).trans (same_upd hm2)
      have hq0 : H q = none := kp5.free hq
      have hm20 : H m2 = none := kp5.free ((same_upd hq).free hm2)
      have nqm : q ≠ m2 := fun z => by rw [← z, upd_same] at hm2; cases hm2
      generalize hL : kvs1.map (·.1) = L at rq ek5 hlenN
      have hLD : ∀ x ∈ L, D x := by rw [ek5]; exact adds_D W.fd W.md
      have hlk : L.length = ks.length := Paired.length rq
      refine ⟨_, rfl, q, ks, rfl, SqL.of ((upd_ne nqm).trans upd_same), for_it (walk_enum (xs := ks)) (fun i σ H' => ∃ a c' us2, σ = sigC t d m2 n most old true a (some (.ref q)) c' ve vg ∧ Kp H H' ∧ GxR.TabG H' Pt ∧ H' d = some (kd.ho kvs1) ∧ H' q = some (.lst ks) ∧ Reps kd H' L ks ∧ H' m2 = some (.lst us2) ∧ Reps kd H' (madeN T L old i) us2)
        ⟨a, vc, [], rfl, kp5.trans sH7.kp, tabG_same tg5 sH7, sH7 _ _ hd5, (upd_ne nqm).trans upd_same, Reps.tups sH7.tups rq, upd_same, .nil⟩ (fun i σ H' _ ⟨_, _, _, _, _, _, _, h, _⟩ => SqL.of h) ?_ ?_⟩
      · rintro i v σ H8 H9 hi ⟨a2, c2, us2, rfl, kp8, tg8, hd8, hq8, rk8, hm8, ru8⟩ ⟨T0, x1, x2, rfl, nT, rfl, hx1, hx2⟩
        cases hx1
        have sT : Same H8 (upd H8 T0 (.tup [.int (i : Nat), x2])) := same_upd nT
        obtain ⟨x, hx, rx⟩ := Paired.getR rk8 hx2
        have hiL : L[i]? = some x := hx
        refine ⟨T0, _, rfl, SqT.of upd_same, rfl, _, [x2], rfl, x2, [], rfl, rfl, ?_⟩
        generalize hH9 : upd H8 T0 (.tup [.int (i : Nat), x2]) = H9 at sT ⊢
        -- what the comprehension leaves
        have fin : ∀ (ys : List α) (H10 : Hp), Same H9 H10 → ys = (if i < old then L.drop old else L) → ∀ H' D' us, Same H10 H' → H10 D' = none → H' D' = some (.lst us) → Reps kd H' (ys.map (T.j x)) us →
            ∃ l b xs zs, V.ref m2 = .ref l ∧ V.ref D' = .ref b ∧ H' l = some (.lst xs) ∧ H' b = some (.lst zs) ∧ xs.length + zs.length ≤ sizeLine ∧
              ∃ a c' us2, (sigC t d m2 n most old true (some x2) (some (.ref q)) (some (.int (i : Nat))) ve vg).set 4 (some (V.ref l)) = sigC t d m2 n most old true a (some (.ref q)) c' ve vg ∧ Kp H (upd H' l (.lst (xs ++ zs))) ∧ GxR.TabG (upd H' l (.lst (xs ++ zs))) Pt ∧ upd H' l (.lst (xs ++ zs)) d = some (kd.ho kvs1) ∧ upd H' l (.lst (xs ++ zs)) q = some (.lst ks) ∧ Reps kd (upd H' l (.lst (xs ++ zs))) L ks ∧ upd H' l (.lst (xs ++ zs)) m2 = some (.lst us2) ∧ Reps kd (upd H' l (.lst (xs ++ zs))) (madeN T L old (i + 1)) us2 := by
          intro ys H10 s10 ey H' D' us s' hD' hu ru
          have sA : Same H8 H' := (sT.trans s10).trans s'
          have hm' := sA _ _ hm8
          have tu : Tups H' (upd H' m2 (.lst (us2 ++ us))) := tups_upd fun xs z => by rw [hm'] at z; cases z
          have e1 := Paired.length ru8
          have e2 := Paired.length ru
          have e3 := madeN_len T L old i
          have hi' : i < L.length := by rw [hlk]; exact hi
          have e4 : ys.length ≤ L.length := by
            rw [ey]; split
            · rw [List.length_drop]; omega
            · exact Nat.le_refl _
          have e5 : i * L.length ≤ 300 * 300 := Nat.mul_le_mul (by omega) (by omega)
          have nqm2 : q ≠ m2 := nqm
          have ndm2 : d ≠ m2 := ne_of hd8 hm8 (kd.nl _ _)
          refine ⟨m2, D', us2, us, rfl, rfl, hm', hu, by rw [sizeLine_eq]; rw [List.length_map] at e2; omega, some x2, some (.int (i : Nat)), us2 ++ us, rfl, (kp8.trans sA.kp).upd0 hm20, tabG_upd (tabG_same tg8 sA) (tab_ne (tabG_same tg8 sA) hm' (fun _ z => nomatch z)), (upd_ne ndm2).trans (sA _ _ hd8), (upd_ne nqm2).trans (sA _ _ hq8), Reps.tups (sA.tups.trans tu) rk8, upd_same, ?_⟩
          rw [madeN_succ T L old i x hiL]
          rw [ey] at ru
          exact Paired.appR (Reps.tups (sA.tups.trans tu) ru8) (Reps.tups tu ru)
        have w1 : ∀ v, ((wipe (sigC t d m2 n most old true (some x2) (some (.ref q)) (some (.int (i : Nat))) ve vg) [11]).set 11 (some v))[0]? = some (some (.ref t)) := fun _ => rfl
        refine ⟨_, rfl, _, rfl, _, rfl, (i : Int), (old : Int), rfl, rfl, _, rfl, ite2 (fun hlt => ?_) (fun hge => ?_)⟩
        · have hlt' : i < old := by have := of_decide_eq_true hlt; omega
          refine ⟨_, rfl, _, rfl, _, rfl, q, ks, rfl, SqL.of (sT _ _ hq8), fun l hl => ?_⟩
          rw [cutV_drop]
          have s10 : Same H9 (upd H9 l (.lst (ks.drop old))) := same_upd hl
          refine join_comp M (x := x) (vx := x2) (ys := L.drop old) w1 (fun _ => rfl) (fun _ => rfl) (fun _ => rfl) upd_same (Reps.tups (sT.tups.trans s10.tups) (Paired.dropR old rk8)) (M.mono (kp8.trans (sT.trans s10).kp) hAt) (kd.tups (sT.tups.trans s10.tups) rx) (hLD x (List.mem_of_getElem? hiL)) (fun y hy => hLD y (List.mem_of_mem_drop hy)) (by rw [List.length_drop, sizeLine_eq]; omega) ?_
          exact fin (L.drop old) _ s10 (by rw [if_pos hlt'])
        · have hge' : ¬ i < old := fun z => hge (decide_eq_true (by omega))
          refine ⟨_, rfl, ?_⟩
          refine join_comp M (x := x) (vx := x2) (ys := L) w1 (fun _ => rfl) (fun _ => rfl) (fun _ => rfl) (sT _ _ hq8) (Reps.tups sT.tups rk8) (M.mono (kp8.trans sT.kp) hAt) (kd.tups sT.tups rx) (hLD x (List.mem_of_getElem? hiL)) hLD (by rw [sizeLine_eq]; omega) ?_
          exact fin L _ (Same.refl _) (by rw [if_neg hge'])
      · rintro σ H8 ⟨a2, c2, us2, rfl, kp8, tg8, hd8, hq8, rk8, hm8, ru8⟩
        rw [← hlk, madeN_all] at ru8
        -- old = len(known)
        refine ⟨_, rfl, q, ks, rfl, .inl (SqL.of hq8), ?_⟩
        -- more = any(x not in found for x in made)
        have hf : ∀ y v, kd.rep H8 y v → DGet H8 d v (valV kvs1 y) := fun y v r => kd.get hd8 r
        classical
        let f : V → Option V := fun v => if h : ∃ y, kd.rep H8 y v then valV kvs1 h.choose else none
        have hf2 : ∀ y v, kd.rep H8 y v → f v = valV kvs1 y := fun y v r => by
          have h : ∃ y, kd.rep H8 y v := ⟨y, r⟩
          show (if h : ∃ y, kd.rep H8 y v then valV kvs1 h.choose else none) = _
          rw [dif_pos h, kd.inj h.choose_spec r]
        refine ⟨_, rfl, m2, us2, d, f, rfl, SqL.of hm8, rfl, fun v hv => ?_, tg8, fun H9 ht => ?_⟩
        · obtain ⟨j, hj⟩ := List.mem_iff_getElem?.mp hv
          obtain ⟨y, _, r⟩ := Paired.getR ru8 hj
          rw [hf2 y v r]
          exact hf y v r
        · rw [any_reps ru8 hf2, hL]
          have kp9 : Kp H8 H9 := kp_tab tg8 ht
          have lo := W.lo.next
          rw [← ek5] at lo
          have fa := W.lo.falls hN
          rw [← ek5] at fa
          refine ⟨m2, L.length, (madeP T L old).any fun x => decide (x ∉ L), a2, some (.ref q), c2, ve, vg, kvs1, madeP T L old, us2, ?_, ⟨kp8.trans kp9, ht.1, W.d0, ?_, hm20, kp9.lst hm8, Reps.tups kp9.tups ru8, ?_, ?_, ?_, ?_, ?_, ?_⟩, ?_⟩
          · rw [hlk]; rfl
          · exact kp9.get hd8 (ndt _)
          · rw [hL, ek5]; exact adds_nodup W.nd
          · rw [hL]; exact hLD
          · intro x hx
            unfold madeP at hx
            obtain ⟨p, hp, hx⟩ := List.mem_flatMap.mp hx
            obtain ⟨y, hy, rfl⟩ := List.mem_map.mp hx
            have hp1 : p.1 ∈ L := by
              have := List.mem_zipIdx hp
              rw [this.2.2]
              exact List.getElem_mem _
            refine M.dJ_ _ _ (hLD _ hp1) (hLD _ ?_)
            split at hy
            · exact List.mem_of_mem_drop hy
            · exact hy
          · rw [hL]; omega
          · have e3 := madeN_len T L old L.length
            rw [madeN_all] at e3
            have e5 : L.length * L.length ≤ 300 * 300 := Nat.mul_le_mul (by omega) (by omega)
            omega
          · rw [hL]; exact lo
          · rw [hL]; exact fa
end
end My
end

section
/-! Tables as they are asked for; comprehensions that only make; tabled. -/
namespace My
open PySem PySem.Spec PyProof.Rows L2
theorem IsTab.kp {C : Addr} {H H' : Hp} {t : Addr} {R : Rdr} (s : Kp H H') (h : IsTab C H t R) : IsTab C H' t R := by
  obtain ⟨dx, r, h1, h2⟩ := h
  exact ⟨dx, r, s.get h1 (fun _ z => nomatch z), h2.tups s.tups⟩
theorem IsPairs.kp {CT C : Addr} {H H' : Hp} {t : Addr} {R B : Rdr} (s : Kp H H') (h : IsPairs CT C H t R B) : IsPairs CT C H' t R B := by
  obtain ⟨dx, a, b, h1, h2, h3⟩ := h
  exact ⟨dx, a, b, s.get h1 (fun _ z => nomatch z), h2.kp s, h3.kp s⟩
theorem IsLd.kp {C : Addr} {H H' : Hp} {t : Addr} {R : Rdr} {c : List Nat} (s : Kp H H') (h : IsLd C H t R c) : IsLd C H' t R c := by
  obtain ⟨dx, r, l, h1, h2, h3⟩ := h
  exact ⟨dx, r, l, s.get h1 (fun _ z => nomatch z), h2.tups s.tups, s.lst h3⟩
/-- the class Pairs, as the top has made it -/
structure PP (P : Program) (w : World) (K : PySem.W.Frag) (mg : Str → Option Value) (base : Heap) (T : TT P w K mg base) where
  C : Addr
  fI : Addr
  fE : Addr
  fL : Addr
  fJ : Addr
  fA : Addr
  dI : FuncData
  dE : FuncData
  dL : FuncData
  dJ : FuncData
  dA : FuncData
  k : PKl K C
  mgC : mg "Pairs" = some (.ref C)
  M : Mk K C fI
  gI : FnOk P w K mg base CX0 3 fI dI ["self", "kind", "first", "second"] (spPInit T.C C)
  bI : Binds K dI ["self", "kind", "first", "second"] []
  mE : Meth K C "empty" fE
  gE : FnOk P w K mg base CX0 2 fE dE ["self"] (spPEmpty T.C C)
  bE : Binds K dE ["self"] []
  mL : Meth K C "letter" fL
  gL : FnOk P w K mg base CX0 2 fL dL ["self", "a"] (spPLetter T.C C)
  bL : Binds K dL ["self", "a"] []
  mJ : Meth K C "join" fJ
  gJ : FnOk P w K mg base CX0 2 fJ dJ ["self", "x", "y"] (spPJoin T.C C)
  bJ : Binds K dJ ["self", "x", "y"] []
  mA : Meth K C "is_accepted" fA
  gA : FnOk P w K mg base CX0 2 fA dA ["self", "x"] (spPAcc T.C C)
  bA : Binds K dA ["self", "x"] []
/-- the class Leaders; is_accepted is Table's -/
structure LL (P : Program) (w : World) (K : PySem.W.Frag) (mg : Str → Option Value) (base : Heap) (T : TT P w K mg base) where
  C : Addr
  fI : Addr
  fE : Addr
  fL : Addr
  fJ : Addr
  dI : FuncData
  dE : FuncData
  dL : FuncData
  dJ : FuncData
  k : LKl K C
  mgC : mg "Leaders" = some (.ref C)
  M : Mk K C fI
  gI : FnOk P w K mg base CX0 2 fI dI ["self", "reader", "leading"] (spLInit C)
  bI : Binds K dI ["self", "reader", "leading"] []
  mE : Meth K C "empty" fE
  gE : FnOk P w K mg base CX0 1 fE dE ["self"] (spLEmpty C)
  bE : Binds K dE ["self"] []
  mL : Meth K C "letter" fL
  gL : FnOk P w K mg base CX0 1 fL dL ["self", "a"] (spLLetter C)
  bL : Binds K dL ["self", "a"] []
  mJ : Meth K C "join" fJ
  gJ : FnOk P w K mg base CX0 1 fJ dJ ["self", "x", "y"] (spLJoin C)
  bJ : Binds K dJ ["self", "x", "y"] []
  mA : Meth K C "is_accepted" T.fA
section
variable {P : Program} {w : World} {K : PySem.W.Frag} {mg : Str → Option Value} {base : Heap}
def mTab (T : TT P w K mg base) {n : Nat} {R : Rdr} (V : Shape n R) : Meths P w K mg base kInt R.tab n (· < R.m.length) where
  C := T.C
  fE := T.fE
  fL := T.fL
  fJ := T.fJ
  fA := T.fA
  dE := T.dE
  dL := T.dL
  dJ := T.dJ
  dA := T.dA
  At := fun H t => IsTab T.C H t R
  ins := fun {H t} h => by
    obtain ⟨dx, r, h1, h2⟩ := h
    exact ⟨dx, _, h1, no_empty r, no_letter r, no_join r, no_acc r⟩
  mono := fun s h => h.kp s
  cl := T.cl
  mE := T.mE
  gE := (T.gE.mono (by decide)).imp fun vs H Q E ⟨t, e, h, k⟩ => ⟨t, R, e, h.has, k _ _ (Same.refl _) rfl⟩
  bE := T.bE
  mL := T.mL
  gL := (T.gL.mono (by decide)).imp fun vs H Q E ⟨t, a, e, h, ha, k⟩ => ⟨t, R, a, e, h.has, by rw [V.ln]; exact ha, k _ _ (Same.refl _) rfl⟩
  bL := T.bL
  mJ := T.mJ
  gJ := (T.gJ.mono (by decide)).imp fun vs H Q E ⟨t, x, y, vx, vy, e, h, hx, hy, dx, dy, k⟩ => by
    cases (show vx = iv x from hx)
    cases (show vy = iv y from hy)
    exact ⟨n, t, R, x, y, e, h.has, V, dx, dy, k _ _ (Same.refl _) rfl⟩
  bJ := T.bJ
  mA := T.mA
  gA := (T.gA.mono (by decide)).imp fun vs H Q E ⟨t, x, vx, e, h, hx, k⟩ => by
    cases (show vx = iv x from hx)
    exact ⟨t, R, x, e, h.has, k⟩
  bA := T.bA
  dE_ := V.e
  dL_ := fun a ha => V.lt ha
  dJ_ := fun x y hx hy => V.jt hx hy
def mPairs (T : TT P w K mg base) (G : PP P w K mg base T) {n : Nat} {R B : Rdr} (V : Shape n R) (W : Shape n B) : Meths P w K mg base kPair (pairTab R B) n (fun x => x.1 < R.m.length ∧ x.2 < B.m.length) where
  C := G.C
  fE := G.fE
  fL := G.fL
  fJ := G.fJ
  fA := G.fA
  dE := G.dE
  dL := G.dL
  dJ := G.dJ
  dA := G.dA
  At := fun H t => IsPairs T.C G.C H t R B
  ins := fun {H t} h => by
    obtain ⟨dx, a, b, h1, h2, h3⟩ := h
    exact ⟨dx, _, h1, fsP_no a b (by decide +kernel) (by decide +kernel) (by decide +kernel), fsP_no a b (by decide +kernel) (by decide +kernel) (by decide +kernel), fsP_no a b (by decide +kernel) (by decide +kernel) (by decide +kernel), fsP_no a b (by decide +kernel) (by decide +kernel) (by decide +kernel)⟩
  mono := fun s h => h.kp s
  cl := G.k.cl
  mE := G.mE
  gE := G.gE.imp fun vs H Q E ⟨t, e, h, k⟩ => ⟨t, R, B, e, h, k⟩
  bE := G.bE
  mL := G.mL
  gL := G.gL.imp fun vs H Q E ⟨t, a, e, h, ha, k⟩ => ⟨t, R, B, a, e, h, by rw [V.ln]; exact ha, by rw [W.ln]; exact ha, k⟩
  bL := G.bL
  mJ := G.mJ
  gJ := G.gJ.imp fun vs H Q E ⟨t, x, y, vx, vy, e, h, hx, hy, dx, dy, k⟩ => ⟨n, t, R, B, x, y, vx, vy, e, h, hx, hy, V, W, dx, dy, k⟩
  bJ := G.bJ
  mA := G.mA
  gA := G.gA.imp fun vs H Q E ⟨t, x, vx, e, h, hx, k⟩ => ⟨t, R, B, x, vx, e, h, hx, k⟩
  bA := G.bA
  dE_ := ⟨V.e, W.e⟩
  dL_ := fun a ha => ⟨V.lt ha, W.lt ha⟩
  dJ_ := fun x y hx hy => ⟨V.jt hx.1 hy.1, W.jt hx.2 hy.2⟩
def mLead (T : TT P w K mg base) (G : LL P w K mg base T) {n : Nat} {S : Rdr} {c : List Nat} (V : Shape n S) (hc : c.length = S.m.length) (hb : ∀ x, x < S.m.length → c.getD x 0 < S.m.length) : Meths P w K mg base kInt (leadTab S c) n (· < S.m.length) where
  C := G.C
  fE := G.fE
  fL := G.fL
  fJ := G.fJ
  fA := T.fA
  dE := G.dE
  dL := G.dL
  dJ := G.dJ
  dA := T.dA
  At := fun H t => IsLd G.C H t S c
  ins := fun {H t} h => by
    obtain ⟨dx, r, l, h1, h2⟩ := h
    exact ⟨dx, _, h1, fsL_no r l (by decide +kernel) (by decide +kernel), fsL_no r l (by decide +kernel) (by decide +kernel), fsL_no r l (by decide +kernel) (by decide +kernel), fsL_no r l (by decide +kernel) (by decide +kernel)⟩
  mono := fun s h => h.kp s
  cl := G.k.cl
  mE := G.mE
  gE := (G.gE.mono (by decide)).imp fun vs H Q E ⟨t, e, h, k⟩ => ⟨t, S, c, e, h, by rw [hc]; exact V.e, k _ _ (Same.refl _) rfl⟩
  bE := G.bE
  mL := G.mL
  gL := (G.gL.mono (by decide)).imp fun vs H Q E ⟨t, a, e, h, ha, k⟩ => ⟨t, S, c, a, e, h, by rw [V.ln]; exact ha, by rw [hc]; exact V.lt ha, k _ _ (Same.refl _) rfl⟩
  bL := G.bL
  mJ := G.mJ
  gJ := (G.gJ.mono (by decide)).imp fun vs H Q E ⟨t, x, y, vx, vy, e, h, hx, hy, dx, dy, k⟩ => by
    cases (show vx = iv x from hx)
    cases (show vy = iv y from hy)
    exact ⟨n, t, S, c, x, y, e, h, V, dx, dy, hc, k _ _ (Same.refl _) rfl⟩
  bJ := G.bJ
  mA := G.mA
  gA := (T.gA.mono (by decide)).imp fun vs H Q E ⟨t, x, vx, e, h, hx, k⟩ => by
    cases (show vx = iv x from hx)
    exact ⟨t, S, x, e, h.has G.k, k⟩
  bA := T.bA
  dE_ := hb _ V.e
  dL_ := fun a ha => hb _ (V.lt ha)
  dJ_ := fun x y hx hy => hb _ (V.jt hx hy)
/-! ### comprehensions that only make -/
theorem lc_fill {β : Type} {J : It} {g : TG} {tt : L2.TT} {te : TE} {vs : List Nat} {σ : L2.St} {H1 : Hp} {D : Addr} {Qd : Hp → Prop} {G : Hp → Prop} {Y : Nat → Hp → V → Hp → Prop} {xs : List β} {n : Nat} (hn : xs.length = n) (w : Walk J n G Y) (p : β → Bool) (rep : Hp → β → V → Prop)
    (mono : ∀ H H' x v, Tups H H' → rep H x v → rep H' x v) (hD : H1 D = none) (hsz : xs.length < sizeLine) (hG : ∀ H', Same H1 H' → G H')
    (hs : ∀ i z x H3 H4 (Ky : V → Hp → Prop) (Kn : Hp → Prop), xs[i]? = some z → Same H1 H3 → Y i H3 x H4 → (p z = true → ∀ y H7, Same H3 H7 → rep H7 z y → Ky y H7) → (p z = false → ∀ H7, Same H3 H7 → Kn H7) →
      g x (wipe σ vs) H4 fun σ2 H5 => wipe σ2 vs = wipe σ vs ∧ tt σ2 H5 fun b H6 => if b = true then te σ2 H6 Ky else Kn H6)
    (hd : ∀ H' us, Same H1 H' → H' D = some (.lst us) → Paired (rep H') (xs.filter p) us → Qd H') :
    Fills J g tt te vs σ H1 D Qd := by
  subst hn
  refine lc_it w (fun i H => Same H1 H ∧ ∃ us, H D = some (.lst us) ∧ Paired (rep H) ((xs.take i).filter p) us) ⟨same_upd hD, [], upd_same, .nil⟩ (fun i H _ h => hG H h.1) ?_ ?_
  · rintro i x H3 H4 hi ⟨s3, us, hu, r3⟩ y
    have hx : xs[i]? = some xs[i] := List.getElem?_eq_getElem hi
    refine hs i xs[i] x H3 H4 _ _ hx s3 y (fun hp v H7 s7 rv => ?_) (fun hp H7 s7 => ?_)
    · have hu7 := s7 _ _ hu
      have tu : Tups H7 (upd H7 D (.lst (us ++ [v]))) := tups_upd fun xs z => by rw [hu7] at z; cases z
      refine ⟨us, hu7, ?_, (s3.trans s7).upd0 hD, us ++ [v], upd_same, ?_⟩
      · have e1 := Paired.length r3
        have e2 := List.length_filter_le p (xs.take i)
        rw [List.length_take] at e2
        omega
      · rw [take_snoc hx, List.filter_append, show ([xs[i]] : List β).filter p = [xs[i]] by simp [hp]]
        exact Paired.appR (Paired.mapP r3 fun _ _ r => mono _ _ _ _ (s7.tups.trans tu) r) (.cons (mono _ _ _ _ tu rv) .nil)
    · refine ⟨s3.trans s7, us, s7 _ _ hu, ?_⟩
      rw [take_snoc hx, List.filter_append, show ([xs[i]] : List β).filter p = [] by simp [hp], List.append_nil]
      exact Paired.mapP r3 fun _ _ r => mono _ _ _ _ s7.tups r
  · rintro H3 ⟨s3, us, hu, r3⟩
    rw [List.take_length] at r3
    exact hd H3 us s3 hu r3
end
end My
end

section
/-! tabled. -/
namespace My
open PySem PySem.Spec PyProof.Rows L2
def asgV : Stmt → Expr
  | .Assign _ e _ => e
  | .Return (some e) _ => e
  | _ => .Name "x" ⟨0, 0, 0, 0⟩
def callA : Expr → Nat → Expr
  | .Call _ as _ _, i => as.getD i (.Name "x" ⟨0, 0, 0, 0⟩)
  | .Tuple as _ _, i => as.getD i (.Name "x" ⟨0, 0, 0, 0⟩)
  | e, _ => e
def compSc : Expr → Scope
  | .ListComp _ _ s _ => s
  | _ => defScope sTabled
def compElt : Expr → Expr
  | .ListComp e _ _ _ => e
  | e => e
/-- the scope of a comprehension, as it stands within sc -/
def rel (scope sc : Scope) : Scope := relabel scope { scope := sc, locals := 0, globals := 0, cells := [] }
/-! ### rules that name K, for use within comprehensions -/
section
variable {X : Cx}
def rTupOf (K : PySem.W.Frag) : List V → Hp → VK → Prop := fun xs H Q => ∃ p ys, xs = [.ref p] ∧ ((SqL K H p ys ∧ ∀ l, H l = none → Q (.ref l) (upd H l (.tup ys))) ∨ (SqT K H p ys ∧ Q (.ref p) H))
def rLenOf (K : PySem.W.Frag) : List V → Hp → VK → Prop := fun xs H Q => ∃ p ys, xs = [.ref p] ∧ (SqL K H p ys ∨ SqT K H p ys) ∧ Q (.int ys.length) H
theorem call_tupK (K : PySem.W.Frag) (h : X.K = K) : CallR X (.type "tuple") (rTupOf K) := by subst h; exact call_tuple_of
theorem call_lenK (K : PySem.W.Frag) (h : X.K = K) : CallR X (.builtin "len") (rLenOf K) := by subst h; exact call_len_seq
theorem ix_tupK (K : PySem.W.Frag) (h : X.K = K) : IxR X (rIxT K) := by subst h; exact ix_tup
theorem ix_listK (K : PySem.W.Frag) (h : X.K = K) : IxR X (rIxL K) := by subst h; exact ix_list
theorem pi_listK (K : PySem.W.Frag) (h : X.K = K) {tg l : Expr} {tl : TE} (hl : PE X l tl) : PI X tg l (iList K tl) := by subst h; exact pi_list hl
theorem pi_tupK (K : PySem.W.Frag) (h : X.K = K) {tg l : Expr} {tl : TE} (hl : PE X l tl) : PI X tg l (iTup K tl) := by subst h; exact pi_tup hl
theorem op_inK (K : PySem.W.Frag) (h : X.K = K) : OpR X (compareOp .In) (rIn K false) := by subst h; exact op_in_seq
end
section
variable {α : Type} [DecidableEq α]
def numsK (L : List α) (k : Nat) : List (α × V) := (L.zipIdx k).map fun p => (p.1, iv p.2)
def numb (L : List α) : List (α × V) := numsK L 0
theorem numsK_val : ∀ (L : List α) (k : Nat) {x : α}, x ∈ L → valV (numsK L k) x = some (iv (L.idxOf x + k))
  | a :: L, k, x, h => by
    unfold numsK
    rw [List.zipIdx_cons, List.map_cons]
    by_cases e : a = x
    · subst e
      rw [valV_pos rfl]
      simp
    · rw [valV_neg e]
      have h' : x ∈ L := by
        rcases List.mem_cons.mp h with q | q
        · exact absurd q.symm e
        · exact q
      have := numsK_val L (k + 1) h'
      unfold numsK at this
      rw [this, List.idxOf_cons, beq_eq_false_iff_ne.mpr e, show L.idxOf x + (k + 1) = L.idxOf x + 1 + k by omega]
      rfl
theorem numb_val {L : List α} {x : α} (h : x ∈ L) : valV (numb L) x = some (iv (L.idxOf x)) := numsK_val L 0 h
theorem numsK_keys : ∀ (L : List α) (k : Nat), (numsK L k).map (·.1) = L
  | [], _ => rfl
  | a :: L, k => by
    unfold numsK
    rw [List.zipIdx_cons, List.map_cons, List.map_cons]
    have := numsK_keys L (k + 1)
    unfold numsK at this
    rw [this]
theorem numb_keys (L : List α) : (numb L).map (·.1) = L := numsK_keys L 0
theorem numb_len (L : List α) : (numb L).length = L.length := by
  have := congrArg List.length (numb_keys L)
  rwa [List.length_map] at this
theorem numb_snoc (L : List α) (x : α) : numb (L ++ [x]) = numb L ++ [(x, iv L.length)] := by
  unfold numb numsK
  rw [List.zipIdx_append, List.map_append]
  simp
theorem nodup_take {L : List α} (h : L.Nodup) {i : Nat} {x : α} (hx : L[i]? = some x) : x ∉ L.take i := by
  intro hm
  obtain ⟨j, hj, e⟩ := List.mem_take_iff_getElem.mp hm
  obtain ⟨hi, e2⟩ := List.getElem?_eq_some_iff.mp hx
  have h1 := List.Nodup.idxOf_getElem h i hi
  have h2 := List.Nodup.idxOf_getElem h j (by omega)
  rw [e] at h2
  rw [e2] at h1
  omega
end
theorem ivs_of {H : Hp} {β : Type} {f : β → Nat} : ∀ {xs : List β} {us : List V}, Paired (fun x v => v = iv (f x)) xs us → us = ivs (xs.map f)
  | _, _, .nil => rfl
  | _, _, .cons r t => by
    rw [r, ivs_of (H := H) t]; rfl
theorem paired_ivs {H : Hp} : ∀ l : List Nat, Reps kInt H l (ivs l)
  | [] => .nil
  | _ :: l => .cons rfl (paired_ivs l)
theorem paired_mapL {β γ δ : Type} {F : γ → δ → Prop} {f : β → γ} : ∀ {xs : List β} {us : List δ}, Paired (fun x v => F (f x) v) xs us → Paired F (xs.map f) us
  | _, _, .nil => .nil
  | _, _, .cons r t => .cons r (paired_mapL t)
/-- a row: a tuple of numbers -/
def repRow {β : Type} (f : β → List Nat) : Hp → β → V → Prop := fun H x v => ∃ a, v = .ref a ∧ H a = some (.tup (ivs (f x)))
theorem repRow_mono {β : Type} (f : β → List Nat) : ∀ H H' (x : β) v, Tups H H' → repRow f H x v → repRow f H' x v := fun _ _ _ _ t ⟨a, e, q⟩ => ⟨a, e, t _ _ q⟩
section
variable {P : Program} {w : World} {K : PySem.W.Frag} {mg : Str → Option Value} {base : Heap} {α : Type} [DecidableEq α]
theorem IsClo.dom' {T : Tab α} {n : Nat} {D : α → Prop} {L : List α} (C : IsClo T n L) (he : D T.e) (hl : ∀ a, a < n → D (T.l a)) (hj : ∀ x y, D x → D y → D (T.j x y)) : ∀ x ∈ L, D x := C.ind he hl hj
def spTabled (kd : Kind α) (T : Tab α) (n : Nat) (At : Hp → Addr → Prop) : Sp := fun vs H Q _ => ∃ (t p : Addr) (us : List V) (L : List α), vs = [.ref t, iv n, .ref p] ∧ At H t ∧ H p = some (.lst us) ∧ Reps kd H L us ∧ IsClo T n L ∧ L.length ≤ 300 ∧
  ∀ q H', Same H H' → RdAt H' q (tabOf T n L) → Q (.ref q) H'
abbrev nmTabled : List Str := ["table", "count", "found", "numbers", "number", "x", "letters", "mul", "accepted", "a", "y"]
theorem scTabled : FnScope nmTabled ["table", "count", "found"] (defScope sTabled) := ⟨rfl, rfl, rfl, by decide +kernel, rfl, by decide +kernel, by decide +kernel⟩
abbrev scTabledMul : Scope := rel (compSc (callA (asgV ((defBody sTabled).getD 3 (.Pass ⟨0, 0, 0, 0⟩))) 0)) (defScope sTabled)
def sigT (t p d : Addr) (n : Nat) (a b c e g : Option V) : L2.St := [some (.ref t), some (iv n), some (.ref p), some (.ref d), a, b, c, e, g, none, none]
theorem filter_yes {β : Type} (l : List β) : l.filter (fun _ => true) = l := List.filter_eq_self.mpr fun _ _ => rfl
theorem ok_tabled {f : Addr} {fd : FuncData} {n : Nat} {kd : Kind α} {T : Tab α} {D : α → Prop} (F : Fun K "tabled" "tabled" sTabled f fd) (B : Blt mg) (M : Meths P w K mg base kd T n D) (hn : n ≤ 100) :
    FnOk P w K mg base CX0 3 f fd ["table", "count", "found"] (spTabled kd T n M.At) := by
  refine F.ok scTabled (fun vs H Q E h => ?_) (fun cdv A outer s H vs Q E hr h => ?_)
  · obtain ⟨t, p, us, L, rfl, _⟩ := h; rfl
  · obtain ⟨t, p, us, L, rfl, hAt, hp, hus, hC, hL, k⟩ := h
    have hu := hu_of hr
    obtain ⟨dx, fs, hins, nE, nL, nJ, nA⟩ := M.ins hAt
    refine ⟨_, pss_cons (ps_set (i := 3) scTabled.nd rfl (.inr rfl) kd.new)
      (pss_cons (ps_for PassesOwn.never rfl (pi_enum (by rfl) B.enumerate (pa_cons (pv 2) pa_nil)) (pg_tup rfl (pgs_cons (pg_name (i := 4) scTabled.nd rfl (.inl rfl)) (pgs_cons (pg_name (i := 5) scTabled.nd rfl (.inl rfl)) pgs_nil))) (pss_one (ps_dput hu (pv 3) (pv 5) (pv 4) rfl)))
      (pss_cons (ps_set (i := 6) scTabled.nd rfl (.inl rfl) (pe_callTy call_tuple_of (by rfl) B.tuple (by decide +kernel) (pa_cons (pe_lc (own := [("a", 9)]) (g := gName 9) (tt := tYes) rfl scTabled.nd (pi_range1 rfl B.range (pa_cons (pv 1) pa_nil)) (blkOk_by (N := nmTabled) (sc := defScope sTabled) (by decide +kernel)) (fun _ _ _ _ _ => pg_name (i := 9) scTabled.nd rfl (Or.inl rfl)) (fun _ _ _ _ _ => pts_nil)
        (fun _ _ _ _ _ => pe_dget hu (pv 3) (pe_meth (pv 0) M.cl M.mL M.gL hr M.bL .nil pass0 (pa_cons (pv 9) pa_nil)) (fun _ _ => rfl))) pa_nil)))
      (pss_cons (ps_set (i := 7) scTabled.nd rfl (.inl rfl) (pe_callTy call_tuple_of (by rfl) B.tuple (by decide +kernel) (pa_cons (pe_lc (own := [("x", 5)]) (g := gName 5) (tt := tYes) rfl scTabled.nd (pi_list (pv 2)) (blkOk_by (N := nmTabled) (sc := defScope sTabled) (by decide +kernel)) (fun _ _ _ _ _ => pg_name (i := 5) scTabled.nd rfl (Or.inr rfl)) (fun _ _ _ _ _ => pts_nil)
        (fun _ _ _ _ _ => pe_callTy (call_tupK K rfl) (by rfl) B.tuple (by decide +kernel) (pa_cons (pe_lc (own := [("y", 10)]) (g := gName 10) (tt := tYes) rfl scTabled.nd (pi_listK K rfl (pv 2)) (blkOk_by (N := nmTabled) (sc := scTabledMul) (by decide +kernel)) (fun _ _ _ _ _ => pg_name (i := 10) scTabled.nd rfl (Or.inl rfl)) (fun _ _ _ _ _ => pts_nil)
          (fun _ _ _ _ _ => pe_dget hu (pv 3) (pe_meth (pv 0) M.cl M.mJ M.gJ hr M.bJ .nil pass0 (pa_cons (pv 5) (pa_cons (pv 10) pa_nil))) (fun _ _ => rfl))) pa_nil))) pa_nil)))
      (pss_cons (ps_set (i := 8) scTabled.nd rfl (.inl rfl) (pe_callTy call_tuple_of (by rfl) B.tuple (by decide +kernel) (pa_cons (pe_lc (own := [("number", 4), ("x", 5)]) (g := gTup K 2 (gCons (gName 4) (gCons (gName 5) gNil))) rfl scTabled.nd (pi_enum (by rfl) B.enumerate (pa_cons (pv 2) pa_nil)) (blkOk_by (N := nmTabled) (sc := defScope sTabled) (by decide +kernel)) (fun _ _ _ _ _ => pg_tup rfl (pgs_cons (pg_name (i := 4) scTabled.nd rfl (.inl rfl)) (pgs_cons (pg_name (i := 5) scTabled.nd rfl (.inl rfl)) pgs_nil))) (fun _ _ _ _ _ => pts_one (pt_val (pe_meth (pv 0) M.cl M.mA M.gA hr M.bA .nil pass0 (pa_cons (pv 5) pa_nil))))
        (fun _ _ _ _ _ => pv 4)) pa_nil)))
      (pss_one (ps_ret (pe_tup (pa_cons (pe_dget hu (pv 3) (pe_meth0 (pv 0) M.cl M.mE M.gE hr M.bE .nil pass0) (fun _ _ => rfl)) (pa_cons (pv 6) (pa_cons (pv 7) (pa_cons (pv 8) pa_nil))))))))))), ?_⟩
    intro d hd0
    have hd1 : (upd H d (kd.ho [])) d = some (kd.ho (numb (L.take 0))) := upd_same
    have hnd : L.Nodup := hC.nodup
    have hlen := Paired.length hus
    have sz : ∀ {k : Nat}, k ≤ 300 → k < sizeLine := fun h => by rw [sizeLine_eq]; omega
    -- numbers
    refine ⟨_, rfl, p, us, rfl, SqL.of ((same_upd hd0) _ _ hp), for_it (walk_enum (xs := us)) (fun i σ H' => ∃ a b, σ = sigT t p d n a b none none none ∧ Same H H' ∧ H' d = some (kd.ho (numb (L.take i))))
      ⟨none, none, rfl, same_upd hd0, hd1⟩ (fun i σ H' _ ⟨_, _, _, h, _⟩ => SqL.of (h _ _ hp)) ?_ ?_⟩
    · rintro i v σ H8 H9 hi ⟨a2, b2, rfl, s8, hd8⟩ ⟨T0, x1, x2, rfl, nT, rfl, hx1, hx2⟩
      cases hx1
      have sT : Same H8 (upd H8 T0 (.tup [.int (i : Nat), x2])) := same_upd nT
      obtain ⟨x, hx, rx⟩ := Paired.getR hus hx2
      refine ⟨T0, _, rfl, SqT.of upd_same, rfl, _, [x2], rfl, x2, [], rfl, rfl, ?_⟩
      have hd9 := sT _ _ hd8
      have hz : x ∉ (numb (L.take i)).map (·.1) := by rw [numb_keys]; exact nodup_take hnd hx
      refine ⟨_, rfl, _, rfl, _, rfl, d, _, rfl, kd.put hd9 (kd.tups (s8.trans sT).tups rx) (by rw [numb_len, List.length_take]; exact sz (by omega)) (valV_none hz), ?_⟩
      refine ⟨some (.int (i : Nat)), some x2, rfl, (s8.trans sT).upd0 hd0, ?_⟩
      rw [upd_same, take_snoc hx, numb_snoc, List.length_take, Nat.min_eq_left (by omega)]
    rintro σ H3 ⟨a3, b3, rfl, s3, hd3⟩
    rw [← hlen, List.take_length] at hd3
    have get : ∀ {H' : Hp} {x : α} {v : V}, Same H3 H' → kd.rep H' x v → x ∈ L → DGet H' d v (some (iv (L.idxOf x))) := fun {H' x v} s r h => by
      have := kd.get (s _ _ hd3) r
      rw [numb_val h] at this
      exact this
    have insS : ∀ {H' : Hp}, Same H3 H' → H' t = some (.ins M.C dx fs) := fun s => s _ _ (s3 _ _ hins)
    have atS : ∀ {H' : Hp}, Same H3 H' → M.At H' t := fun s => M.mono (s3.trans s).kp hAt
    have usS : ∀ {H' : Hp}, Same H3 H' → H' p = some (.lst us) := fun s => s _ _ (s3 _ _ hp)
    have repS : ∀ {H' : Hp}, Same H3 H' → Reps kd H' L us := fun s => Reps.tups (s3.trans s).tups hus
    -- letters
    refine ⟨_, rfl, (n : Int), rfl, by omega, by omega, fun D4 hD4 => ?_⟩
    refine lc_fill (xs := List.range n) (List.length_range) (walk_range (lo := 0) (n := n)) (fun _ => true) (fun _ a v => v = iv (L.idxOf (T.l a))) (fun _ _ _ _ _ h => h) hD4 (by rw [List.length_range]; exact sz (by omega)) (fun _ _ => trivial) ?_ ?_
    · rintro i z x H4 H5 Ky Kn hz s4 ⟨rfl, rfl⟩ hy _
      have hi : i < n := by
        have := (List.getElem?_eq_some_iff.mp hz).1
        rwa [List.length_range] at this
      obtain rfl : i = z := by
        rw [List.getElem?_range hi] at hz; exact Option.some.inj hz
      refine lc_yes rfl ?_
      refine ⟨_, rfl, _, rfl, t, dx, fs, rfl, insS s4, nL, _, rfl, t, i, by simp, atS s4, hi, fun v H6 s6 r6 => ?_⟩
      exact ⟨d, _, rfl, get (s4.trans s6) r6 (hC.l hi), hy rfl _ _ s6 rfl⟩
    rintro H4 ls s4 hls rls
    rw [filter_yes] at rls
    have els := ivs_of (H := H4) rls
    refine ⟨D4, ls, rfl, .inl ⟨SqL.of hls, fun pl npl => ?_⟩⟩
    have s5 : Same H3 (upd H4 pl (.tup ls)) := s4.trans (same_upd npl)
    have hpl : (upd H4 pl (.tup ls)) pl = some (.tup ls) := upd_same
    generalize upd H4 pl (.tup ls) = H5 at s5 hpl ⊢
    -- mul
    refine ⟨_, rfl, p, rfl, ⟨_, SqL.of (usS s5)⟩, fun D6 hD6 => ?_⟩
    refine lc_fill (xs := L) hlen (walk_list (xs := us)) (fun _ => true) (repRow fun x => L.map fun y => L.idxOf (T.j x y)) (repRow_mono _) hD6 (sz hL) (fun H' s => SqL.of (usS (s5.trans s))) ?_ ?_
    · rintro i x vx H6 H7 Ky Kn hx s6 ⟨rfl, hvx⟩ hy _
      obtain ⟨x', hx', rx⟩ := Paired.getR (repS (s5.trans s6)) hvx
      obtain rfl : x = x' := by rw [hx] at hx'; exact Option.some.inj hx'
      have hxL := List.mem_of_getElem? hx
      refine lc_yes rfl ?_
      refine ⟨_, rfl, p, rfl, ⟨_, SqL.of (usS (s5.trans s6))⟩, fun D8 hD8 => ?_⟩
      refine lc_fill (xs := L) hlen (walk_list (xs := us)) (fun _ => true) (fun _ y v => v = iv (L.idxOf (T.j x y))) (fun _ _ _ _ _ h => h) hD8 (sz hL) (fun H' s => SqL.of (usS ((s5.trans s6).trans s))) ?_ ?_
      · rintro j y vy H8 H9 Ky2 Kn2 hy2 s8 ⟨rfl, hvy⟩ hk _
        have s58 := (s5.trans s6).trans s8
        obtain ⟨y', hy', ry⟩ := Paired.getR (repS s58) hvy
        obtain rfl : y = y' := by rw [hy2] at hy'; exact Option.some.inj hy'
        have hyL := List.mem_of_getElem? hy2
        refine lc_yes rfl ?_
        refine ⟨_, rfl, _, rfl, t, dx, fs, rfl, insS s58, nJ, _, rfl, _, rfl, t, x, y, vx, vy, rfl, atS s58, kd.tups s8.tups rx, ry, hC.dom' M.dE_ M.dL_ M.dJ_ x hxL, hC.dom' M.dE_ M.dL_ M.dJ_ y hyL, fun v H10 s10 r10 => ?_⟩
        exact ⟨d, _, rfl, get (s58.trans s10) r10 (hC.j hxL hyL), hk rfl _ _ s10 rfl⟩
      rintro H8 rs s8 hrs rrs
      rw [filter_yes] at rrs
      have ers := ivs_of (H := H8) rrs
      refine ⟨D8, rs, rfl, .inl ⟨SqL.of hrs, fun pr npr => ?_⟩⟩
      exact hy rfl _ _ (s8.trans (same_upd npr)) ⟨pr, rfl, by rw [upd_same, ers]⟩
    rintro H6 ms s6 hms rms
    rw [filter_yes] at rms
    refine ⟨D6, ms, rfl, .inl ⟨SqL.of hms, fun pm npm => ?_⟩⟩
    have s7 : Same H5 (upd H6 pm (.tup ms)) := s6.trans (same_upd npm)
    have hpm : (upd H6 pm (.tup ms)) pm = some (.tup ms) := upd_same
    have rms7 : Rows (upd H6 pm (.tup ms)) (L.map fun x => L.map fun y => L.idxOf (T.j x y)) ms := Rows.tups (same_upd npm).tups (paired_mapL rms)
    generalize upd H6 pm (.tup ms) = H7 at s7 hpm rms7 ⊢
    have s37 := s5.trans s7
    -- accepted
    refine ⟨_, rfl, p, us, rfl, SqL.of (usS s37), fun D8 hD8 => ?_⟩
    refine lc_fill (xs := L) hlen (walk_enum (xs := us)) T.acc (fun _ x v => v = iv (L.idxOf x)) (fun _ _ _ _ _ h => h) hD8 (sz hL) (fun H' s => SqL.of (usS (s37.trans s))) ?_ ?_
    · rintro i x v H8 H9 Ky Kn hx s8 ⟨T0, x1, x2, rfl, nT, rfl, hx1, hx2⟩ hy hn
      cases hx1
      have sT : Same H8 (upd H8 T0 (.tup [.int (i : Nat), x2])) := same_upd nT
      have s39 := (s37.trans s8).trans sT
      obtain ⟨x', hx', rx⟩ := Paired.getR (repS s39) hx2
      obtain rfl : x = x' := by rw [hx] at hx'; exact Option.some.inj hx'
      refine ⟨T0, _, rfl, SqT.of upd_same, rfl, _, [x2], rfl, x2, [], rfl, rfl, rfl, ?_⟩
      refine ⟨_, rfl, t, dx, fs, rfl, insS s39, nA, _, rfl, t, x, x2, rfl, atS s39, rx, ?_⟩
      refine ⟨_, rfl, ?_⟩
      cases e : T.acc x with
      | true =>
        rw [if_pos rfl]
        refine ⟨_, rfl, hy e _ _ sT ?_⟩
        rw [idx_of_get hnd hx]
      | false =>
        rw [if_neg (by decide)]
        exact hn e _ sT
    rintro H8 as s8 has ras
    have eas := ivs_of (H := H8) ras
    refine ⟨D8, as, rfl, .inl ⟨SqL.of has, fun pa npa => ?_⟩⟩
    have s9 : Same H7 (upd H8 pa (.tup as)) := s8.trans (same_upd npa)
    have hpa : (upd H8 pa (.tup as)) pa = some (.tup as) := upd_same
    generalize upd H8 pa (.tup as) = H9 at s9 hpa ⊢
    have s39 := s37.trans s9
    -- the tuple
    refine ⟨_, rfl, _, rfl, t, dx, fs, rfl, insS s39, nE, t, rfl, atS s39, fun v H10 s10 r10 => ?_⟩
    refine ⟨d, _, rfl, get (s39.trans s10) r10 hC.e, _, rfl, _, rfl, _, rfl, by rw [sizeLine_eq]; show 4 ≤ 16777216; decide, fun q nq => ?_⟩
    have s11 : Same H10 (upd H10 q (.tup [iv (L.idxOf T.e), .ref pl, .ref pm, .ref pa])) := same_upd nq
    refine k _ _ (s3.trans ((s39.trans s10).trans s11)) ⟨pl, pm, pa, ms, upd_same, ?_, ?_, ?_, ?_⟩
    · rw [s11 _ _ (s10 _ _ (s9 _ _ (s7 _ _ hpl))), els]; rfl
    · exact s11 _ _ (s10 _ _ (s9 _ _ hpm))
    · exact Rows.tups ((s9.trans s10).trans s11).tups rms7
    · rw [s11 _ _ (s10 _ _ hpa), eas]; rfl
end
end My
end

section
/-! made_reader, numbered, joint. -/
namespace My
open PySem PySem.Spec PyProof.Rows L2
/-- how a def is called by its name -/
structure Cal (K : PySem.W.Frag) (mg : Str → Option Value) (x : Str) (f : Addr) (fd : FuncData) (ps : List Str) : Prop where
  mg : mg x = some (.ref f)
  kp : PySem.W.keepIn K (.ref f) = true
  b : Binds K fd ps []
section
variable {P : Program} {w : World} {K : PySem.W.Frag} {mg : Str → Option Value} {base : Heap}
def spMade {α : Type} [DecidableEq α] (kd : Kind α) (T : Tab α) (n N Pt : Nat) (At : Hp → Addr → Prop) : Sp := fun vs H Q _ => ∃ (t : Addr), vs = [.ref t, iv n] ∧ At H t ∧ GxR.TabG H Pt ∧
  ∀ q H' L, Kp H H' → GxR.TabG H' Pt → IsClo T n L → RdAt H' q (tabOf T n L) → Q (.ref q) H'
structure CollOk (P : Program) (w : World) (K : PySem.W.Frag) (mg : Str → Option Value) (base : Heap) (Pt : Nat) (f : Addr) (fd : FuncData) : Prop where
  c : Cal K mg "collect" f fd ["table", "count", "most"]
  ok : ∀ {α : Type} [DecidableEq α] (kd : Kind α) (T : Tab α) (n N : Nat) (D : α → Prop) (M : Meths P w K mg base kd T n D), n ≤ 100 → (∀ k, (iter T n k).length ≤ N) → N ≤ 300 → FnOk P w K mg base CX0 3 f fd ["table", "count", "most"] (spCollect kd T n N Pt M.At)
structure TabdOk (P : Program) (w : World) (K : PySem.W.Frag) (mg : Str → Option Value) (base : Heap) (f : Addr) (fd : FuncData) : Prop where
  c : Cal K mg "tabled" f fd ["table", "count", "found"]
  ok : ∀ {α : Type} [DecidableEq α] (kd : Kind α) (T : Tab α) (n : Nat) (D : α → Prop) (M : Meths P w K mg base kd T n D), n ≤ 100 → FnOk P w K mg base CX0 3 f fd ["table", "count", "found"] (spTabled kd T n M.At)
structure MadeOk (P : Program) (w : World) (K : PySem.W.Frag) (mg : Str → Option Value) (base : Heap) (Pt : Nat) (f : Addr) (fd : FuncData) : Prop where
  c : Cal K mg "made_reader" f fd ["table", "count"]
  ok : ∀ {α : Type} [DecidableEq α] (kd : Kind α) (T : Tab α) (n N : Nat) (D : α → Prop) (M : Meths P w K mg base kd T n D), n ≤ 100 → (∀ k, (iter T n k).length ≤ N) → N ≤ 300 → FnOk P w K mg base CX0 4 f fd ["table", "count"] (spMade kd T n N Pt M.At)
theorem scMade : FnScope ["table", "count", "found"] ["table", "count"] (defScope sMade) := ⟨rfl, rfl, rfl, by decide +kernel, rfl, by decide +kernel, by decide +kernel⟩
theorem ok_made {f fc ft : Addr} {fd fdc fdt : FuncData} {Pt n N : Nat} {α : Type} [DecidableEq α] {kd : Kind α} {T : Tab α} {D : α → Prop} {tk : Nat} (F : Fun K "made_reader" "made_reader" sMade f fd) (C : CollOk P w K mg base Pt fc fdc) (U : TabdOk P w K mg base ft fdt)
    (mN : mg "MOST_VALUES" = some (.int 300 tk)) (M : Meths P w K mg base kd T n D) (hn : n ≤ 100) (hN : ∀ k, (iter T n k).length ≤ N) (hN3 : N ≤ 300) : FnOk P w K mg base CX0 4 f fd ["table", "count"] (spMade kd T n N Pt M.At) := by
  refine F.ok scMade (fun vs H Q E h => ?_) (fun cdv A outer s H vs Q E hr h => ?_)
  · obtain ⟨t, rfl, _⟩ := h; rfl
  · obtain ⟨t, rfl, hAt, hTg, k⟩ := h
    refine ⟨_, pss_cons (ps_set (i := 2) scMade.nd rfl (.inl rfl) (pe_call (C.ok kd T n N D M hn hN hN3) hr rfl C.c.mg C.c.kp C.c.b .nil pass0 (pa_cons (pv 0) (pa_cons (pv 1) (pa_cons (pe_glob rfl mN (show RelV (.int 300) (.int 300 tk) from ⟨_, rfl⟩)) pa_nil)))))
      (pss_cons (ps_if (pt_cmpR op_isN (pv 2) pe_non (nomark _)) (pss_one ps_never) pss_nil)
      (pss_one (ps_ret (pe_call (U.ok kd T n D M hn) hr rfl U.c.mg U.c.kp U.c.b .nil pass0 (pa_cons (pv 0) (pa_cons (pv 1) (pa_cons (pv 2) pa_nil))))))), ?_⟩
    refine ⟨_, rfl, _, rfl, t, 300, rfl, hAt, hTg, hN3, fun H1 p L us k1 t1 np hp hus hC => ?_⟩
    refine ⟨_, rfl, rfl, _, rfl, ?_⟩
    rw [decide_eq_false (fun z => nomatch z)]
    refine iteF ?_
    have hL : L.length ≤ 300 := by
      obtain ⟨j, rfl⟩ := hC.it
      exact Nat.le_trans (hN j) hN3
    exact ⟨_, rfl, _, rfl, _, rfl, t, p, us, L, rfl, M.mono k1 hAt, hp, hus, hC, hL, fun q H' s hq => k q H' L (k1.trans s.kp) (tabG_same t1 s) hC hq⟩
/-! ### numbered -/
def spNumbered (Pt : Nat) : Sp := fun vs H Q _ => ∃ n p R, vs = [.ref p] ∧ RdAt H p R ∧ Shape n R ∧ n ≤ 100 ∧ R.m.length ≤ 300 ∧ GxR.TabG H Pt ∧
  ∀ q H' L, Kp H H' → GxR.TabG H' Pt → IsClo R.tab n L → RdAt H' q (tabOf R.tab n L) → Q (.ref q) H'
theorem scNumbered : FnScope ["reader"] ["reader"] (defScope sNumbered) := ⟨rfl, rfl, rfl, by decide +kernel, rfl, by decide +kernel, by decide +kernel⟩
theorem shape_iter {n : Nat} {R : Rdr} (V : Shape n R) (k : Nat) : (iter R.tab n k).length ≤ R.m.length := by
  have := iter_len (T := R.tab) (n := n) (d := List.range R.m.length) (List.mem_range.mpr V.e) (fun a ha => List.mem_range.mpr (V.lt ha)) (fun x y hx hy => List.mem_range.mpr (V.jt (List.mem_range.mp hx) (List.mem_range.mp hy))) k
  rwa [List.length_range] at this
theorem shape_iter2 {n : Nat} {R B : Rdr} (V : Shape n R) (W : Shape n B) (k : Nat) : (iter (pairTab R B) n k).length ≤ R.m.length * B.m.length := by
  have := iter_len (T := pairTab R B) (n := n) (d := grid R.m.length B.m.length) (mem_grid.mpr ⟨V.e, W.e⟩) (fun a ha => mem_grid.mpr ⟨V.lt ha, W.lt ha⟩) (fun x y hx hy => mem_grid.mpr ⟨V.jt (mem_grid.mp hx).1 (mem_grid.mp hy).1, W.jt (mem_grid.mp hx).2 (mem_grid.mp hy).2⟩) k
  rwa [grid_len] at this
theorem ok_numbered {f fm : Addr} {fd fdm : FuncData} {Pt : Nat} (F : Fun K "numbered" "numbered" sNumbered f fd) (B : Blt mg) (T : TT P w K mg base) (U : MadeOk P w K mg base Pt fm fdm) :
    FnOk P w K mg base CX0 5 f fd ["reader"] (spNumbered Pt) := by
  refine F.ok scNumbered (fun vs H Q E h => ?_) (fun cdv A outer s H vs Q E hr h => ?_)
  · obtain ⟨n, p, R, rfl, _⟩ := h; rfl
  · obtain ⟨n, p, R, rfl, hR, V, hn, hm, hTg, k⟩ := h
    obtain ⟨l, m, a, ms, h1, h2, h3, h4, h5⟩ := id hR
    refine ⟨_, pss_one (ps_ret (pe_call (U.ok kInt R.tab n R.m.length _ (mTab T V) hn (shape_iter V) hm) hr rfl U.c.mg U.c.kp U.c.b .nil pass0
      (pa_cons (pe_make T.M T.gI (hr.mono (by decide)) rfl T.mgC T.bI .nil pass0 (pa_cons (pv 0) pa_nil)) (pa_cons (pe_callB call_len_seq (by rfl) B.len PySem.boot_len (pa_cons (pe_ix ix_tup (pv 0) pe_int (fun _ _ => rfl)) pa_nil)) pa_nil)))), ?_⟩
    refine ⟨_, rfl, fun x dx nx ndx nex => ⟨x, _, T.C, dx, rfl, upd_same, T.cl, T.nR, rfl, ?_⟩⟩
    generalize e2 : upd (upd (upd H dx (.own x)) x (.ins T.C dx [])) x (.ins T.C dx [("reader", .ref p)]) = H2
    have s2 : Same H H2 := by rw [← e2]; exact ((same_upd ndx).upd0 nx).upd0 nx
    have hx2 : H2 x = some (.ins T.C dx (fsT p)) := by rw [← e2]; exact upd_same
    refine ⟨_, rfl, p, _, 1, _, rfl, rfl, SqT.of (s2 _ _ h1), atI_nat (j := 1) rfl, l, _, rfl, .inr (SqT.of (s2 _ _ h2)), ?_⟩
    rw [ivs_len, V.ln]
    exact ⟨x, rfl, ⟨dx, p, hx2, hR.tups s2.tups⟩, tabG_same hTg s2, fun q H' L k1 t1 hC hq => k q H' L (s2.kp.trans k1) t1 hC hq⟩
/-! ### joint -/
def spJoint (Pt : Nat) : Sp := fun vs H Q _ => ∃ n p r R B, vs = [.str "both", .ref p, .ref r] ∧ RdAt H p R ∧ RdAt H r B ∧ Shape n R ∧ Shape n B ∧ n ≤ 100 ∧ R.m.length * B.m.length ≤ 300 ∧ GxR.TabG H Pt ∧
  ∀ q H' L, Kp H H' → GxR.TabG H' Pt → IsClo (pairTab R B) n L → RdAt H' q (tabOf (pairTab R B) n L) → Q (.ref q) H'
theorem scJoint : FnScope ["kind", "first", "second"] ["kind", "first", "second"] (defScope sJoint) := ⟨rfl, rfl, rfl, by decide +kernel, rfl, by decide +kernel, by decide +kernel⟩
theorem ok_joint {f fm : Addr} {fd fdm : FuncData} {Pt : Nat} (F : Fun K "joint" "joint" sJoint f fd) (B : Blt mg) (T : TT P w K mg base) (G : PP P w K mg base T) (U : MadeOk P w K mg base Pt fm fdm) :
    FnOk P w K mg base CX0 5 f fd ["kind", "first", "second"] (spJoint Pt) := by
  refine F.ok scJoint (fun vs H Q E h => ?_) (fun cdv A outer s H vs Q E hr h => ?_)
  · obtain ⟨n, p, r, R, B, rfl, _⟩ := h; rfl
  · obtain ⟨n, p, r, R, S, rfl, hR, hS, V, W, hn, hm, hTg, k⟩ := h
    obtain ⟨l, m, a, ms, h1, h2, h3, h4, h5⟩ := id hR
    refine ⟨_, pss_one (ps_ret (pe_call (U.ok kPair (pairTab R S) n (R.m.length * S.m.length) _ (mPairs T G V W) hn (shape_iter2 V W) hm) hr rfl U.c.mg U.c.kp U.c.b .nil pass0
      (pa_cons (pe_make G.M G.gI hr rfl G.mgC G.bI .nil pass0 (pa_cons (pv 0) (pa_cons (pv 1) (pa_cons (pv 2) pa_nil)))) (pa_cons (pe_callB call_len_seq (by rfl) B.len PySem.boot_len (pa_cons (pe_ix ix_tup (pv 1) pe_int (fun _ _ => rfl)) pa_nil)) pa_nil)))), ?_⟩
    refine ⟨_, rfl, _, rfl, _, rfl, fun x dx nx ndx nex => ?_⟩
    have s1 : Same H (upd (upd H dx (.own x)) x (.ins G.C dx [])) := (same_upd ndx).upd0 nx
    refine ⟨x, p, r, dx, R, S, rfl, upd_same, hR.tups s1.tups, hS.tups s1.tups, fun H2 k2 hP => ⟨rfl, ?_⟩⟩
    have s2 : Same H H2 := fun b o e => k2 b o (ne_of_none e nx) (s1 b o e)
    refine ⟨_, rfl, p, _, 1, _, rfl, rfl, SqT.of (s2 _ _ h1), atI_nat (j := 1) rfl, l, _, rfl, .inr (SqT.of (s2 _ _ h2)), ?_⟩
    rw [ivs_len, V.ln]
    exact ⟨x, rfl, hP, tabG_same hTg s2, fun q H' L k1 t1 hC hq => k q H' L (s2.kp.trans k1) t1 hC hq⟩
end
end My
end

section
/-! Lists of numbers and readers as data, to be compared. -/
namespace My
open PySem PySem.Spec PyProof.Rows L2
def dI (l : List Nat) : List PyData := l.map fun (n : Nat) => PyData.int (n : Int)
def dRow (l : List Nat) : PyData := .tuple (dI l)
def dLst (l : List Nat) : PyData := .list (dI l)
def dRdr (R : Rdr) : PyData := .tuple [.int (R.e : Int), dRow R.l, .tuple (R.m.map dRow), dRow R.a]
theorem dI_lay : ∀ l, PyData.canLayAll0 (dI l) = true
  | [] => by simp [dI, PyData.canLayAll0]
  | x :: l => by
    have := dI_lay l
    simp only [dI, List.map_cons, PyData.canLayAll0, PyData.canLay0, Bool.true_and] at this ⊢
    exact this
theorem dI_depth : ∀ l, PyData.depthAll (dI l) = 0
  | [] => by simp [dI, PyData.depthAll]
  | x :: l => by
    have := dI_depth l
    simp only [dI, List.map_cons, PyData.depthAll, PyData.depth] at this ⊢
    omega
theorem dRows_lay : ∀ l : List (List Nat), PyData.canLayAll0 (l.map dRow) = true
  | [] => by simp [PyData.canLayAll0]
  | x :: l => by
    simp only [List.map_cons, PyData.canLayAll0, dRow, PyData.canLay0, dI_lay, Bool.true_and]
    exact dRows_lay l
theorem dRows_depth : ∀ l : List (List Nat), PyData.depthAll (l.map dRow) ≤ 1
  | [] => by simp [PyData.depthAll]
  | x :: l => by
    have h1 := dRows_depth l
    have h2 := dI_depth x
    simp only [List.map_cons, PyData.depthAll, dRow, PyData.depth] at h1 ⊢
    omega
theorem dLst_shaped (l : List Nat) : SeqAt.shaped (dLst l) = true := by
  show ((dLst l).canLay0 && decide ((dLst l).depth ≤ 64)) = true
  rw [Bool.and_eq_true]
  refine ⟨by simp only [dLst, PyData.canLay0]; exact dI_lay l, decide_eq_true ?_⟩
  have := dI_depth l
  simp only [dLst, PyData.depth]
  omega
theorem dRdr_shaped (R : Rdr) : SeqAt.shaped (dRdr R) = true := by
  show ((dRdr R).canLay0 && decide ((dRdr R).depth ≤ 64)) = true
  rw [Bool.and_eq_true]
  constructor
  · simp only [dRdr, dRow, PyData.canLay0, PyData.canLayAll0, dI_lay, Bool.true_and, Bool.and_true]
    exact dRows_lay R.m
  · have h1 := dI_depth R.l
    have h2 := dI_depth R.a
    have h3 := dRows_depth R.m
    refine decide_eq_true ?_
    simp only [dRdr, dRow, PyData.depth, PyData.depthAll] at h3 ⊢
    omega
theorem int_eqv (a b : Nat) : ((a : Int) == (b : Int)) = decide (a = b) := by
  by_cases h : a = b
  · subst h; simp
  · rw [decide_eq_false h]; exact beq_eq_false_iff_ne.mpr (by omega)
theorem dec_and (p q : Prop) [Decidable p] [Decidable q] : (decide p && decide q) = decide (p ∧ q) := by
  by_cases h : p <;> by_cases g : q <;> simp [h, g]
theorem dI_eqv : ∀ l m : List Nat, PyData.eqvAll (dI l) (dI m) = decide (l = m)
  | [], [] => by simp [dI, PyData.eqvAll]
  | [], b :: m => by simp [dI, PyData.eqvAll]
  | a :: l, [] => by simp [dI, PyData.eqvAll]
  | a :: l, b :: m => by
    have := dI_eqv l m
    simp only [dI, List.map_cons, PyData.eqvAll, PyData.eqv] at this ⊢
    rw [this, int_eqv, dec_and]
    exact decide_eq_decide.mpr (by rw [List.cons.injEq])
theorem dRows_eqv : ∀ l m : List (List Nat), PyData.eqvAll (l.map dRow) (m.map dRow) = decide (l = m)
  | [], [] => by simp [PyData.eqvAll]
  | [], b :: m => by simp [PyData.eqvAll]
  | a :: l, [] => by simp [PyData.eqvAll]
  | a :: l, b :: m => by
    have h1 := dRows_eqv l m
    have h2 := dI_eqv a b
    simp only [List.map_cons, PyData.eqvAll, dRow, PyData.eqv] at h1 h2 ⊢
    rw [h1, h2, dec_and]
    exact decide_eq_decide.mpr (by rw [List.cons.injEq])
theorem dLst_eqv (l m : List Nat) : PyData.eqv (dLst l) (dLst m) = decide (l = m) := by
  simp only [dLst, PyData.eqv]
  exact dI_eqv l m
theorem dRow_eqv (l m : List Nat) : PyData.eqv (dRow l) (dRow m) = decide (l = m) := by
  simp only [dRow, PyData.eqv]
  exact dI_eqv l m
theorem dRdr_eqv (R S : Rdr) : PyData.eqv (dRdr R) (dRdr S) = decide (R = S) := by
  simp only [dRdr, PyData.eqv, PyData.eqvAll, Bool.and_true, dRow_eqv, dRows_eqv, int_eqv]
  obtain ⟨a, b, c, d⟩ := R
  obtain ⟨a', b', c', d'⟩ := S
  simp only [Rdr.mk.injEq]
  by_cases e1 : a = a' <;> by_cases e2 : b = b' <;> by_cases e3 : c = c' <;> by_cases e4 : d = d' <;> simp_all
section
variable {K : PySem.W.Frag} {H : Hp}
theorem dpAll_ivs : ∀ l : List Nat, DpAll K H (ivs l) (dI l)
  | [] => .nil
  | x :: l => .cons (.int _) (dpAll_ivs l)
theorem dp_lst {p : Addr} {l : List Nat} (h : H p = some (.lst (ivs l))) : Dp K H (.ref p) (dLst l) := .lst (SqL.of h) (dpAll_ivs l)
theorem dp_row {p : Addr} {l : List Nat} (h : H p = some (.tup (ivs l))) : Dp K H (.ref p) (dRow l) := .tup (SqT.of h) (dpAll_ivs l)
theorem dpAll_rows : ∀ {rows : List (List Nat)} {vs : List V}, Rows H rows vs → DpAll K H vs (rows.map dRow)
  | _, _, .nil => .nil
  | _, _, .cons ⟨a, e, q⟩ t => by subst e; exact .cons (dp_row q) (dpAll_rows t)
theorem RdAt.dp {p : Addr} {R : Rdr} (h : RdAt H p R) : Dp K H (.ref p) (dRdr R) := by
  obtain ⟨l, m, a, ms, h1, h2, h3, h4, h5⟩ := h
  exact .tup (SqT.of h1) (.cons (.int _) (.cons (dp_row h2) (.cons (.tup (SqT.of h3) (dpAll_rows h4)) (.cons (dp_row h5) .nil))))
end
end My
end

section
/-! split. -/
namespace My
open PySem PySem.Spec PyProof.Rows L2
theorem atN {xs : List V} {j : Nat} {v : V} (h : xs[j]? = some v) : atI xs (j : Int) = some v := atI_nat h
theorem ivs_app (a b : List Nat) : ivs (a ++ b) = ivs a ++ ivs b := List.map_append
theorem ints_nats : ∀ {ns : List Int}, (∀ k ∈ ns, 0 ≤ k) → ns.map V.int = ivs (ns.map Int.toNat)
  | [], _ => rfl
  | a :: ns, h => by
    have h0 := h a (by simp)
    have ih := ints_nats (ns := ns) fun k hk => h k (by simp [hk])
    unfold ivs at ih ⊢
    rw [List.map_cons, List.map_cons, List.map_cons, ih]
    congr 1
    show V.int a = V.int ((a.toNat : Nat) : Int)
    rw [Int.toNat_of_nonneg h0]
section
variable {P : Program} {w : World} {K : PySem.W.Frag} {mg : Str → Option Value} {base : Heap}
def spSplit : Sp := fun vs H Q _ => ∃ n p q S c, vs = [.ref p, .ref q] ∧ RdAt H p S ∧ Shape n S ∧ n ≤ 60 ∧ S.m.length ≤ 300 ∧ H q = some (.lst (ivs c)) ∧ c.length = S.m.length ∧
  ∀ St f H', Same H H' → H f = none → H' f = some (.lst (ivs (leads (skey S St c) S.m.length))) → (∀ a, a < n → S.tab.l a ∈ St) → (∀ z ∈ St, z < S.m.length) → Q (.ref f) H'
abbrev nmSplit : List Str := ["reader", "classes", "empty", "letters", "mul", "_", "steps", "found", "finer", "x", "around", "key", "z"]
theorem scSplit : FnScope nmSplit ["reader", "classes"] (defScope sSplit) := ⟨rfl, rfl, rfl, by decide +kernel, rfl, by decide +kernel, by decide +kernel⟩
def sigS (p q l m u st d fn : Addr) (e : Nat) (x ar k : Option V) : L2.St := [some (.ref p), some (.ref q), some (iv e), some (.ref l), some (.ref m), some (.ref u), some (.ref st), some (.ref d), some (.ref fn), x, ar, k, none]
theorem ok_split {f : Addr} {fd : FuncData} (F : Fun K "split" "split" sSplit f fd) (B : Blt mg) : FnOk P w K mg base CX0 1 f fd ["reader", "classes"] spSplit := by
  refine F.ok scSplit (fun vs H Q E h => ?_) (fun cdv A outer s H vs Q E hr h => ?_)
  · obtain ⟨n, p, q, S, c, rfl, _⟩ := h; rfl
  · obtain ⟨n, p, q, S, c, rfl, hS, Sh, hn, hm, hq, hc, k⟩ := h
    have hu := hr.units
    obtain ⟨l, m, ac, ms, h1, h2, h3, h4, h5⟩ := id hS
    refine ⟨_, pss_cons (ps_asg (pv 0) (pg_tup rfl (pgs_cons (pg_name (i := 2) scSplit.nd rfl (.inl rfl)) (pgs_cons (pg_name (i := 3) scSplit.nd rfl (.inl rfl)) (pgs_cons (pg_name (i := 4) scSplit.nd rfl (.inr rfl)) (pgs_cons (pg_name (i := 5) scSplit.nd rfl (.inl rfl)) pgs_nil))))))
      (pss_cons (ps_set (i := 6) scSplit.nd rfl (.inl rfl) (pe_callB (cr_sortedSet rfl) (by rfl) B.sorted (by decide +kernel) (pa_cons (pe_callTy (call_set_tup rfl) (by rfl) B.set (by decide +kernel) (pa_cons (pv 3) pa_nil)) pa_nil)))
      (pss_cons (ps_set (i := 7) scSplit.nd rfl (.inl rfl) pe_dnewX)
      (pss_cons (ps_set (i := 8) scSplit.nd rfl (.inl rfl) (pe_lst pa_nil))
      (pss_cons (ps_for PassesOwn.never rfl (pi_range1 rfl B.range (pa_cons (pe_callB call_len_seq (by rfl) B.len PySem.boot_len (pa_cons (pv 4) pa_nil)) pa_nil)) (pg_name (i := 9) scSplit.nd rfl (.inr rfl))
        (pss_cons (ps_set (i := 10) scSplit.nd rfl (.inl rfl) (pe_op op_cat
          (pe_lc (own := [("z", 12)]) (g := gName 12) (tt := tYes) rfl scSplit.nd (pi_list (pv 6)) (blkOk_by (N := nmSplit) (sc := defScope sSplit) (by decide +kernel)) (fun _ _ _ _ _ => pg_name (i := 12) scSplit.nd rfl (.inl rfl)) (fun _ _ _ _ _ => pts_nil)
            (fun _ _ _ _ _ => pe_ix (ix_listK K rfl) (pv 1) (pe_ix (ix_tupK K rfl) (pe_ix (ix_tupK K rfl) (pv 4) (pv 12) (fun _ _ => rfl)) (pv 9) (fun _ _ => rfl)) (fun _ _ => rfl)))
          (pe_lc (own := [("z", 12)]) (g := gName 12) (tt := tYes) rfl scSplit.nd (pi_list (pv 6)) (blkOk_by (N := nmSplit) (sc := defScope sSplit) (by decide +kernel)) (fun _ _ _ _ _ => pg_name (i := 12) scSplit.nd rfl (.inl rfl)) (fun _ _ _ _ _ => pts_nil)
            (fun _ _ _ _ _ => pe_ix (ix_listK K rfl) (pv 1) (pe_ix (ix_tupK K rfl) (pe_ix (ix_tupK K rfl) (pv 4) (pv 9) (fun _ _ => rfl)) (pv 12) (fun _ _ => rfl)) (fun _ _ => rfl)))))
        (pss_cons (ps_set (i := 11) scSplit.nd rfl (.inl rfl) (pe_tup (pa_cons (pe_ix ix_list (pv 1) (pv 9) (fun _ _ => rfl)) (pa_cons (pe_callTy call_tuple_of (by rfl) B.tuple (by decide +kernel) (pa_cons (pv 10) pa_nil)) pa_nil))))
        (pss_cons (ps_if (pt_cmpR (op_xnotin hu) (pv 11) (pv 7) (by rfl)) (pss_one (ps_asg (pv 9) (pg_sub (pv 7) (pv 11) (set_dictX hu)))) pss_nil)
        (pss_one (ps_expr (pe_bm PySem.F.plainAttrs_list PySem.F.slot_list_append PySem.F.type_list_append mt_append (pv 8) (pa_cons (pe_ix (ix_dictX hu) (pv 7) (pv 11) (fun _ _ => rfl)) pa_nil))))))))
      (pss_one (ps_ret (pv 8))))))), ?_⟩
    refine ⟨_, rfl, p, _, rfl, SqT.of h1, rfl, _, _, rfl, _, _, rfl, _, _, rfl, _, [], rfl, rfl, ?_⟩
    have e1 : ivs S.l = (S.l.map fun (n : Nat) => (n : Int)).map V.int := by unfold ivs; rw [List.map_map]; rfl
    refine ⟨_, rfl, l, S.l.map fun (n : Nat) => (n : Int), rfl, by rw [← e1]; exact SqT.of h2, by rw [List.length_map, Sh.ln]; omega, fun u0 nc hu0 hnc => ?_⟩
    rw [List.length_map, Sh.ln] at hnc
    refine ⟨u0, _, nc, rfl, upd_same, by omega, fun ns st hpw hmem hlen hst => ?_⟩
    have mem2 : ∀ k : Int, k ∈ ns ↔ ∃ a ∈ S.l, ((a : Nat) : Int) = k := fun k => by rw [hmem k, decide_eq_true_iff, List.mem_map]
    have nn : ∀ k ∈ ns, (0 : Int) ≤ k := fun k hk => by obtain ⟨a, _, rfl⟩ := (mem2 k).mp hk; omega
    rw [ints_nats nn]
    have hSt1 : ∀ a, a < n → S.tab.l a ∈ ns.map Int.toNat := fun a ha => by
      refine List.mem_map.mpr ⟨((S.tab.l a : Nat) : Int), (mem2 _).mpr ⟨S.tab.l a, ?_, rfl⟩, by simp⟩
      have h' : a < S.l.length := by rw [Sh.ln]; exact ha
      show S.l.getD a 0 ∈ S.l
      rw [getD_lt _ h']; exact List.getElem_mem h'
    have hSt2 : ∀ z ∈ ns.map Int.toNat, z < S.m.length := fun z hz => by
      obtain ⟨k, hk, rfl⟩ := List.mem_map.mp hz
      obtain ⟨a, ha, rfl⟩ := (mem2 k).mp hk
      have := Sh.l a ha
      simpa using this
    have hStl : (ns.map Int.toNat).length ≤ 60 := by rw [List.length_map]; omega
    generalize ns.map Int.toNat = St at hSt1 hSt2 hStl ⊢
    have sA : Same H (upd (upd H u0 (SetO w u0 (fun j => decide (j ∈ S.l.map fun (n : Nat) => (n : Int))) nc)) st (.lst (ivs St))) := (same_upd hu0).trans (same_upd hst)
    have hst1 : (upd (upd H u0 (SetO w u0 (fun j => decide (j ∈ S.l.map fun (n : Nat) => (n : Int))) nc)) st (.lst (ivs St))) st = some (.lst (ivs St)) := upd_same
    generalize hHA : upd (upd H u0 (SetO w u0 (fun j => decide (j ∈ S.l.map fun (n : Nat) => (n : Int))) nc)) st (.lst (ivs St)) = HA at sA hst1
    rw [show (upd (upd H u0 (SetO (cxOf CX0 P w K mg base nmSplit "split" (defScope sSplit) f cdv A outer s H E).nox.w u0 (fun j => decide (j ∈ S.l.map fun (n : Nat) => (n : Int))) nc)) st (.lst (ivs St))) = HA from hHA]
    -- found, finer
    refine fun d hd => ⟨Nat.zero_le _, fun fn hfn => ?_⟩
    have hd0 : H d = none := sA.free hd
    have hfn0 : H fn = none := sA.free ((same_upd hd).free hfn)
    have sB : Same HA (upd (upd HA d (DXO P w d [])) fn (.lst [])) := (same_upd hd).trans (same_upd hfn)
    have ndf : d ≠ fn := fun z => by rw [← z, upd_same] at hfn; cases hfn
    have hdB : (upd (upd HA d (DXO P w d [])) fn (.lst [])) d = some (DXO P w d []) := (upd_ne ndf).trans upd_same
    have hfB : (upd (upd HA d (DXO P w d [])) fn (.lst [])) fn = some (.lst []) := upd_same
    generalize hHB : upd (upd HA d (DXO P w d [])) fn (.lst []) = HB at sB hdB hfB
    rw [show (upd (upd HA d (DXO (cxOf CX0 P w K mg base nmSplit "split" (defScope sSplit) f cdv A outer s H E).nox.prog (cxOf CX0 P w K mg base nmSplit "split" (defScope sSplit) f cdv A outer s H E).nox.w d [])) fn (.lst [])) = HB from hHB]
    refine ⟨_, rfl, m, _, rfl, .inr (SqT.of ((sA.trans sB) _ _ h3)), ((S.m.length : Nat) : Int), by rw [← h4.len], by omega, by omega, ?_⟩
    have sC := sA.trans sB
    refine for_it (walk_range (lo := 0) (n := S.m.length)) (fun i σ H' => ∃ x ar ky xs, σ = sigS p q l m ac st d fn S.e x ar ky ∧ Same HA H' ∧ H' d = some (DXO P w d xs) ∧ KeysIn H' xs ∧ (∀ k, valV (xs.map fun x => (x.1, x.2.2)) k = (fstK (skey S St c) i k).map iv) ∧ xs.length ≤ i ∧ H' fn = some (.lst (ivs (leads (skey S St c) i))))
      ⟨none, none, none, [], rfl, sB, hdB, (by intro x h; cases h), fun _ => rfl, Nat.le_refl _, hfB⟩ (fun _ _ _ _ _ => trivial) ?_ ?_
    · rintro i v σ H3' H3 hi ⟨x, ar, ky, xs, rfl, s3, hd3, hk3, hv3, hl3, hf3⟩ ⟨rfl, hv⟩
      replace hv : v = iv i := hv.trans (by show V.int (0 + (i : Int)) = iv i; rw [Int.zero_add])
      subst hv
      have sz : ∀ {j : Nat}, j ≤ 600 → j < sizeLine := fun h => by rw [sizeLine_eq]; omega
      have s03 := sA.trans s3
      have cl : ∀ {H' : Hp} {y : Nat}, Same H3 H' → y < S.m.length → ∃ xs, SqL K H' q xs ∧ atI xs ((y : Nat) : Int) = some (iv (c.getD y 0)) := fun {H' y} s h => ⟨_, SqL.of (s _ _ (s03 _ _ hq)), atN (ivs_get (by rw [hc]; exact h))⟩
      have row : ∀ {H' : Hp} {y : Nat}, Same H3 H' → y < S.m.length → ∃ b, atI ms ((y : Nat) : Int) = some (.ref b) ∧ SqT K H' m ms ∧ SqT K H' b (ivs (S.m.getD y [])) := fun {H' y} s h => by
        obtain ⟨b, hb1, hb2⟩ := h4.get h
        exact ⟨b, atN hb1, SqT.of (s _ _ (s03 _ _ h3)), SqT.of (s _ _ (s03 _ _ hb2))⟩
      have ent : ∀ {y z : Nat}, y < S.m.length → z < S.m.length → atI (ivs (S.m.getD y [])) ((z : Nat) : Int) = some (iv (S.tab.j y z)) := fun {y z} hy hz => by
        refine atN (ivs_get ?_)
        rw [getD_lt _ hy, Sh.row _ (List.getElem_mem hy)]; exact hz
      refine ⟨_, rfl, st, rfl, ⟨_, SqL.of (s3 _ _ hst1)⟩, fun D1 hD1 => ?_⟩
      refine lc_fill (xs := St) (ivs_len St).symm (walk_list (xs := ivs St)) (fun _ => true) (fun _ z v => v = iv (c.getD (S.tab.j z i) 0)) (fun _ _ _ _ _ h => h) hD1 (sz (by omega)) (fun H' s => SqL.of (s _ _ (s3 _ _ hst1))) ?_ ?_
      · rintro j z x2 H5' H5 Ky Kn hz s5 ⟨rfl, hx2⟩ hy _
        have hzv : x2 = iv z := by
          unfold ivs at hx2
          rw [List.getElem?_map, hz] at hx2
          exact (Option.some.inj hx2).symm
        subst hzv
        have hzm := hSt2 z (List.mem_of_getElem? hz)
        obtain ⟨b, rb1, rb2, rb3⟩ := row s5 hzm
        obtain ⟨cx, cx1, cx2⟩ := cl s5 (Sh.jt hzm hi)
        refine lc_yes rfl ?_
        exact ⟨_, rfl, _, rfl, _, rfl, m, _, (z : Int), _, rfl, rfl, rb2, rb1, _, rfl, b, _, (i : Int), _, rfl, rfl, rb3, ent hzm hi, q, _, _, _, rfl, rfl, cx1, cx2, hy rfl _ _ (Same.refl _) rfl⟩
      rintro H5 us1 s5 hu1 r1
      rw [filter_yes] at r1
      have eu1 := ivs_of (H := H5) r1
      refine ⟨_, rfl, st, rfl, ⟨_, SqL.of (s5 _ _ (s3 _ _ hst1))⟩, fun D2 hD2 => ?_⟩
      refine lc_fill (xs := St) (ivs_len St).symm (walk_list (xs := ivs St)) (fun _ => true) (fun _ z v => v = iv (c.getD (S.tab.j i z) 0)) (fun _ _ _ _ _ h => h) hD2 (sz (by omega)) (fun H' s => SqL.of (s _ _ (s5 _ _ (s3 _ _ hst1)))) ?_ ?_
      · rintro j z x2 H6' H6 Ky Kn hz s6 ⟨rfl, hx2⟩ hy _
        have hzv : x2 = iv z := by
          unfold ivs at hx2
          rw [List.getElem?_map, hz] at hx2
          exact (Option.some.inj hx2).symm
        subst hzv
        have hzm := hSt2 z (List.mem_of_getElem? hz)
        obtain ⟨b, rb1, rb2, rb3⟩ := row (s5.trans s6) hi
        obtain ⟨cx, cx1, cx2⟩ := cl (s5.trans s6) (Sh.jt hi hzm)
        refine lc_yes rfl ?_
        exact ⟨_, rfl, _, rfl, _, rfl, m, _, (i : Int), _, rfl, rfl, rb2, rb1, _, rfl, b, _, (z : Int), _, rfl, rfl, rb3, ent hi hzm, q, _, _, _, rfl, rfl, cx1, cx2, hy rfl _ _ (Same.refl _) rfl⟩
      rintro H6 us2 s6 hu2 r2
      rw [filter_yes] at r2
      have eu2 := ivs_of (H := H6) r2
      have l1 := Paired.length r1
      have l2 := Paired.length r2
      refine ⟨D1, D2, us1, us2, rfl, rfl, s6 _ _ hu1, hu2, by rw [sizeLine_eq]; omega, fun pa hpa => ?_⟩
      have s7 : Same H3 (upd H6 pa (.lst (us1 ++ us2))) := (s5.trans s6).trans (same_upd hpa)
      have ha7 : (upd H6 pa (.lst (us1 ++ us2))) pa = some (.lst (us1 ++ us2)) := upd_same
      generalize upd H6 pa (.lst (us1 ++ us2)) = H7 at s7 ha7 ⊢
      -- key
      obtain ⟨cx, cx1, cx2⟩ := cl s7 hi
      refine ⟨_, rfl, _, rfl, q, _, (i : Int), _, rfl, rfl, cx1, cx2, _, rfl, pa, _, rfl, .inl ⟨SqL.of ha7, fun pt hpt => ⟨by rw [sizeLine_eq]; show 2 ≤ 16777216; decide, fun pk hpk => ?_⟩⟩⟩
      have s8 : Same H3 (upd (upd H7 pt (.tup (us1 ++ us2))) pk (.tup [iv (c.getD i 0), .ref pt])) := (s7.trans (same_upd hpt)).trans (same_upd hpk)
      have npk : pt ≠ pk := fun z => by rw [← z, upd_same] at hpk; cases hpk
      have hK : KeyAt (upd (upd H7 pt (.tup (us1 ++ us2))) pk (.tup [iv (c.getD i 0), .ref pt])) (skey S St c i) pk := by
        refine ⟨pt, upd_same, (upd_ne npk).trans ?_⟩
        rw [upd_same, eu1, eu2, ← ivs_app]
        rfl
      have hpk0 : H3 pk = none := (s7.trans (same_upd hpt)).free hpk
      generalize upd (upd H7 pt (.tup (us1 ++ us2))) pk (.tup [iv (c.getD i 0), .ref pt]) = H8 at s8 hK ⊢
      have hd8 := s8 _ _ hd3
      have hf8 := s8 _ _ hf3
      have hk8 := hk3.tups s8.tups
      -- the first of its key
      have fin : ∀ H9 xs', Same HA H9 → H9 d = some (DXO P w d xs') → KeysIn H9 xs' → KeyAt H9 (skey S St c i) pk → (∀ k, valV (xs'.map fun x => (x.1, x.2.2)) k = (fstK (skey S St c) (i + 1) k).map iv) → xs'.length ≤ i + 1 → H9 fn = some (.lst (ivs (leads (skey S St c) i))) →
          ∃ x ar ky xs, sigS p q l m ac st d fn S.e (some (iv i)) (some (.ref pa)) (some (.ref pk)) = sigS p q l m ac st d fn S.e x ar ky ∧ Same HA (upd H9 fn (.lst (ivs (leads (skey S St c) i) ++ [iv (leadOf (skey S St c) i)]))) ∧ (upd H9 fn (.lst (ivs (leads (skey S St c) i) ++ [iv (leadOf (skey S St c) i)]))) d = some (DXO P w d xs) ∧ KeysIn (upd H9 fn (.lst (ivs (leads (skey S St c) i) ++ [iv (leadOf (skey S St c) i)]))) xs ∧ (∀ k, valV (xs.map fun x => (x.1, x.2.2)) k = (fstK (skey S St c) (i + 1) k).map iv) ∧ xs.length ≤ i + 1 ∧ (upd H9 fn (.lst (ivs (leads (skey S St c) i) ++ [iv (leadOf (skey S St c) i)]))) fn = some (.lst (ivs (leads (skey S St c) (i + 1)))) := by
        intro H9 xs' s9 hd9 hk9 hK9 hv9 hl9 hf9
        have tu : Tups H9 (upd H9 fn (.lst (ivs (leads (skey S St c) i) ++ [iv (leadOf (skey S St c) i)]))) := tups_upd fun xs z => by rw [hf9] at z; cases z
        have hfA : HA fn = none := (same_upd hd).free hfn
        refine ⟨_, _, _, xs', rfl, s9.upd0 hfA, (upd_ne ndf).trans hd9, hk9.tups tu, hv9, hl9, ?_⟩
        rw [upd_same, leads_succ, ivs_app]
        rfl
      refine ⟨_, rfl, _, rfl, d, pk, skey S St c i, xs, rfl, rfl, hK, hd8, hk8, _, rfl, ?_⟩
      have hself := fstK_self (skey S St c) i
      have hsucc := fstK_succ (skey S St c) i
      rw [hv3]
      have lenI : (ivs (leads (skey S St c) i)).length < sizeLine := by rw [ivs_len, leads_len]; exact sz (by omega)
      cases e : fstK (skey S St c) i (skey S St c i) with
      | some y =>
        refine iteF ?_
        have hv' : ∀ k, valV (xs.map fun x => (x.1, x.2.2)) k = (fstK (skey S St c) (i + 1) k).map iv := fun k => by
          rw [hv3, hsucc]
          by_cases hk : skey S St c i = k
          · subst hk; rw [e]; rfl
          · rw [if_neg hk, Option.or_none]
        refine ⟨_, rfl, .inl ⟨rfl, _, SqL.of hf8⟩, _, rfl, _, rfl, d, pk, skey S St c i, xs, iv (leadOf (skey S St c) i), rfl, rfl, hK, hd8, hk8, by rw [hv', hself]; rfl, fn, _, _, rfl, rfl, hf8, lenI, ?_⟩
        exact fin H8 xs (s3.trans s8) hd8 hk8 hK hv' (by omega) hf8
      | none =>
        refine iteT ?_
        have hn' : valV (xs.map fun x => (x.1, x.2.2)) (skey S St c i) = none := by rw [hv3, e]; rfl
        have hlz : xs.length < sizeLine := sz (by omega)
        refine ⟨_, rfl, _, rfl, _, rfl, d, pk, skey S St c i, xs, rfl, rfl, hK, hd8, hk8, hlz, hn', ?_⟩
        have hdA : HA d = none := hd
        have tu : Tups H8 (upd H8 d (DXO P w d (xs ++ [(skey S St c i, pk, iv i)]))) := tups_upd fun ys z => by rw [hd8] at z; cases z
        have s9 : Same HA (upd H8 d (DXO P w d (xs ++ [(skey S St c i, pk, iv i)]))) := (s3.trans s8).upd0 hdA
        have hd9 : (upd H8 d (DXO P w d (xs ++ [(skey S St c i, pk, iv i)]))) d = some (DXO P w d (xs ++ [(skey S St c i, pk, iv i)])) := upd_same
        have hf9 : (upd H8 d (DXO P w d (xs ++ [(skey S St c i, pk, iv i)]))) fn = some (.lst (ivs (leads (skey S St c) i))) := (upd_ne (Ne.symm ndf)).trans hf8
        have hK9 := hK.tups tu
        have hk9 : KeysIn (upd H8 d (DXO P w d (xs ++ [(skey S St c i, pk, iv i)]))) (xs ++ [(skey S St c i, pk, iv i)]) := fun z hz => by
          rcases List.mem_append.mp hz with hz | hz
          · exact (hk8 z hz).tups tu
          · rw [List.mem_singleton.mp hz]; exact hK9
        have hv' : ∀ k, valV ((xs ++ [(skey S St c i, pk, iv i)]).map fun x => (x.1, x.2.2)) k = (fstK (skey S St c) (i + 1) k).map iv := fun k => by
          rw [List.map_append, List.map_cons, List.map_nil, valV_snoc _ _ _ _ hn', hv3, hsucc]
          by_cases hk : k = skey S St c i
          · subst hk; rw [if_pos rfl, if_pos rfl, e]; rfl
          · rw [if_neg hk, if_neg (Ne.symm hk), Option.or_none]
        refine ⟨_, rfl, .inl ⟨rfl, _, SqL.of hf9⟩, _, rfl, _, rfl, d, pk, skey S St c i, _, iv (leadOf (skey S St c) i), rfl, rfl, hK9, hd9, hk9, by rw [hv', hself]; rfl, fn, _, _, rfl, rfl, hf9, lenI, ?_⟩
        exact fin _ _ s9 hd9 hk9 hK9 hv' (by rw [List.length_append, List.length_singleton]; omega) hf9
    · rintro σ H3 ⟨x, ar, ky, xs, rfl, s3, hd3, hk3, hv3, hl3, hf3⟩
      exact ⟨_, rfl, k St fn H3 (sA.trans s3) hfn0 hf3 hSt1 hSt2⟩
end
end My
end

section
/-! leaders, least, same_words. -/
namespace My
open PySem PySem.Spec PyProof.Rows L2
def bls (S : Rdr) : List V := (List.range S.m.length).map fun x => V.bl (S.tab.acc x)
theorem bls_len (S : Rdr) : (bls S).length = S.m.length := by unfold bls; rw [List.length_map, List.length_range]
section
variable {P : Program} {w : World} {K : PySem.W.Frag} {mg : Str → Option Value} {base : Heap}
def spLeaders : Sp := fun vs H Q _ => ∃ n p q S, vs = [.ref p, .ref q] ∧ RdAt H p S ∧ Valid n S ∧ (∀ x, x < S.m.length → ∃ w, Word n w ∧ val S.tab w = x) ∧ n ≤ 60 ∧ S.m.length ≤ 300 ∧ H q = some (.lst (bls S)) ∧
  ∀ f c H', Same H H' → H f = none → H' f = some (.lst (ivs c)) → IsLead S.m.length (Syn S) c → Q (.ref f) H'
abbrev nmLeaders : List Str := ["reader", "keys", "first", "classes", "x", "key", "finer"]
theorem scLeaders : FnScope nmLeaders ["reader", "keys"] (defScope sLeaders) := ⟨rfl, rfl, rfl, by decide +kernel, rfl, by decide +kernel, by decide +kernel⟩
def sigD (p q d cl : Addr) (x k f : Option V) : L2.St := [some (.ref p), some (.ref q), some (.ref d), some (.ref cl), x, k, f]
theorem ok_leaders {f fs : Addr} {fd fds : FuncData} (F : Fun K "leaders" "leaders" sLeaders f fd) (B : Blt mg) (c : Cal K mg "split" fs fds ["reader", "classes"]) (gs : FnOk P w K mg base CX0 1 fs fds ["reader", "classes"] spSplit) :
    FnOk P w K mg base CX0 2 f fd ["reader", "keys"] spLeaders := by
  refine F.ok scLeaders (fun vs H Q E h => ?_) (fun cdv A outer s H vs Q E hr h => ?_)
  · obtain ⟨n, p, q, S, rfl, _⟩ := h; rfl
  · obtain ⟨n, p, q, S, rfl, hS, Vl, gen, hn, hm, hq, k⟩ := h
    have hu := hr.units
    refine ⟨_, pss_cons (ps_set (i := 2) scLeaders.nd rfl (.inl rfl) pe_dnewB)
      (pss_cons (ps_set (i := 3) scLeaders.nd rfl (.inl rfl) (pe_lst pa_nil))
      (pss_cons (ps_for PassesOwn.never rfl (pi_enum (by rfl) B.enumerate (pa_cons (pv 1) pa_nil)) (pg_tup rfl (pgs_cons (pg_name (i := 4) scLeaders.nd rfl (.inl rfl)) (pgs_cons (pg_name (i := 5) scLeaders.nd rfl (.inl rfl)) pgs_nil)))
        (pss_cons (ps_if (pt_cmpR op_bnotin (pv 5) (pv 2) (by rfl)) (pss_one (ps_asg (pv 4) (pg_sub (pv 2) (pv 5) set_dictB))) pss_nil)
        (pss_one (ps_expr (pe_bm PySem.F.plainAttrs_list PySem.F.slot_list_append PySem.F.type_list_append mt_append (pv 3) (pa_cons (pe_ix ix_dictB (pv 2) (pv 5) (fun _ _ => rfl)) pa_nil))))))
      (pss_cons (ps_set (i := 6) scLeaders.nd rfl (.inl rfl) (pe_call gs hr rfl c.mg c.kp c.b .nil pass0 (pa_cons (pv 0) (pa_cons (pv 3) pa_nil))))
      (pss_cons (ps_while PassesOwn.never (pt_cmpR (op_neD hu) (pv 6) (pv 3) (nomark _))
        (pss_cons (ps_set (i := 3) scLeaders.nd rfl (.inl rfl) (pv 6))
        (pss_one (ps_set (i := 6) scLeaders.nd rfl (.inl rfl) (pe_call gs hr rfl c.mg c.kp c.b .nil pass0 (pa_cons (pv 0) (pa_cons (pv 3) pa_nil)))))))
      (pss_one (ps_ret (pv 3))))))), ?_⟩
    refine fun d hd => ⟨Nat.zero_le _, fun cl hcl => ?_⟩
    have hcl0 : H cl = none := (same_upd hd).free hcl
    have sB : Same H (upd (upd H d (DBO P w d [])) cl (.lst [])) := (same_upd hd).trans (same_upd hcl)
    have ndf : d ≠ cl := fun z => by rw [← z, upd_same] at hcl; cases hcl
    have hdB : (upd (upd H d (DBO P w d [])) cl (.lst [])) d = some (DBO P w d []) := (upd_ne ndf).trans upd_same
    have hfB : (upd (upd H d (DBO P w d [])) cl (.lst [])) cl = some (.lst []) := upd_same
    generalize hHB : upd (upd H d (DBO P w d [])) cl (.lst []) = HB at sB hdB hfB
    rw [show (upd (upd H d (DBO (cxOf CX0 P w K mg base nmLeaders "leaders" (defScope sLeaders) f cdv A outer s H E).nox.prog (cxOf CX0 P w K mg base nmLeaders "leaders" (defScope sLeaders) f cdv A outer s H E).nox.w d [])) cl (.lst [])) = HB from hHB]
    have sz : ∀ {j : Nat}, j ≤ 600 → j < sizeLine := fun h => by rw [sizeLine_eq]; omega
    refine ⟨_, rfl, q, bls S, rfl, SqL.of (sB _ _ hq), for_it (walk_enum (xs := bls S)) (fun i σ H' => ∃ x ky kvs, σ = sigD p q d cl x ky none ∧ Same H H' ∧ H' d = some (DBO P w d kvs) ∧ (∀ k, valV kvs k = (fstK S.tab.acc i k).map iv) ∧ kvs.length ≤ i ∧ H' cl = some (.lst (ivs (leads S.tab.acc i))))
      ⟨none, none, [], rfl, sB, hdB, fun _ => rfl, Nat.le_refl _, hfB⟩ (fun i σ H' _ ⟨_, _, _, _, h, _⟩ => SqL.of (h _ _ hq)) ?_ ?_⟩
    · rintro i v σ H8 H9 hi ⟨xo, ko, kvs, rfl, s8, hd8, hv8, hl8, hc8⟩ ⟨T0, x1, x2, rfl, nT, rfl, hx1, hx2⟩
      cases hx1
      have him : i < S.m.length := by rw [bls_len] at hi; exact hi
      have sT : Same H8 (upd H8 T0 (.tup [.int (i : Nat), x2])) := same_upd nT
      have hb : x2 = .bl (S.tab.acc i) := by
        replace hx2 : (bls S)[i]? = some x2 := hx2
        unfold bls at hx2
        rw [List.getElem?_map, List.getElem?_range him] at hx2
        exact (Option.some.inj hx2).symm
      subst hb
      refine ⟨T0, _, rfl, SqT.of upd_same, rfl, _, [_], rfl, _, [], rfl, rfl, ?_⟩
      have hd9 := sT _ _ hd8
      have hc9 := sT _ _ hc8
      have s9 := s8.trans sT
      generalize upd H8 T0 (.tup [.int (i : Nat), .bl (S.tab.acc i)]) = H9 at sT hd9 hc9 s9 ⊢
      have hself := fstK_self S.tab.acc i
      have hsucc := fstK_succ S.tab.acc i
      have lenI : (ivs (leads S.tab.acc i)).length < sizeLine := by rw [ivs_len, leads_len]; exact sz (by omega)
      have fin : ∀ H10 kvs', Same H H10 → H10 d = some (DBO P w d kvs') → (∀ k, valV kvs' k = (fstK S.tab.acc (i + 1) k).map iv) → kvs'.length ≤ i + 1 → H10 cl = some (.lst (ivs (leads S.tab.acc i))) →
          ∃ x ky kvs, sigD p q d cl (some (.int (i : Nat))) (some (.bl (S.tab.acc i))) none = sigD p q d cl x ky none ∧ Same H (upd H10 cl (.lst (ivs (leads S.tab.acc i) ++ [iv (leadOf S.tab.acc i)]))) ∧ (upd H10 cl (.lst (ivs (leads S.tab.acc i) ++ [iv (leadOf S.tab.acc i)]))) d = some (DBO P w d kvs) ∧ (∀ k, valV kvs k = (fstK S.tab.acc (i + 1) k).map iv) ∧ kvs.length ≤ i + 1 ∧ (upd H10 cl (.lst (ivs (leads S.tab.acc i) ++ [iv (leadOf S.tab.acc i)]))) cl = some (.lst (ivs (leads S.tab.acc (i + 1)))) := by
        intro H10 kvs' s10 hd10 hv10 hl10 hc10
        refine ⟨_, _, kvs', rfl, s10.upd0 hcl0, (upd_ne ndf).trans hd10, hv10, hl10, ?_⟩
        rw [upd_same, leads_succ, ivs_app]
        rfl
      refine ⟨_, rfl, _, rfl, S.tab.acc i, d, kvs, rfl, rfl, hd9, _, rfl, ?_⟩
      rw [hv8]
      cases e : fstK S.tab.acc i (S.tab.acc i) with
      | some y =>
        refine iteF ?_
        have hv' : ∀ k, valV kvs k = (fstK S.tab.acc (i + 1) k).map iv := fun k => by
          rw [hv8, hsucc]
          by_cases hk : S.tab.acc i = k
          · subst hk; rw [e]; rfl
          · rw [if_neg hk, Option.or_none]
        refine ⟨_, rfl, .inl ⟨rfl, _, SqL.of hc9⟩, _, rfl, _, rfl, d, S.tab.acc i, kvs, iv (leadOf S.tab.acc i), rfl, rfl, hd9, by rw [hv', hself]; rfl, cl, _, _, rfl, rfl, hc9, lenI, ?_⟩
        exact fin H9 kvs s9 hd9 hv' (by omega) hc9
      | none =>
        refine iteT ?_
        have hn' : valV kvs (S.tab.acc i) = none := by rw [hv8, e]; rfl
        have hlz : kvs.length < sizeLine := sz (by rw [bls_len] at hi; omega)
        refine ⟨_, rfl, _, rfl, _, rfl, d, S.tab.acc i, kvs, rfl, rfl, hd9, hlz, hn', ?_⟩
        rw [putK_new _ hn']
        have hd0 : H d = none := hd
        have s10 : Same H (upd H9 d (DBO P w d (kvs ++ [(S.tab.acc i, iv i)]))) := s9.upd0 hd0
        have hd10 : (upd H9 d (DBO P w d (kvs ++ [(S.tab.acc i, iv i)]))) d = some (DBO P w d (kvs ++ [(S.tab.acc i, iv i)])) := upd_same
        have hc10 : (upd H9 d (DBO P w d (kvs ++ [(S.tab.acc i, iv i)]))) cl = some (.lst (ivs (leads S.tab.acc i))) := (upd_ne (Ne.symm ndf)).trans hc9
        have hv' : ∀ k, valV (kvs ++ [(S.tab.acc i, iv i)]) k = (fstK S.tab.acc (i + 1) k).map iv := fun k => by
          rw [valV_snoc _ _ _ _ hn', hv8, hsucc]
          by_cases hk : k = S.tab.acc i
          · subst hk; rw [if_pos rfl, if_pos rfl, e]; rfl
          · rw [if_neg hk, if_neg (Ne.symm hk), Option.or_none]
        refine ⟨_, rfl, .inl ⟨rfl, _, SqL.of hc10⟩, _, rfl, _, rfl, d, S.tab.acc i, _, iv (leadOf S.tab.acc i), rfl, rfl, hd10, by rw [hv', hself]; rfl, cl, _, _, rfl, rfl, hc10, lenI, ?_⟩
        exact fin _ _ s10 hd10 hv' (by rw [List.length_append, List.length_singleton]; omega) hc10
    rintro σ H3 ⟨x, ky, kvs, rfl, s3, hd3, hv3, hl3, hc3⟩
    rw [bls_len] at hc3
    have Ch0 := Ch.start Vl
    generalize leads S.tab.acc S.m.length = c0 at hc3 Ch0
    -- finer = split(reader, classes)
    refine ⟨_, rfl, _, rfl, n, p, cl, S, c0, rfl, hS.tups s3.tups, Vl.toShape, hn, hm, hc3, Ch0.ld.len, fun St f1 H4 s4 hf1 hf4 hS1 hS2 => ?_⟩
    refine ⟨fun μ σ H' => ∃ cl fn c St, σ = sigD p q d cl x ky (some (.ref fn)) ∧ Same H H' ∧ H cl = none ∧ H' cl = some (.lst (ivs c)) ∧ H fn = none ∧ H' fn = some (.lst (ivs (leads (skey S St c) S.m.length))) ∧ Ch S c ∧ (∀ a, a < n → S.tab.l a ∈ St) ∧ (∀ z ∈ St, z < S.m.length) ∧ μ = S.m.length * S.m.length - c.sum,
      ⟨_, cl, f1, c0, St, rfl, s3.trans s4, hcl0, s4 _ _ hc3, s3.free hf1, hf4, Ch0, hS1, hS2, rfl⟩, ?_⟩
    rintro μ σ H5 ⟨cl, fn, c, St, rfl, s5, hcl, hc5, hfn, hf5, C, hS1, hS2, rfl⟩
    refine ⟨_, rfl, _, rfl, dLst _, dLst _, dp_lst hf5, dp_lst hc5, dLst_shaped _, dLst_shaped _, _, rfl, ?_⟩
    rw [dLst_eqv]
    by_cases e : leads (skey S St c) S.m.length = c
    · rw [decide_eq_true e]
      refine iteF ⟨_, rfl, k cl c H5 s5 hcl hc5 (C.done Vl gen hS1 e)⟩
    · rw [decide_eq_false e]
      have C' := C.next Vl hS2
      refine iteT ⟨fun σ' H' => ∃ cl fn c' St, σ' = sigD p q d cl x ky (some (.ref fn)) ∧ Same H H' ∧ H cl = none ∧ H' cl = some (.lst (ivs c')) ∧ H fn = none ∧ H' fn = some (.lst (ivs (leads (skey S St c') S.m.length))) ∧ Ch S c' ∧ (∀ a, a < n → S.tab.l a ∈ St) ∧ (∀ z ∈ St, z < S.m.length) ∧ S.m.length * S.m.length - c'.sum < S.m.length * S.m.length - c.sum,
        fun σ' H' ⟨cl, fn, c', St, e1, e2, e3, e4, e5, e6, e7, e8, e9, e10⟩ => ⟨_, e10, cl, fn, c', St, e1, e2, e3, e4, e5, e6, e7, e8, e9, rfl⟩, ?_⟩
      have g1 := C.grow e
      have g2 := C'.bound
      refine ⟨_, rfl, _, rfl, _, rfl, n, p, fn, S, _, rfl, hS.tups s5.tups, Vl.toShape, hn, hm, hf5, C'.ld.len, fun St2 f2 H6 s6 hf6 hf62 hS3 hS4 => ?_⟩
      exact ⟨fn, f2, _, St2, rfl, s5.trans s6, hfn, s6 _ _ hf5, s5.free hf6, hf62, C', hS3, hS4, by omega⟩
/-! ### least -/
def spLeast (Pt : Nat) : Sp := fun vs H Q _ => ∃ n p R, vs = [.ref p] ∧ RdAt H p R ∧ Valid n R ∧ n ≤ 60 ∧ R.m.length ≤ 300 ∧ GxR.TabG H Pt ∧
  ∀ q H' M, Kp H H' → GxR.TabG H' Pt → IsLeast n R M → RdAt H' q M → Q (.ref q) H'
/-- made_reader of any Leaders -/
def spMadeL (C : Addr) (Pt : Nat) : Sp := fun vs H Q E => ∃ (n : Nat) (S : Rdr) (c : List Nat), Shape n S ∧ c.length = S.m.length ∧ (∀ x, x < S.m.length → c.getD x 0 < S.m.length) ∧ n ≤ 100 ∧ S.m.length ≤ 300 ∧
  spMade kInt (leadTab S c) n S.m.length Pt (fun H t => IsLd C H t S c) vs H Q E
theorem lead_iter {n : Nat} {S : Rdr} {c : List Nat} (V : Shape n S) (hb : ∀ x, x < S.m.length → c.getD x 0 < S.m.length) (k : Nat) : (iter (leadTab S c) n k).length ≤ S.m.length := by
  have := iter_len (T := leadTab S c) (n := n) (d := List.range S.m.length) (List.mem_range.mpr (hb _ V.e)) (fun a ha => List.mem_range.mpr (hb _ (V.lt ha))) (fun x y hx hy => List.mem_range.mpr (hb _ (V.jt (List.mem_range.mp hx) (List.mem_range.mp hy)))) k
  rwa [List.length_range] at this
theorem ok_madeL {fm : Addr} {fdm : FuncData} {Pt : Nat} (T : TT P w K mg base) (G : LL P w K mg base T) (U : MadeOk P w K mg base Pt fm fdm) : FnOk P w K mg base CX0 4 fm fdm ["table", "count"] (spMadeL G.C Pt) :=
  ⟨fun vs H Q E ⟨n, S, c, V, hc, hb, hn, hm, h⟩ => (U.ok kInt (leadTab S c) n S.m.length _ (mLead T G V hc hb) hn (lead_iter V hb) hm).len vs H Q E h,
   fun A outer s H args us vs Q E hr he hbd hv ⟨n, S, c, V, hc, hb, hn, hm, h⟩ => (U.ok kInt (leadTab S c) n S.m.length _ (mLead T G V hc hb) hn (lead_iter V hb) hm).run A outer s H args us vs Q E hr he hbd hv h⟩
abbrev nmLeast : List Str := ["reader", "small", "keys", "x"]
theorem scLeast : FnScope nmLeast ["reader"] (defScope sLeast) := ⟨rfl, rfl, rfl, by decide +kernel, rfl, by decide +kernel, by decide +kernel⟩
theorem ok_least {f fn fm fl : Addr} {fd fdn fdm fdl : FuncData} {Pt : Nat} (F : Fun K "least" "least" sLeast f fd) (B : Blt mg) (T : TT P w K mg base) (G : LL P w K mg base T) (cn : Cal K mg "numbered" fn fdn ["reader"]) (gn : FnOk P w K mg base CX0 5 fn fdn ["reader"] (spNumbered Pt))
    (cl : Cal K mg "leaders" fl fdl ["reader", "keys"]) (gl : FnOk P w K mg base CX0 2 fl fdl ["reader", "keys"] spLeaders) (U : MadeOk P w K mg base Pt fm fdm) : FnOk P w K mg base CX0 6 f fd ["reader"] (spLeast Pt) := by
  refine F.ok scLeast (fun vs H Q E h => ?_) (fun cdv A outer s H vs Q E hr h => ?_)
  · obtain ⟨n, p, R, rfl, _⟩ := h; rfl
  · obtain ⟨n, p, R, rfl, hR, Vl, hn, hm, hTg, k⟩ := h
    obtain ⟨l, m, a, ms, h1, h2, h3, h4, h5⟩ := id hR
    refine ⟨_, pss_cons (ps_set (i := 1) scLeast.nd rfl (.inr rfl) (pe_call gn hr rfl cn.mg cn.kp cn.b .nil pass0 (pa_cons (pv 0) pa_nil)))
      (pss_cons (ps_setLc (i := 2) (own := [("x", 3)]) (g := gName 3) (tt := tYes) rfl scLeast.nd rfl rfl (sw_true rfl rfl rfl (by decide +kernel)) (pi_range1 rfl B.range (pa_cons (pe_callB call_len_seq (by rfl) B.len PySem.boot_len (pa_cons (pe_ix ix_tup (pv 1) pe_int (fun _ _ => rfl)) pa_nil)) pa_nil)) (blkOk_by (N := nmLeast) (sc := defScope sLeast) (by decide +kernel)) (fun _ _ _ _ _ => pg_name (i := 3) scLeast.nd rfl (Or.inl rfl)) (fun _ _ _ _ _ => pts_nil)
        (fun _ _ _ _ _ => pe_cmpR (op_inK K rfl) (pv 3) (pe_ix (ix_tupK K rfl) (pv 1) pe_int (fun _ _ => rfl)) (by rfl)))
      (pss_one (ps_ret (pe_call (ok_madeL T G U) (hr.mono (by decide)) rfl U.c.mg U.c.kp U.c.b .nil pass0 (pa_cons (pe_make G.M G.gI (hr.mono (by decide)) rfl G.mgC G.bI .nil pass0 (pa_cons (pv 1) (pa_cons (pe_call gl (hr.mono (by decide)) rfl cl.mg cl.kp cl.b .nil pass0 (pa_cons (pv 1) (pa_cons (pv 2) pa_nil))) pa_nil)))
        (pa_cons (pe_callB call_len_seq (by rfl) B.len PySem.boot_len (pa_cons (pe_ix ix_tup (pv 0) pe_int (fun _ _ => rfl)) pa_nil)) pa_nil)))))), ?_⟩
    refine ⟨_, rfl, n, p, R, rfl, hR, Vl.toShape, by omega, hm, hTg, fun ps H1 L1 k1 t1 C1 hs1 => ?_⟩
    have VS := tabOf_valid C1 Vl.mon
    have gen := tabOf_gen C1 Vl.mon
    have hSm : (tabOf R.tab n L1).m.length ≤ 300 := by
      obtain ⟨j, rfl⟩ := C1.it
      rw [tabOf_len]
      exact Nat.le_trans (shape_iter Vl.toShape j) hm
    generalize eS : tabOf R.tab n L1 = S at VS gen hSm hs1
    obtain ⟨l1, m1, a1, ms1, g1, g2, g3, g4, g5⟩ := id hs1
    -- keys
    refine ⟨_, rfl, ps, _, 2, _, rfl, rfl, SqT.of g1, atI_nat (j := 2) rfl, m1, _, rfl, .inr (SqT.of g3), ((S.m.length : Nat) : Int), by rw [← g4.len], by omega, by omega, fun D hD => ?_⟩
    refine lc_fill (xs := List.range S.m.length) List.length_range (walk_range (lo := 0) (n := S.m.length)) (fun _ => true) (fun _ x v => v = V.bl (S.tab.acc x)) (fun _ _ _ _ _ h => h) hD (by rw [List.length_range, sizeLine_eq]; omega) (fun _ _ => trivial) ?_ ?_
    · rintro i z x H4' H4 Ky Kn hz s4 ⟨rfl, hv⟩ hy _
      have hi : i < S.m.length := by
        have := (List.getElem?_eq_some_iff.mp hz).1
        rwa [List.length_range] at this
      obtain rfl : i = z := by
        rw [List.getElem?_range hi] at hz; exact Option.some.inj hz
      replace hv : x = iv i := hv.trans (by show V.int (0 + (i : Int)) = iv i; rw [Int.zero_add])
      subst hv
      refine lc_yes rfl ?_
      refine ⟨_, rfl, _, rfl, ps, _, 3, _, rfl, rfl, SqT.of (s4 _ _ g1), atI_nat (j := 3) rfl, a1, _, rfl, .inr (SqT.of (s4 _ _ g5)), rfl, flat_ivs _, ?_⟩
      refine hy rfl _ _ (Same.refl _) ?_
      show V.bl (inV (iv i) (ivs S.a)) = _
      rw [inV_ivs]; rfl
    rintro H2 bs s2 hbs rbs
    rw [filter_yes] at rbs
    have ebs : bs = bls S := by
      have : ∀ {xs : List Nat} {us : List V}, Paired (fun x v => v = V.bl (S.tab.acc x)) xs us → us = xs.map fun x => V.bl (S.tab.acc x) := by
        intro xs us h
        induction h with
        | nil => rfl
        | cons r _ ih => rw [r, ih]; rfl
      exact this rbs
    subst ebs
    refine ⟨_, rfl, _, rfl, _, rfl, n, ps, D, S, rfl, hs1.tups s2.tups, VS, gen, hn, hSm, hbs, fun pc c H3 s3 hpc hc3 hc => ?_⟩
    refine fun x dx nx ndx nex => ⟨x, ps, pc, dx, rfl, upd_same, rfl, ?_⟩
    generalize e2 : upd (upd (upd H3 dx (.own x)) x (.ins G.C dx [])) x (.ins G.C dx (fsL ps pc)) = H4
    have s4 : Same H3 H4 := by rw [← e2]; exact ((same_upd ndx).upd0 nx).upd0 nx
    have hx4 : H4 x = some (.ins G.C dx (fsL ps pc)) := by rw [← e2]; exact upd_same
    have s14 := (s2.trans s3).trans s4
    have k4 := k1.trans s14.kp
    refine ⟨_, rfl, p, _, 1, _, rfl, rfl, SqT.of (k4.tups _ _ h1), atI_nat (j := 1) rfl, l, _, rfl, .inr (SqT.of (k4.tups _ _ h2)), ?_⟩
    rw [ivs_len, Vl.ln]
    refine ⟨n, S, c, VS.toShape, hc.len, fun x hx => lead_lt hc hx, by omega, hSm, x, rfl, ⟨dx, ps, pc, hx4, hs1.tups s14.tups, s4 _ _ hc3⟩, tabG_same t1 s14, fun q H' L2 k5 t5 C2 hq => ?_⟩
    subst eS
    exact k q H' _ (k4.trans k5) t5 ⟨L1, c, L2, C1, hc, C2, rfl⟩ hq
/-! ### same_words -/
def spSame (Pt : Nat) : Sp := fun vs H Q _ => ∃ n p q R S, vs = [.ref p, .ref q] ∧ RdAt H p R ∧ RdAt H q S ∧ Valid n R ∧ Valid n S ∧ n ≤ 60 ∧ R.m.length ≤ 300 ∧ S.m.length ≤ 300 ∧ GxR.TabG H Pt ∧
  ∀ H' M M', Kp H H' → GxR.TabG H' Pt → IsLeast n R M → IsLeast n S M' → Q (.bl (decide (M = M'))) H'
theorem scSame : FnScope ["first", "second"] ["first", "second"] (defScope sSameWords) := ⟨rfl, rfl, rfl, by decide +kernel, rfl, by decide +kernel, by decide +kernel⟩
theorem ok_same {f fl : Addr} {fd fdl : FuncData} {Pt : Nat} (F : Fun K "same_words" "same_words" sSameWords f fd) (c : Cal K mg "least" fl fdl ["reader"]) (g : FnOk P w K mg base CX0 6 fl fdl ["reader"] (spLeast Pt)) :
    FnOk P w K mg base CX0 7 f fd ["first", "second"] (spSame Pt) := by
  refine F.ok scSame (fun vs H Q E h => ?_) (fun cdv A outer s H vs Q E hr h => ?_)
  · obtain ⟨n, p, q, R, S, rfl, _⟩ := h; rfl
  · obtain ⟨n, p, q, R, S, rfl, hR, hS, V1, V2, hn, m1, m2, hTg, k⟩ := h
    refine ⟨_, pss_one (ps_ret (pe_cmpR (op_eqD hr.units) (pe_call g hr rfl c.mg c.kp c.b .nil pass0 (pa_cons (pv 0) pa_nil)) (pe_call g hr rfl c.mg c.kp c.b .nil pass0 (pa_cons (pv 1) pa_nil)) (nomark _))), ?_⟩
    refine ⟨_, rfl, n, p, R, rfl, hR, V1, hn, m1, hTg, fun a H1 M k1 t1 l1 r1 => ?_⟩
    refine ⟨_, rfl, n, q, S, rfl, hS.tups k1.tups, V2, hn, m2, t1, fun b H2 M' k2 t2 l2 r2 => ?_⟩
    refine ⟨dRdr M, dRdr M', (r1.tups k2.tups).dp, r2.dp, dRdr_shaped _, dRdr_shaped _, ?_⟩
    rw [dRdr_eqv]
    exact k H2 M M' (k1.trans k2) t2 l1 l2
end
end My
end

section
/-! The law's draws. -/
namespace My
open PySem PySem.Spec PyProof.Rows L2
/-- the state of the draws at st, at most z of them made -/
def DrawSt (H : Hp) (st b : Addr) (z : Nat) : Prop := ∃ (a : Int) (p : Nat) (c : Int) (xs : List Int), H st = some (.lst [.int a, iv p, .ref b, .int c]) ∧ H b = some (.lst (xs.map V.int)) ∧ st ≠ b ∧ p ≤ z ∧ 0 ≤ c ∧ c < 2147483647
section
variable {H H' : Hp} {st b : Addr} {z y : Nat}
theorem DrawSt.le (h : DrawSt H st b z) (l : z ≤ y) : DrawSt H st b y := by
  obtain ⟨a, p, c, xs, h1, h2, h3, h4, h5⟩ := h
  exact ⟨a, p, c, xs, h1, h2, h3, by omega, h5⟩
theorem DrawSt.same (s : Same H H') (h : DrawSt H st b z) : DrawSt H' st b z := by
  obtain ⟨a, p, c, xs, h1, h2, h3, h4, h5⟩ := h
  exact ⟨a, p, c, xs, s _ _ h1, s _ _ h2, h3, h4, h5⟩
theorem DrawSt.kp (s : Kp H H') (h : DrawSt H st b z) : DrawSt H' st b z := by
  obtain ⟨a, p, c, xs, h1, h2, h3, h4, h5⟩ := h
  exact ⟨a, p, c, xs, s.lst h1, s.lst h2, h3, h4, h5⟩
theorem DrawSt.lst (h : DrawSt H st b z) : ∃ xs, H st = some (.lst xs) := by
  obtain ⟨a, p, c, xs, h1, _⟩ := h; exact ⟨_, h1⟩
theorem DrawSt.ne (h : DrawSt H st b z) : H st ≠ none := by
  obtain ⟨xs, e⟩ := h.lst; rw [e]; exact fun q => nomatch q
theorem DrawSt.neB (h : DrawSt H st b z) : H b ≠ none := by
  obtain ⟨a, p, c, xs, h1, h2, _⟩ := h; rw [h2]; exact fun q => nomatch q
theorem DrawSt.notup (h : DrawSt H st b z) : ∀ xs, H st ≠ some (.tup xs) := by
  obtain ⟨xs, e⟩ := h.lst; rw [e]; exact fun _ q => nomatch q
theorem DrawSt.upd {p : Addr} {o : HO} (h : DrawSt H st b z) (n1 : st ≠ p) (n2 : b ≠ p) : DrawSt (upd H p o) st b z := by
  obtain ⟨a, q, c, xs, h1, h2, h3⟩ := h
  exact ⟨a, q, c, xs, (upd_ne n1).trans h1, (upd_ne n2).trans h2, h3⟩
theorem DrawSt.ne1 (h : DrawSt H st b z) {p : Addr} (f : H p = none) : st ≠ p := fun e => h.ne (e ▸ f)
theorem DrawSt.ne2 (h : DrawSt H st b z) {p : Addr} (f : H p = none) : b ≠ p := fun e => h.neB (e ▸ f)
end
/-- what draws leave -/
structure Drawn (st : Addr) (H H' : Hp) : Prop where
  up : Upto st H H'
  tu : Tups H H'
  fr : ∀ p, H' p = none → H p = none
theorem Drawn.of {st b b' : Addr} {H H' : Hp} {z y : Nat} (u : Upto st H H') (h : DrawSt H st b z) (h' : DrawSt H' st b' y) : Drawn st H H' := ⟨u, u.tups h.notup, fun _ q => u.free h'.ne q⟩
theorem Drawn.refl (st : Addr) (H : Hp) : Drawn st H H := ⟨Upto.refl _ _, Tups.refl _, fun _ h => h⟩
theorem Drawn.trans {st : Addr} {H H1 H2 : Hp} (a : Drawn st H H1) (b : Drawn st H1 H2) : Drawn st H H2 := ⟨a.up.trans b.up, a.tu.trans b.tu, fun p h => a.fr p (b.fr p h)⟩
theorem _root_.L2.Same.drawn {H H' : Hp} (s : Same H H') (st : Addr) : Drawn st H H' := ⟨s.upto st, s.tups, fun _ h => s.free h⟩
theorem Drawn.lst {st : Addr} {H H' : Hp} (d : Drawn st H H') {p : Addr} {o : HO} (h : H p = some o) (n : p ≠ st) : H' p = some o := d.up p o n h
/-- a new object -/
theorem Drawn.upd0 {st : Addr} {H0 H : Hp} {p : Addr} {o : HO} (d : Drawn st H0 H) (h : H0 p = none) (np : ∀ xs, H p ≠ some (.tup xs)) : Drawn st H0 (upd H p o) :=
  ⟨d.up.upd0 h, d.tu.trans (tups_upd np), fun q e => by
    by_cases z : q = p
    · rw [z]; exact h
    · rw [upd_ne z] at e; exact d.fr q e⟩
theorem first_rest {G : Int → Prop} {R : Prop} (h : ∀ x, G x) (f : (∀ x, G x) → R) : R := f h
section
variable {P : Program} {w : World} {K : PySem.W.Frag} {mg : Str → Option Value} {base : Heap}
def spDraw : Sp := fun vs H Q _ => ∃ (st b : Addr) (z lim : Nat), vs = [.ref st, iv lim] ∧ DrawSt H st b z ∧ 0 < lim ∧ lim ≤ 100 ∧ z ≤ 10000 ∧ ∀ H' d, Upto st H H' → DrawSt H' st b (z + 1) → d < lim → Q (iv d) H'
abbrev nmDraw : List Str := ["_law_state", "_law_limit", "_law_position", "_law_cell", "_law_mixed_here", "_law_digit"]
theorem scDraw : FnScope nmDraw ["_law_state", "_law_limit"] (defScope sDraw) := ⟨rfl, rfl, rfl, by decide +kernel, rfl, by decide +kernel, by decide +kernel⟩
theorem ok_draw {f : Addr} {fd : FuncData} (F : Fun K "_law_draw" "_law_draw" sDraw f fd) (B : Blt mg) : FnOk P w K mg base CX0 1 f fd ["_law_state", "_law_limit"] spDraw := by
  refine F.ok scDraw (fun vs H Q E h => ?_) (fun cdv A outer s H vs Q E hr h => ?_)
  · obtain ⟨st, b, z, lim, rfl, _⟩ := h; rfl
  · obtain ⟨st, b, z, lim, rfl, hS, hl, hl2, hz, k⟩ := h
    refine ⟨_, pss_cons (ps_if (pt_cmpR op_lt (pe_ix ix_list (pv 0) pe_int (fun _ _ => rfl)) (pv 1) (nomark _))
        (pss_cons (ps_set (i := 2) scDraw.nd rfl (.inl rfl) (pe_ix ix_list (pv 0) pe_int (fun _ _ => rfl)))
        (pss_cons (ps_asg (pe_op op_add (pv 2) pe_int) (pg_sub (pv 0) pe_int set_list))
        (pss_cons (ps_set (i := 3) scDraw.nd rfl (.inl rfl) pe_int)
        (pss_cons (ps_if (pt_cmpR op_lt (pv 2) (pe_callB call_len_seq (by rfl) B.len PySem.boot_len (pa_cons (pe_ix ix_list (pv 0) pe_int (fun _ _ => rfl)) pa_nil)) (nomark _))
          (pss_one (ps_set (i := 3) scDraw.nd rfl (.inl rfl) (pe_ix ix_list (pe_ix ix_list (pv 0) pe_int (fun _ _ => rfl)) (pv 2) (fun _ _ => rfl)))) pss_nil)
        (pss_one (ps_if (pt_cmpR op_ge (pv 3) (pe_op op_pow pe_int pe_int) (nomark _))
          (pss_one (ps_asg (pv 3) (pg_sub (pv 0) pe_int set_list)))
          (pss_cons (ps_asg (pe_op op_mod (pe_callTy call_int1 (by rfl) B.int (by decide +kernel) (pa_cons (pe_op op_mul (pe_op op_add (pe_op op_add (pe_op op_add (pe_ix ix_list (pv 0) pe_int (fun _ _ => rfl)) (pe_op op_mod (pe_callTy call_int1 (by rfl) B.int (by decide +kernel) (pa_cons (pv 3) pa_nil)) pe_int)) (pv 2)) pe_int) pe_int) pa_nil)) pe_int) (pg_sub (pv 0) pe_int set_list))
          (pss_cons (ps_set (i := 4) scDraw.nd rfl (.inl rfl) (pe_op op_mod (pe_callTy call_int1 (by rfl) B.int (by decide +kernel) (pa_cons (pe_op op_add (pe_op op_mul (pe_ix ix_list (pv 0) pe_int (fun _ _ => rfl)) pe_int) pe_int) pa_nil)) pe_int))
          (pss_one (ps_asg (pe_op op_add (pe_op op_mul (pv 4) pe_int) (pe_op op_mod (pe_callTy call_int1 (by rfl) B.int (by decide +kernel) (pa_cons (pe_op op_add (pe_op op_mul (pv 4) pe_int) (pe_ix ix_list (pv 0) pe_int (fun _ _ => rfl))) pa_nil)) pe_int)) (pg_sub (pv 0) pe_int set_list))))))))))) pss_nil)
      (pss_cons (ps_set (i := 5) scDraw.nd rfl (.inl rfl) (pe_op op_mod (pe_callTy call_int1 (by rfl) B.int (by decide +kernel) (pa_cons (pe_ix ix_list (pv 0) pe_int (fun _ _ => rfl)) pa_nil)) (pv 1)))
      (pss_cons (ps_asg (pe_op op_fdivW (pe_ix ix_list (pv 0) pe_int (fun _ _ => rfl)) (pv 1)) (pg_sub (pv 0) pe_int set_list))
      (pss_one (ps_ret (pv 5))))), ?_⟩
    obtain ⟨a, p, c, xs, h1, h2, h3, h4, h5, h6⟩ := hS
    have hl' : (0 : Int) < (lim : Int) := by omega
    have wd : ∀ a : Int, CDivW a (lim : Int) := fun a => wide_div hl' (b := 7) (by omega) (by decide) (by decide)
    have fin : ∀ (a' : Int) (p' : Nat) (c' : Int) (H' : Hp), Upto st H H' → p' ≤ z + 1 → 0 ≤ c' → c' < 2147483647 → Q (.int (a' % (lim : Int))) (upd H' st (.lst [.int (a' / (lim : Int)), iv p', .ref b, .int c'])) := by
      intro a' p' c' H' u hp h0 hc
      have e : V.int (a' % (lim : Int)) = iv (a' % (lim : Int)).toNat := by
        show V.int _ = V.int (((a' % (lim : Int)).toNat : Nat) : Int)
        rw [Int.toNat_of_nonneg (Int.emod_nonneg _ (by omega))]
      rw [e]
      have hlt : (a' % (lim : Int)).toNat < lim := by
        have := Int.emod_lt_of_pos a' hl'
        have := Int.emod_nonneg a' (b := (lim : Int)) (by omega)
        omega
      refine k _ _ u.updx ⟨_, p', c', xs, upd_same, ?_, h3, hp, h0, hc⟩ hlt
      rw [upd_ne (Ne.symm h3)]
      exact u b _ (Ne.symm h3) h2
    refine ⟨_, rfl, st, _, 0, _, rfl, rfl, SqL.of h1, atI_nat (j := 0) rfl, _, rfl, a, (lim : Int), rfl, rfl, _, rfl, ite2 (fun hlt => ?_) (fun hge => ?_)⟩
    · -- a new word
      refine ⟨_, rfl, st, _, 1, _, rfl, rfl, SqL.of h1, atI_nat (j := 1) rfl, ?_⟩
      refine ⟨_, rfl, (p : Int), 1, rfl, rfl, _, rfl, st, _, 1, 1, rfl, rfl, h1, rfl, ?_⟩
      have u1 : Upto st H (upd H st (.lst [.int a, .int ((p : Int) + 1), .ref b, .int c])) := (Upto.refl _ _).updx
      have g1 : (upd H st (.lst [.int a, .int ((p : Int) + 1), .ref b, .int c])) st = some (.lst [.int a, .int ((p : Int) + 1), .ref b, .int c]) := upd_same
      have gb : (upd H st (.lst [.int a, .int ((p : Int) + 1), .ref b, .int c])) b = some (.lst (xs.map V.int)) := (upd_ne (Ne.symm h3)).trans h2
      show tSeq _ _ _ _ (upd H st (.lst [.int a, .int ((p : Int) + 1), .ref b, .int c]))
      generalize upd H st (.lst [.int a, .int ((p : Int) + 1), .ref b, .int c]) = H1 at u1 g1 gb ⊢
      -- the cell
      have ep : ((p : Int) + 1) = ((p + 1 : Nat) : Int) := by omega
      have eiv : iv (p + 1) = V.int ((p : Int) + 1) := by show V.int ((p + 1 : Nat) : Int) = _; rw [ep]
      refine first_rest (G := ?G) ?rest ?main
      case main =>
        intro rest
        refine ⟨_, rfl, _, rfl, st, _, 2, _, rfl, rfl, SqL.of g1, atI_nat (j := 2) rfl, b, _, rfl, .inl (SqL.of gb), (p : Int), ((xs.map V.int).length : Int), rfl, rfl, _, rfl, ite2 (fun h => ?_) (fun h => ?_)⟩
        · have hp : p < xs.length := by
            have := of_decide_eq_true h
            rw [List.length_map] at this
            omega
          obtain ⟨x, hx⟩ : ∃ x, xs[p]? = some x := ⟨_, List.getElem?_eq_getElem hp⟩
          refine ⟨_, rfl, st, _, 2, _, rfl, rfl, SqL.of g1, atI_nat (j := 2) rfl, _, rfl, b, _, (p : Int), .int x, rfl, rfl, SqL.of gb, atI_nat (by rw [List.getElem?_map, hx]; rfl), ?_⟩
          exact rest x
        · exact rest 0
      case rest =>
        intro x
        refine ⟨_, rfl, 10, 18, rfl, rfl, ⟨by decide, by decide, by decide⟩, x, _, rfl, rfl, _, rfl, ite2 (fun h => ?_) (fun h => ?_)⟩
        · refine ⟨_, rfl, _, rfl, st, _, 0, 0, rfl, rfl, g1, rfl, ?_⟩
          have u2 : Upto st H (upd H1 st (.lst [.int x, .int ((p : Int) + 1), .ref b, .int c])) := u1.updx
          have g2 : (upd H1 st (.lst [.int x, .int ((p : Int) + 1), .ref b, .int c])) st = some (.lst [.int x, .int ((p : Int) + 1), .ref b, .int c]) := upd_same
          show tSeq _ _ _ _ (upd H1 st (.lst [.int x, .int ((p : Int) + 1), .ref b, .int c]))
          generalize upd H1 st (.lst [.int x, .int ((p : Int) + 1), .ref b, .int c]) = H2 at u2 g2 ⊢
          refine ⟨_, rfl, st, _, 0, _, rfl, rfl, SqL.of g2, atI_nat (j := 0) rfl, .inl ⟨_, rfl, _, rfl, _, _, rfl, rfl, hl', ?_⟩⟩
          refine ⟨_, rfl, st, _, 0, _, rfl, rfl, SqL.of g2, atI_nat (j := 0) rfl, _, rfl, _, _, rfl, rfl, wd _, _, rfl, st, _, 0, 0, rfl, rfl, g2, rfl, ?_⟩
          refine ⟨_, rfl, ?_⟩
          have := fin x (p + 1) c H2 u2 (by omega) h5 h6
          rw [eiv] at this
          exact this
        · refine ⟨_, rfl, st, _, 3, _, rfl, rfl, SqL.of g1, atI_nat (j := 3) rfl, _, rfl, .inl ⟨_, rfl, _, _, rfl, rfl, (by show (0 : Int) < 2147483629; decide), _, _, rfl, rfl, _, rfl, _, _, rfl, rfl, _, _, rfl, rfl, _, _, rfl, rfl, .inl ⟨?_, ?_⟩, .inl ⟨_, rfl, _, _, rfl, rfl, (by show (0 : Int) < 2147483647; decide), ?_⟩⟩⟩
          · have := Int.emod_nonneg x (b := 2147483629) (by decide)
            omega
          · have := Int.emod_lt_of_pos x (b := 2147483629) (by decide)
            omega
          refine ⟨_, rfl, st, _, 3, 3, rfl, rfl, g1, rfl, ?_⟩
          have c1 := Int.emod_nonneg ((c + x % 2147483629 + (p : Int) + 1) * 48271) (b := 2147483647) (by decide)
          have c2 := Int.emod_lt_of_pos ((c + x % 2147483629 + (p : Int) + 1) * 48271) (b := 2147483647) (by decide)
          show tSeq _ _ _ _ (upd H1 st (.lst [.int a, .int ((p : Int) + 1), .ref b, .int ((c + x % 2147483629 + (p : Int) + 1) * 48271 % 2147483647)]))
          generalize (c + x % 2147483629 + (p : Int) + 1) * 48271 % 2147483647 = c' at c1 c2 ⊢
          have u2 : Upto st H (upd H1 st (.lst [.int a, .int ((p : Int) + 1), .ref b, .int c'])) := u1.updx
          have g2 : (upd H1 st (.lst [.int a, .int ((p : Int) + 1), .ref b, .int c'])) st = some (.lst [.int a, .int ((p : Int) + 1), .ref b, .int c']) := upd_same
          generalize upd H1 st (.lst [.int a, .int ((p : Int) + 1), .ref b, .int c']) = H2 at u2 g2 ⊢
          refine ⟨_, rfl, st, _, 3, _, rfl, rfl, SqL.of g2, atI_nat (j := 3) rfl, _, _, rfl, rfl, .inl ⟨by omega, by omega⟩, _, _, rfl, rfl, .inl ⟨_, rfl, _, _, rfl, rfl, (by show (0 : Int) < 2147483629; decide), ?_⟩⟩
          have m1 := Int.emod_nonneg (c' * 69621 + 11) (b := 2147483629) (by decide)
          have m2 := Int.emod_lt_of_pos (c' * 69621 + 11) (b := 2147483629) (by decide)
          refine ⟨_, rfl, _, _, rfl, rfl, .inl ⟨by omega, by omega⟩, _, rfl, _, _, rfl, rfl, .inl ⟨by omega, by omega⟩, _, rfl, st, _, 3, _, rfl, rfl, SqL.of g2, atI_nat (j := 3) rfl, _, _, rfl, rfl, .inl ⟨_, rfl, _, _, rfl, rfl, (by show (0 : Int) < 2147483587; decide), _, _, rfl, rfl, ?_⟩⟩
          refine ⟨_, rfl, st, _, 0, 0, rfl, rfl, g2, rfl, ?_⟩
          show tSeq _ _ _ _ (upd H2 st (.lst [.int ((c' * 69621 + 11) % 2147483629 * 2147483647 + ((c' * 69621 + 11) % 2147483629 * 30011 + c') % 2147483587), .int ((p : Int) + 1), .ref b, .int c']))
          generalize (c' * 69621 + 11) % 2147483629 * 2147483647 + ((c' * 69621 + 11) % 2147483629 * 30011 + c') % 2147483587 = a' at ⊢
          have u3 : Upto st H (upd H2 st (.lst [.int a', .int ((p : Int) + 1), .ref b, .int c'])) := u2.updx
          have g3 : (upd H2 st (.lst [.int a', .int ((p : Int) + 1), .ref b, .int c'])) st = some (.lst [.int a', .int ((p : Int) + 1), .ref b, .int c']) := upd_same
          generalize upd H2 st (.lst [.int a', .int ((p : Int) + 1), .ref b, .int c']) = H3 at u3 g3 ⊢
          refine ⟨_, rfl, st, _, 0, _, rfl, rfl, SqL.of g3, atI_nat (j := 0) rfl, .inl ⟨_, rfl, _, rfl, _, _, rfl, rfl, hl', ?_⟩⟩
          refine ⟨_, rfl, st, _, 0, _, rfl, rfl, SqL.of g3, atI_nat (j := 0) rfl, _, rfl, _, _, rfl, rfl, wd _, _, rfl, st, _, 0, 0, rfl, rfl, g3, rfl, ?_⟩
          refine ⟨_, rfl, ?_⟩
          have := fin a' (p + 1) c' H3 u3 (by omega) c1 c2
          rw [eiv] at this
          exact this
    · refine ⟨_, rfl, st, _, 0, _, rfl, rfl, SqL.of h1, atI_nat (j := 0) rfl, .inl ⟨_, rfl, _, rfl, _, _, rfl, rfl, hl', ?_⟩⟩
      refine ⟨_, rfl, st, _, 0, _, rfl, rfl, SqL.of h1, atI_nat (j := 0) rfl, _, rfl, _, _, rfl, rfl, wd _, _, rfl, st, _, 0, 0, rfl, rfl, h1, rfl, ?_⟩
      exact ⟨_, rfl, fin a p c H (Upto.refl _ _) (by omega) h5 h6⟩
end
end My
end

section
/-! functions. -/
namespace My
open PySem PySem.Spec PyProof.Rows L2
theorem rgV_ivs (n : Nat) : rgV 0 (n : Int) = ivs (List.range n) := by
  unfold rgV ivs
  rw [show ((n : Int) - 0).toNat = n by omega]
  exact List.map_congr_left fun i _ => by show V.int (0 + (i : Int)) = V.int (i : Int); rw [Int.zero_add]
def dTups (L : List (List Nat)) : PyData := .list (L.map dRow)
theorem dRow_shaped (l : List Nat) : SeqAt.shaped (dRow l) = true := by
  show ((dRow l).canLay0 && decide ((dRow l).depth ≤ 64)) = true
  rw [Bool.and_eq_true]
  refine ⟨by simp only [dRow, PyData.canLay0]; exact dI_lay l, decide_eq_true ?_⟩
  have := dI_depth l
  simp only [dRow, PyData.depth]
  omega
theorem dTups_shaped (L : List (List Nat)) : SeqAt.shaped (dTups L) = true := by
  show ((dTups L).canLay0 && decide ((dTups L).depth ≤ 64)) = true
  rw [Bool.and_eq_true]
  refine ⟨by simp only [dTups, PyData.canLay0]; exact dRows_lay L, decide_eq_true ?_⟩
  have := dRows_depth L
  simp only [dTups, PyData.depth]
  omega
theorem dTups_any (L : List (List Nat)) (l : List Nat) : ((L.map dRow).any fun z => PyData.eqv z (dRow l)) = decide (l ∈ L) := by
  induction L with
  | nil => rfl
  | cons a L ih =>
    rw [List.map_cons, List.any_cons, ih, dRow_eqv]
    by_cases h : a = l
    · subst h; simp
    · have : (l ∈ a :: L) ↔ l ∈ L := by rw [List.mem_cons]; exact ⟨fun q => q.resolve_left fun e => h e.symm, .inr⟩
      rw [decide_eq_false h, Bool.false_or]
      exact decide_eq_decide.mpr this.symm
theorem dp_tups {K : PySem.W.Frag} {H : Hp} {p : Addr} {L : List (List Nat)} {vs : List V} (h : H p = some (.lst vs)) (r : Rows H L vs) : Dp K H (.ref p) (dTups L) := .lst (SqL.of h) (dpAll_rows r)
/-- a comprehension, by what it has made so far -/
theorem lc_acc {J : It} {g : TG} {tt : L2.TT} {te : TE} {vs : List Nat} {σ : L2.St} {H1 : Hp} {D : Addr} {Qd : Hp → Prop} {G : Hp → Prop} {Y : Nat → Hp → V → Hp → Prop} {n : Nat} (w : Walk J n G Y) (Pv : Nat → List V → Hp → Prop) (hsz : n < sizeLine)
    (h0 : Pv 0 [] (upd H1 D (.lst []))) (hl : ∀ i us H, Pv i us H → us.length ≤ i) (hG : ∀ i us H, Pv i us H → G H)
    (hs : ∀ i x us H H' (Ky : V → Hp → Prop) (Kn : Hp → Prop), i < n → H D = some (.lst us) → Pv i us H → Y i H x H' → (∀ y H7, H7 D = some (.lst us) → Pv (i + 1) (us ++ [y]) (upd H7 D (.lst (us ++ [y]))) → Ky y H7) → (∀ H7, H7 D = some (.lst us) → Pv (i + 1) us H7 → Kn H7) →
      g x (wipe σ vs) H' fun σ2 H5 => wipe σ2 vs = wipe σ vs ∧ tt σ2 H5 fun b H6 => if b = true then te σ2 H6 Ky else Kn H6)
    (hd : ∀ H us, H D = some (.lst us) → Pv n us H → Qd H) :
    Fills J g tt te vs σ H1 D Qd := by
  refine lc_it w (fun i H => ∃ us, H D = some (.lst us) ∧ Pv i us H) ⟨[], upd_same, h0⟩ (fun i H _ ⟨us, _, p⟩ => hG i us H p) ?_ ?_
  · rintro i x H H' hi ⟨us, hu, p⟩ y
    refine hs i x us H H' _ _ hi hu p y (fun v H7 h7 p7 => ⟨us, h7, ?_, us ++ [v], upd_same, p7⟩) (fun H7 h7 p7 => ⟨us, h7, p7⟩)
    have := hl i us H p
    omega
  · rintro H ⟨us, hu, p⟩
    exact hd H us hu p
/-- while the functions are found: at q the list of them -/
structure FI (H : Hp) (st b q : Addr) (p z : Nat) (L : List (List Nat)) (us : List V) (H' : Hp) : Prop where
  dr : Drawn st H H'
  ds : DrawSt H' st b z
  hq : H' q = some (.lst us)
  rw : Rows H' L us
  fn : Fn p L
theorem FI.same {H H' H'' : Hp} {st b q : Addr} {p z : Nat} {L : List (List Nat)} {us : List V} (h : FI H st b q p z L us H') (s : Same H' H'') : FI H st b q p z L us H'' :=
  ⟨h.dr.trans (s.drawn st), h.ds.same s, s _ _ h.hq, h.rw.tups s.tups, h.fn⟩
theorem FI.draw {H H' H'' : Hp} {st b q : Addr} {p z : Nat} {L : List (List Nat)} {us : List V} (h : FI H st b q p z L us H') (n : q ≠ st) (u : Upto st H' H'') (d : DrawSt H'' st b (z + 1)) : FI H st b q p (z + 1) L us H'' :=
  have D := Drawn.of u h.ds d
  ⟨h.dr.trans D, d, D.lst h.hq n, h.rw.tups D.tu, h.fn⟩
theorem FI.updN {H H' : Hp} {st b q D : Addr} {p z : Nat} {L : List (List Nat)} {us : List V} {o : HO} (h : FI H st b q p z L us H') (h0 : H D = none) (n1 : st ≠ D) (n2 : b ≠ D) (n3 : q ≠ D) (np : ∀ xs, H' D ≠ some (.tup xs)) : FI H st b q p z L us (upd H' D o) :=
  ⟨h.dr.upd0 h0 np, h.ds.upd n1 n2, (upd_ne n3).trans h.hq, h.rw.tups (tups_upd np), h.fn⟩
theorem FI.le {H H' : Hp} {st b q : Addr} {p z y : Nat} {L : List (List Nat)} {us : List V} (h : FI H st b q p z L us H') (l : z ≤ y) : FI H st b q p y L us H' := ⟨h.dr, h.ds.le l, h.hq, h.rw, h.fn⟩
theorem FI.snoc {H H' : Hp} {st b q a : Addr} {p z : Nat} {L : List (List Nat)} {us : List V} {l : List Nat} (h : FI H st b q p z L us H') (h0 : H q = none) (n1 : st ≠ q) (n2 : b ≠ q) (ha : H' a = some (.tup (ivs l))) (hl : IsF p l) (hn : l ∉ L) (h9 : L.length < 9) :
    FI H st b q p z (L ++ [l]) (us ++ [.ref a]) (upd H' q (.lst (us ++ [.ref a]))) := by
  have np : ∀ xs, H' q ≠ some (.tup xs) := by rw [h.hq]; exact fun _ z => nomatch z
  have tu : Tups H' (upd H' q (.lst (us ++ [.ref a]))) := tups_upd np
  exact ⟨h.dr.upd0 h0 np, h.ds.upd n1 n2, upd_same, Paired.appR (h.rw.tups tu) (.cons ⟨a, rfl, tu _ _ ha⟩ .nil), h.fn.snoc hl hn h9⟩
def sigF (st : Addr) (p : Nat) (q : Addr) (k o t m : Option V) : L2.St := [some (.ref st), some (iv p), some (.ref q), k, o, t, m, none]
theorem comp_range {p : Nat} {x y : List Nat} (hx : IsF p x) : ((List.range p).map fun j => y.getD (x.getD j 0) 0) = compF x y := by
  unfold compF
  refine ext_getD (by rw [List.length_map, List.length_map, List.length_range, hx.1]) fun j hj => ?_
  rw [List.length_map, List.length_range] at hj
  have hj' : j < x.length := by rw [hx.1]; exact hj
  rw [List.getD_eq_getElem?_getD, List.getD_eq_getElem?_getD, List.getElem?_map, List.getElem?_map, List.getElem?_range hj, List.getElem?_eq_getElem hj']
  show y.getD (x.getD j 0) 0 = _
  rw [getD_lt _ hj']
  rfl
theorem isF_ent {p j : Nat} {x : List Nat} (hx : IsF p x) (hj : j < p) : j < x.length ∧ x.getD j 0 < p := by
  have hj' : j < x.length := by rw [hx.1]; exact hj
  refine ⟨hj', ?_⟩
  rw [getD_lt _ hj']
  exact hx.2 _ (List.getElem_mem hj')
section
variable {P : Program} {w : World} {K : PySem.W.Frag} {mg : Str → Option Value} {base : Heap}
def spFunctions : Sp := fun vs H Q _ => ∃ (st b : Addr) (z : Nat), vs = [.ref st] ∧ DrawSt H st b z ∧ z ≤ 5000 ∧
  ∀ q H' p L us, Drawn st H H' → DrawSt H' st b (z + 10) → Fn p L → (∀ x ∈ L, ∀ y ∈ L, compF x y ∈ L) → p ≤ 3 → H q = none → H' q = some (.lst us) → Rows H' L us → Q (.ref q) H'
abbrev nmFun : List Str := ["_law_state", "_law_points", "_law_found", "_law_k", "_law_one", "_law_two", "_law_made", "_law_j"]
theorem scFun : FnScope nmFun ["_law_state"] (defScope sFunctions) := ⟨rfl, rfl, rfl, by decide +kernel, rfl, by decide +kernel, by decide +kernel⟩
theorem ok_functions {f fr : Addr} {fd fdr : FuncData} (F : Fun K "_law_functions" "_law_functions" sFunctions f fd) (B : Blt mg) (c : Cal K mg "_law_draw" fr fdr ["_law_state", "_law_limit"]) (g : FnOk P w K mg base CX0 1 fr fdr ["_law_state", "_law_limit"] spDraw) :
    FnOk P w K mg base CX0 2 f fd ["_law_state"] spFunctions := by
  refine F.ok scFun (fun vs H Q E h => ?_) (fun cdv A outer s H vs Q E hr h => ?_)
  · obtain ⟨st, b, z, rfl, _⟩ := h; rfl
  · obtain ⟨st, b, z, rfl, hS, hz, k⟩ := h
    have hu : (A.deeper (envOfC "_law_functions" (defScope sFunctions) s.heap.objs.size f cdv)).units + 65 < cLine := by have := hr.un; omega
    refine ⟨_, (pss_cons (ps_set (i := 1) scFun.nd rfl (.inr rfl) (pe_op op_add pe_int (pe_call g hr rfl c.mg c.kp c.b .nil pass0 (pa_cons (pv 0) (pa_cons pe_int pa_nil)))))
        (pss_cons (ps_set (i := 2) scFun.nd rfl (.inl rfl) (pe_lst (pa_cons (pe_tupRg rfl (by rfl) B.tuple (prg_1 (by rfl) B.range (pv 1))) pa_nil)))
        (pss_cons (ps_for PassesOwn.never rfl (pi_range1 rfl B.range (pa_cons (pe_op op_add pe_int (pe_call g hr rfl c.mg c.kp c.b .nil pass0 (pa_cons (pv 0) (pa_cons pe_int pa_nil)))) pa_nil)) (pg_name (i := 3) scFun.nd rfl (.inl rfl)) (pss_cons (ps_set (i := 4) scFun.nd rfl (.inr rfl) (pe_callTy call_tuple_of (by rfl) B.tuple (by decide +kernel) (pa_cons (pe_lc (own := [("_law_j", 7)]) (g := gName 7) (tt := tYes) rfl scFun.nd (pi_range1 rfl B.range (pa_cons (pv 1) pa_nil)) (blkOk_by (N := nmFun) (sc := defScope sFunctions) (by decide +kernel)) (fun _ _ _ _ _ => pg_name (i := 7) scFun.nd rfl (Or.inl rfl)) (fun _ _ _ _ _ => pts_nil)
          (fun _ _ _ _ _ => (pe_call g hr rfl c.mg c.kp c.b .nil pass0 (pa_cons (pv 0) (pa_cons (pv 1) pa_nil))))) pa_nil)))
        (pss_one (ps_if (pt_cmpR (op_notInD hu) (pv 4) (pv 2) (by rfl)) (pss_one (ps_expr (pe_bm PySem.F.plainAttrs_list PySem.F.slot_list_append PySem.F.type_list_append mt_append (pv 2) (pa_cons (pv 4) pa_nil)))) pss_nil))))
        (pss_cons (ps_for PassesOwn.never rfl (pi_range1 rfl B.range (pa_cons pe_int pa_nil)) (pg_name (i := 3) scFun.nd rfl (.inl rfl)) (pss_one (ps_for PassesOwn.never rfl (pi_list (pe_callTy call_list_of (by rfl) B.list (by decide +kernel) (pa_cons (pv 2) pa_nil))) (pg_name (i := 4) scFun.nd rfl (.inr rfl)) (pss_one (ps_for PassesOwn.never rfl (pi_list (pe_callTy call_list_of (by rfl) B.list (by decide +kernel) (pa_cons (pv 2) pa_nil))) (pg_name (i := 5) scFun.nd rfl (.inr rfl)) (pss_cons (ps_set (i := 6) scFun.nd rfl (.inl rfl) (pe_callTy call_tuple_of (by rfl) B.tuple (by decide +kernel) (pa_cons (pe_lc (own := [("_law_j", 7)]) (g := gName 7) (tt := tYes) rfl scFun.nd (pi_range1 rfl B.range (pa_cons (pv 1) pa_nil)) (blkOk_by (N := nmFun) (sc := defScope sFunctions) (by decide +kernel)) (fun _ _ _ _ _ => pg_name (i := 7) scFun.nd rfl (Or.inl rfl)) (fun _ _ _ _ _ => pts_nil)
          (fun _ _ _ _ _ => (pe_ix (ix_tupK K rfl) (pv 5) (pe_ix (ix_tupK K rfl) (pv 4) (pv 7) (fun _ _ => rfl)) (fun _ _ => rfl)))) pa_nil)))
        (pss_one (ps_if (PW.pt (pw_and (pt_cmpR (op_notInD hu) (pv 6) (pv 2) (by rfl)) (pw_and1 (pt_cmpR op_lt (pe_callB call_len_seq (by rfl) B.len PySem.boot_len (pa_cons (pv 2) pa_nil)) pe_int (nomark _))))) (pss_one (ps_expr (pe_bm PySem.F.plainAttrs_list PySem.F.slot_list_append PySem.F.type_list_append mt_append (pv 2) (pa_cons (pv 6) pa_nil)))) pss_nil))))))))
        (pss_cons (ps_for PassesOwn.never rfl (pi_list (pv 2)) (pg_name (i := 4) scFun.nd rfl (.inr rfl)) (pss_one (ps_for PassesOwn.never rfl (pi_list (pv 2)) (pg_name (i := 5) scFun.nd rfl (.inr rfl)) (pss_one (ps_if (pt_cmpR (op_notInD hu) (pe_callTy call_tuple_of (by rfl) B.tuple (by decide +kernel) (pa_cons (pe_lc (own := [("_law_j", 7)]) (g := gName 7) (tt := tYes) rfl scFun.nd (pi_range1 rfl B.range (pa_cons (pv 1) pa_nil)) (blkOk_by (N := nmFun) (sc := defScope sFunctions) (by decide +kernel)) (fun _ _ _ _ _ => pg_name (i := 7) scFun.nd rfl (Or.inl rfl)) (fun _ _ _ _ _ => pts_nil)
          (fun _ _ _ _ _ => (pe_ix (ix_tupK K rfl) (pv 5) (pe_ix (ix_tupK K rfl) (pv 4) (pv 7) (fun _ _ => rfl)) (fun _ _ => rfl)))) pa_nil)) (pv 2) (by rfl)) (pss_one (ps_ret (pe_lst (pa_cons (pe_tup (pa_cons pe_int (pa_cons pe_int pa_nil))) (pa_cons (pe_tup (pa_cons pe_int (pa_cons pe_int pa_nil))) (pa_cons (pe_tup (pa_cons pe_int (pa_cons pe_int pa_nil))) pa_nil)))))) pss_nil)))))
        (pss_one (ps_ret (pv 2)))))))), ?_⟩
    have sz : ∀ {j : Nat}, j ≤ 600 → j < sizeLine := fun h => by rw [sizeLine_eq]; omega
    refine ⟨_, rfl, st, b, z, 2, rfl, hS, by decide, by decide, by omega, fun H1 d u1 s1 hd => ⟨2, (d : Int), rfl, rfl, ?_⟩⟩
    show gName 1 (V.int ((2 : Int) + (d : Int))) _ _ _
    rw [show (2 : Int) + (d : Int) = ((2 + d : Nat) : Int) by omega]
    obtain ⟨p, hp⟩ : ∃ p, p = 2 + d := ⟨_, rfl⟩
    have hp2 : 2 ≤ p := by omega
    have hp3 : p ≤ 3 := by omega
    rw [← hp]
    clear hp hd
    have D1 := Drawn.of u1 hS s1
    refine ⟨_, rfl, (p : Int), rfl, RgOk.of_le (by omega) (by omega) (by omega) (by omega), fun t0 ht0 => ⟨by rw [sizeLine_eq]; show 1 ≤ 16777216; decide, fun q hq => ?_⟩⟩
    have hq0 : H q = none := D1.fr q ((same_upd ht0).free hq)
    have n1 : st ≠ q := hS.ne1 hq0
    have n2 : b ≠ q := hS.ne2 hq0
    have I2 : FI H st b q p (z + 1) [List.range p] [.ref t0] (upd (upd H1 t0 (.tup (rgV 0 (p : Int)))) q (.lst [.ref t0])) := by
      have s2 : Same H1 (upd (upd H1 t0 (.tup (rgV 0 (p : Int)))) q (.lst [.ref t0])) := (same_upd ht0).trans (same_upd hq)
      have nt : t0 ≠ q := fun e => by rw [← e, upd_same] at hq; cases hq
      refine ⟨D1.trans (s2.drawn st), s1.same s2, upd_same, .cons ⟨t0, rfl, ?_⟩ .nil, Fn.start p⟩
      rw [upd_ne nt, upd_same, rgV_ivs]
    generalize upd (upd H1 t0 (.tup (rgV 0 (p : Int)))) q (.lst [.ref t0]) = H2 at I2 ⊢
    -- the first functions
    refine ⟨_, rfl, st, b, z + 1, 2, rfl, I2.ds, by decide, by decide, by omega, fun H3 d2 u3 s3 hd2 => ⟨1, (d2 : Int), rfl, rfl, ((1 + d2 : Nat) : Int), (by rw [show ((1 + d2 : Nat) : Int) = 1 + (d2 : Int) by omega]), by omega, by omega, ?_⟩⟩
    have I3 := I2.draw (Ne.symm n1) u3 s3
    refine for_it (walk_range (lo := 0) (n := 1 + d2)) (fun i σ H' => ∃ k o L us, σ = sigF st p q k o none none ∧ FI H st b q p (z + 2 + 3 * i) L us H' ∧ L.length ≤ 1 + i) ⟨none, none, _, _, rfl, I3, Nat.le_refl _⟩ (fun _ _ _ _ _ => trivial) ?_ ?_
    · rintro i v σ H5' H5 hi ⟨ko, oo, L, us, rfl, I5, hL⟩ ⟨rfl, hv⟩
      refine ⟨_, rfl, (p : Int), rfl, by omega, by omega, fun D hD => ?_⟩
      have m1 := I5.ds.ne1 hD
      have m2 := I5.ds.ne2 hD
      have m3 : q ≠ D := fun e => by rw [← e, I5.hq] at hD; cases hD
      have hD0 : H D = none := I5.dr.fr D hD
      refine lc_acc (walk_range (lo := 0) (n := p)) (fun j us' H' => ∃ l, us' = ivs l ∧ l.length = j ∧ (∀ x ∈ l, x < p) ∧ FI H st b q p (z + 2 + 3 * i + j) L us H') (sz (by omega)) ⟨[], rfl, rfl, (by intro x hx; cases hx), I5.same (same_upd hD)⟩
        (fun j us' H' ⟨l, e1, e2, _⟩ => by rw [e1, ivs_len, e2]; exact Nat.le_refl _) (fun _ _ _ _ => trivial) ?_ ?_
      · rintro j x us' H6' H6 Ky Kn hj hDu ⟨l, rfl, hl1, hl2, I6⟩ ⟨rfl, hx⟩ hy _
        refine lc_yes rfl ?_
        refine ⟨_, rfl, _, rfl, st, b, _, p, rfl, I6.ds, by omega, by omega, by omega, fun H7 d7 u7 s7 hd7 => ?_⟩
        have I7 := I6.draw (Ne.symm n1) u7 s7
        have h7 : H7 D = some (.lst (ivs l)) := u7 _ _ (Ne.symm m1) hDu
        refine hy _ _ h7 ⟨l ++ [d7], by rw [ivs_app]; rfl, by rw [List.length_append, hl1]; rfl, ?_, ?_⟩
        · intro x hx
          rcases List.mem_append.mp hx with e | e
          · exact hl2 x e
          · rw [List.mem_singleton.mp e]; exact hd7
        · have := I7.updN (o := .lst (ivs l ++ [iv d7])) hD0 m1 m2 m3 (by rw [h7]; exact fun _ z => nomatch z)
          exact this.le (by omega)
      rintro H6 us' hDu ⟨l, rfl, hl1, hl2, I6⟩
      refine ⟨D, _, rfl, .inl ⟨SqL.of hDu, fun a ha => ?_⟩⟩
      have I7 := I6.same (same_upd (o := .tup (ivs l)) ha)
      have ha7 : (upd H6 a (.tup (ivs l))) a = some (.tup (ivs l)) := upd_same
      generalize upd H6 a (.tup (ivs l)) = H7 at I7 ha7 ⊢
      refine ⟨_, rfl, _, rfl, dRow l, L.map dRow, dp_row ha7, dp_tups I7.hq I7.rw, dRow_shaped l, dTups_shaped L, _, rfl, ?_⟩
      rw [dTups_any]
      by_cases hm : l ∈ L
      · rw [decide_eq_true hm]
        refine iteF ⟨_, _, L, us, rfl, I7.le (by omega), by omega⟩
      · rw [decide_eq_false hm]
        have hlu := Paired.length I7.rw
        refine iteT ⟨_, rfl, .inl ⟨rfl, _, SqL.of I7.hq⟩, _, rfl, q, _, _, rfl, rfl, I7.hq, sz (by omega), ?_⟩
        exact ⟨_, _, L ++ [l], _, rfl, (I7.snoc hq0 n1 n2 ha7 ⟨hl1, hl2⟩ hm (by omega)).le (by omega), by rw [List.length_append, List.length_singleton]; omega⟩
    rintro σ H5 ⟨ko, oo, L, us, rfl, I5, hL⟩
    replace I5 := I5.le (y := z + 10) (by omega)
    clear hL
    -- all their products, as many as there is room for
    refine ⟨12, rfl, by decide, by decide, ?_⟩
    refine for_it (walk_range (lo := 0) (n := 12)) (fun i σ H' => ∃ k o t m L us, σ = sigF st p q k o t m ∧ FI H st b q p (z + 10) L us H') ⟨ko, oo, none, none, L, us, rfl, I5⟩ (fun _ _ _ _ _ => trivial) ?_ ?_
    · rintro i v σ H6' H6 hi ⟨ko, oo, to, mo, L1, us1, rfl, I6⟩ ⟨rfl, hv⟩
      refine ⟨_, rfl, q, us1, rfl, .inl (SqL.of I6.hq), fun q1 hq1 => ⟨q1, rfl, ⟨_, SqL.of upd_same⟩, ?_⟩⟩
      have I7 := I6.same (same_upd (o := .lst us1) hq1)
      have nq1 : q1 ≠ q := fun e => by rw [e, I6.hq] at hq1; cases hq1
      have h71 : (upd H6 q1 (.lst us1)) q1 = some (.lst us1) := upd_same
      generalize upd H6 q1 (.lst us1) = H7 at I7 h71 ⊢
      have F1 := I7.fn
      refine for_it (walk_list (xs := us1)) (fun _ σ H' => ∃ k o t m L us, σ = sigF st p q k o t m ∧ FI H st b q p (z + 10) L us H' ∧ H' q1 = some (.lst us1) ∧ Rows H' L1 us1) ⟨_, oo, to, mo, L1, us1, rfl, I7, h71, I7.rw⟩ (fun _ _ _ _ ⟨_, _, _, _, _, _, _, _, h, _⟩ => SqL.of h) ?_ ?_
      · rintro i1 v1 σ H8' H8 hi1 ⟨ko, oo, to, mo, L2, us2, rfl, I8, h81, r81⟩ ⟨rfl, hx1⟩
        obtain ⟨x, hx, a1, rfl, ha1⟩ := Paired.getR r81 hx1
        have hxF := F1.fn x (List.mem_of_getElem? hx)
        refine ⟨_, rfl, q, us2, rfl, .inl (SqL.of I8.hq), fun q2 hq2 => ⟨q2, rfl, ⟨_, SqL.of upd_same⟩, ?_⟩⟩
        have sQ : Same H8 (upd H8 q2 (.lst us2)) := same_upd hq2
        have I9 := I8.same sQ
        have nq2 : q2 ≠ q := fun e => by rw [e, I8.hq] at hq2; cases hq2
        have h92 : (upd H8 q2 (.lst us2)) q2 = some (.lst us2) := upd_same
        have h91 := sQ _ _ h81
        have r91 := r81.tups sQ.tups
        have ha9 := sQ _ _ ha1
        generalize upd H8 q2 (.lst us2) = H9 at I9 h92 h91 r91 ha9 sQ ⊢
        have F2 := I9.fn
        refine for_it (walk_list (xs := us2)) (fun _ σ H' => ∃ k t m L us, σ = sigF st p q k (some (.ref a1)) t m ∧ FI H st b q p (z + 10) L us H' ∧ H' q1 = some (.lst us1) ∧ Rows H' L1 us1 ∧ H' q2 = some (.lst us2) ∧ Rows H' L2 us2 ∧ H' a1 = some (.tup (ivs x))) ⟨_, to, mo, L2, us2, rfl, I9, h91, r91, h92, I9.rw, ha9⟩ (fun _ _ _ _ ⟨_, _, _, _, _, _, _, _, _, h, _⟩ => SqL.of h) ?_ ?_
        · rintro i2 v2 σ HA' HA hi2 ⟨ko, to, mo, L3, us3, rfl, IA, hA1, rA1, hA2, rA2, haA⟩ ⟨rfl, hx2⟩
          obtain ⟨y, hy, a2, rfl, ha2⟩ := Paired.getR rA2 hx2
          have hyF := F2.fn y (List.mem_of_getElem? hy)
          refine ⟨_, rfl, (p : Int), rfl, by omega, by omega, fun D hD => ?_⟩
          refine lc_fill (xs := List.range p) List.length_range (walk_range (lo := 0) (n := p)) (fun _ => true) (fun _ j v => v = iv (y.getD (x.getD j 0) 0)) (fun _ _ _ _ _ h => h) hD (by rw [List.length_range]; exact sz (by omega)) (fun _ _ => trivial) ?_ ?_
          · rintro j zj xv HB' HB Ky Kn hz sB ⟨rfl, hv⟩ hk _
            have hj : j < p := by
              have := (List.getElem?_eq_some_iff.mp hz).1
              rwa [List.length_range] at this
            obtain rfl : j = zj := by rw [List.getElem?_range hj] at hz; exact Option.some.inj hz
            replace hv : xv = iv j := hv.trans (by show V.int (0 + (j : Int)) = iv j; rw [Int.zero_add])
            subst hv
            obtain ⟨e1, e2⟩ := isF_ent hxF hj
            have e3 := (isF_ent hyF e2).1
            refine lc_yes rfl ?_
            exact ⟨_, rfl, _, rfl, _, rfl, a1, _, (j : Int), _, rfl, rfl, SqT.of (sB _ _ haA), atN (ivs_get e1), a2, _, _, _, rfl, rfl, SqT.of (sB _ _ ha2), atN (ivs_get e3), hk rfl _ _ (Same.refl _) rfl⟩
          rintro HB ms sB hms rms
          rw [filter_yes] at rms
          have ems := ivs_of (H := HB) rms
          rw [comp_range hxF] at ems
          subst ems
          refine ⟨D, _, rfl, .inl ⟨SqL.of hms, fun a ha => ?_⟩⟩
          have sC : Same HA (upd HB a (.tup (ivs (compF x y)))) := sB.trans (same_upd ha)
          have haC : (upd HB a (.tup (ivs (compF x y)))) a = some (.tup (ivs (compF x y))) := upd_same
          generalize upd HB a (.tup (ivs (compF x y))) = HC at sC haC ⊢
          have IC := IA.same sC
          have stay : ∃ k t m L us, sigF st p q ko (some (.ref a1)) (some (.ref a2)) (some (.ref a)) = sigF st p q k (some (.ref a1)) t m ∧ FI H st b q p (z + 10) L us HC ∧ HC q1 = some (.lst us1) ∧ Rows HC L1 us1 ∧ HC q2 = some (.lst us2) ∧ Rows HC L2 us2 ∧ HC a1 = some (.tup (ivs x)) :=
            ⟨_, _, _, L3, us3, rfl, IC, sC _ _ hA1, rA1.tups sC.tups, sC _ _ hA2, rA2.tups sC.tups, sC _ _ haA⟩
          refine ⟨_, rfl, _, rfl, dRow (compF x y), L3.map dRow, dp_row haC, dp_tups IC.hq IC.rw, dRow_shaped _, dTups_shaped L3, _, rfl, ?_⟩
          rw [dTups_any]
          by_cases hm : compF x y ∈ L3
          · rw [decide_eq_true hm]
            exact iteF stay
          · rw [decide_eq_false hm]
            have hlu := Paired.length IC.rw
            refine iteT ⟨_, rfl, q, _, rfl, .inl (SqL.of IC.hq), (us3.length : Int), 9, rfl, rfl, _, rfl, ite2 (fun hlt => ?_) (fun hge => stay)⟩
            have h9 : L3.length < 9 := by have := of_decide_eq_true hlt; omega
            have l9 := IC.fn.l9
            refine ⟨_, rfl, .inl ⟨rfl, _, SqL.of IC.hq⟩, _, rfl, q, _, _, rfl, rfl, IC.hq, sz (by omega), ?_⟩
            have tu : Tups HC (upd HC q (.lst (us3 ++ [.ref a]))) := tups_upd fun xs z => by rw [IC.hq] at z; cases z
            exact ⟨_, _, _, L3 ++ [compF x y], _, rfl, IC.snoc hq0 n1 n2 haC (isF_comp hxF hyF) hm h9, (upd_ne nq1).trans (sC _ _ hA1), (rA1.tups sC.tups).tups tu, (upd_ne nq2).trans (sC _ _ hA2), (rA2.tups sC.tups).tups tu, tu _ _ (sC _ _ haA)⟩
        · rintro σ HA ⟨ko, to, mo, L3, us3, rfl, IA, hA1, rA1, hA2, rA2, haA⟩
          exact ⟨_, _, _, _, L3, us3, rfl, IA, hA1, rA1⟩
      · rintro σ H8 ⟨ko, oo, to, mo, L2, us2, rfl, I8, h81, r81⟩
        exact ⟨_, _, _, _, L2, us2, rfl, I8⟩
    rintro σ H6 ⟨ko, oo, to, mo, L, us, rfl, I6⟩
    -- is it closed?
    refine ⟨_, rfl, q, rfl, ⟨_, SqL.of I6.hq⟩, ?_⟩
    have F6 := I6.fn
    refine for_it (walk_list (xs := us)) (fun i σ H' => ∃ o t, σ = sigF st p q ko o t mo ∧ FI H st b q p (z + 10) L us H' ∧ ∀ x ∈ L.take i, ∀ y ∈ L, compF x y ∈ L) ⟨_, _, rfl, I6, by simp⟩ (fun _ _ _ _ ⟨_, _, _, h, _⟩ => SqL.of h.hq) ?_ ?_
    · rintro i1 v1 σ H8' H8 hi1 ⟨oo, to, rfl, I8, hc8⟩ ⟨rfl, hx1⟩
      obtain ⟨x, hx, a1, rfl, ha1⟩ := Paired.getR I8.rw hx1
      have hxF := F6.fn x (List.mem_of_getElem? hx)
      refine ⟨_, rfl, q, rfl, ⟨_, SqL.of I8.hq⟩, ?_⟩
      refine for_it (walk_list (xs := us)) (fun j σ H' => ∃ t, σ = sigF st p q ko (some (.ref a1)) t mo ∧ FI H st b q p (z + 10) L us H' ∧ H' a1 = some (.tup (ivs x)) ∧ ∀ y ∈ L.take j, compF x y ∈ L) ⟨_, rfl, I8, ha1, by simp⟩ (fun _ _ _ _ ⟨_, _, h, _⟩ => SqL.of h.hq) ?_ ?_
      · rintro i2 v2 σ HA' HA hi2 ⟨to, rfl, IA, haA, hcA⟩ ⟨rfl, hx2⟩
        obtain ⟨y, hy, a2, rfl, ha2⟩ := Paired.getR IA.rw hx2
        have hyF := F6.fn y (List.mem_of_getElem? hy)
        refine ⟨_, rfl, (p : Int), rfl, by omega, by omega, fun D hD => ?_⟩
        refine lc_fill (xs := List.range p) List.length_range (walk_range (lo := 0) (n := p)) (fun _ => true) (fun _ j v => v = iv (y.getD (x.getD j 0) 0)) (fun _ _ _ _ _ h => h) hD (by rw [List.length_range]; exact sz (by omega)) (fun _ _ => trivial) ?_ ?_
        · rintro j zj xv HB' HB Ky Kn hz sB ⟨rfl, hv⟩ hk _
          have hj : j < p := by
            have := (List.getElem?_eq_some_iff.mp hz).1
            rwa [List.length_range] at this
          obtain rfl : j = zj := by rw [List.getElem?_range hj] at hz; exact Option.some.inj hz
          replace hv : xv = iv j := hv.trans (by show V.int (0 + (j : Int)) = iv j; rw [Int.zero_add])
          subst hv
          obtain ⟨e1, e2⟩ := isF_ent hxF hj
          have e3 := (isF_ent hyF e2).1
          refine lc_yes rfl ?_
          exact ⟨_, rfl, _, rfl, _, rfl, a1, _, (j : Int), _, rfl, rfl, SqT.of (sB _ _ haA), atN (ivs_get e1), a2, _, _, _, rfl, rfl, SqT.of (sB _ _ ha2), atN (ivs_get e3), hk rfl _ _ (Same.refl _) rfl⟩
        rintro HB ms sB hms rms
        rw [filter_yes] at rms
        have ems := ivs_of (H := HB) rms
        rw [comp_range hxF] at ems
        subst ems
        refine ⟨D, _, rfl, .inl ⟨SqL.of hms, fun a ha => ?_⟩⟩
        have sC : Same HA (upd HB a (.tup (ivs (compF x y)))) := sB.trans (same_upd ha)
        have haC : (upd HB a (.tup (ivs (compF x y)))) a = some (.tup (ivs (compF x y))) := upd_same
        generalize upd HB a (.tup (ivs (compF x y))) = HC at sC haC ⊢
        have IC := IA.same sC
        refine ⟨_, rfl, dRow (compF x y), L.map dRow, dp_row haC, dp_tups IC.hq IC.rw, dRow_shaped _, dTups_shaped L, _, rfl, ?_⟩
        rw [dTups_any]
        by_cases hm : compF x y ∈ L
        · rw [decide_eq_true hm]
          refine iteF ⟨_, rfl, IC, sC _ _ haA, ?_⟩
          rw [take_snoc hy]
          intro y' hy'
          rcases List.mem_append.mp hy' with e | e
          · exact hcA y' e
          · rw [List.mem_singleton.mp e]; exact hm
        · rw [decide_eq_false hm]
          refine iteT ?_
          have h2 : 2 ≤ sizeLine := by rw [sizeLine_eq]; decide
          refine ⟨h2, fun t1 ht1 => ⟨h2, fun t2 ht2 => ⟨h2, fun t3 ht3 => ⟨by rw [sizeLine_eq]; show 3 ≤ 16777216; decide, fun qq hqq => ?_⟩⟩⟩⟩
          have s1' : Same HC (upd HC t1 (.tup [.int 0, .int 1])) := same_upd ht1
          have s2' : Same (upd HC t1 (.tup [.int 0, .int 1])) (upd (upd HC t1 (.tup [.int 0, .int 1])) t2 (.tup [.int 0, .int 0])) := same_upd ht2
          have s3' : Same (upd (upd HC t1 (.tup [.int 0, .int 1])) t2 (.tup [.int 0, .int 0])) (upd (upd (upd HC t1 (.tup [.int 0, .int 1])) t2 (.tup [.int 0, .int 0])) t3 (.tup [.int 1, .int 1])) := same_upd ht3
          have s4' : Same (upd (upd (upd HC t1 (.tup [.int 0, .int 1])) t2 (.tup [.int 0, .int 0])) t3 (.tup [.int 1, .int 1])) (upd (upd (upd (upd HC t1 (.tup [.int 0, .int 1])) t2 (.tup [.int 0, .int 0])) t3 (.tup [.int 1, .int 1])) qq (.lst [.ref t1, .ref t2, .ref t3])) := same_upd hqq
          have sAll := ((s1'.trans s2').trans s3').trans s4'
          have IE := IC.same sAll
          refine k qq _ 2 [[0, 1], [0, 0], [1, 1]] _ IE.dr IE.ds fn_three three_cl (by decide) (IC.dr.fr qq (((s1'.trans s2').trans s3').free hqq)) upd_same ?_
          exact .cons ⟨t1, rfl, s4' _ _ (s3' _ _ (s2' _ _ upd_same))⟩ (.cons ⟨t2, rfl, s4' _ _ (s3' _ _ upd_same)⟩ (.cons ⟨t3, rfl, s4' _ _ upd_same⟩ .nil))
      · rintro σ HA ⟨to, rfl, IA, haA, hcA⟩
        refine ⟨_, _, rfl, IA, ?_⟩
        rw [← Paired.length IA.rw, List.take_length] at hcA
        rw [take_snoc hx]
        intro x' hx'
        rcases List.mem_append.mp hx' with e | e
        · exact hc8 x' e
        · rw [List.mem_singleton.mp e]; exact hcA
    · rintro σ H8 ⟨oo, to, rfl, I8, hc8⟩
      rw [← Paired.length I8.rw, List.take_length] at hc8
      exact ⟨_, rfl, k q H8 p L us I8.dr I8.ds I8.fn hc8 hp3 hq0 I8.hq I8.rw⟩
end
end My
end

section
/-! product, table. -/
namespace My
open PySem PySem.Spec PyProof.Rows L2
section
variable {X : Cx}
theorem pe_bmK (K : PySem.W.Frag) (hK : X.K = K) {o e : Expr} {es : List Expr} {to : TE} {t : TA} {name : Str} {apos cpos : Pos} {T id : String} {r : V → List V → Hp → VK → Prop} (pa : PlainAttrs T) (slot : Slot T name id) (hty : typeOf (.builtin id) = pure (.type "method_descriptor")) (hm : MtR X id r) (ho : PE X o to) (ha : PA X (e :: es) t)
    (q1 : attributeBase o name X.env (eval o X.env) = eval o X.env := by rfl) (q2 : ((backTo cpos (starEach (e :: es) X.env)).all (fun x => !x.1) && (backToKw cpos (keywordEach [] X.env)).all (fun x => x.1.isSome) && decide ((e :: es).length + ([] : List Keyword).length + (if ([] : List Keyword).isEmpty then 0 else 1) < 30)) = true := by rfl)
    (q3 : (apos.endLine == cpos.line) = true := by rfl) (q4 : starEach (e :: es) X.env = (false, eval e X.env) :: starEach es X.env := by rfl) (q5 : (backTo cpos (starEach es X.env)).any (·.1) = false := by rfl) :
    PE X (.Call (.Attribute o name apos) (e :: es) [] cpos) (tBM K T r to t) := by
  subst hK
  exact pe_bm pa slot hty hm ho ha q1 q2 q3 q4 q5
theorem mt_indexDK (K : PySem.W.Frag) (hK : X.K = K) (hu : X.A.units + 65 < cLine) : MtR X "list.index" (rIndexD K) := by subst hK; exact mt_indexD hu
theorem mt_indexK (K : PySem.W.Frag) (hK : X.K = K) : MtR X "list.index" (rIndex K) := by subst hK; exact mt_index
end
/-- as lc_fill, where what is made may be a new list -/
theorem lc_fillU {β : Type} {J : It} {g : TG} {tt : L2.TT} {te : TE} {vs : List Nat} {σ : L2.St} {H1 : Hp} {D : Addr} {Qd : Hp → Prop} {G : Hp → Prop} {Y : Nat → Hp → V → Hp → Prop} {xs : List β} {n : Nat} (hn : xs.length = n) (w : Walk J n G Y) (rep : Hp → β → V → Prop)
    (mono : ∀ H H' x v, Upto D H H' → rep H x v → rep H' x v) (hD : H1 D = none) (hsz : xs.length < sizeLine) (hG : ∀ H', Same H1 H' → G H')
    (hs : ∀ i z x H3 H4 (Ky : V → Hp → Prop), xs[i]? = some z → Same H1 H3 → H3 D ≠ none → Y i H3 x H4 → (∀ y H7, Same H3 H7 → rep H7 z y → Ky y H7) →
      g x (wipe σ vs) H4 fun σ2 H5 => wipe σ2 vs = wipe σ vs ∧ tt σ2 H5 fun b H6 => b = true ∧ te σ2 H6 Ky)
    (hd : ∀ H' us, Same H1 H' → H' D = some (.lst us) → Paired (rep H') xs us → Qd H')
    (mt : ∀ σ2 H5 (A B : Bool → Hp → Prop), (∀ b H6, A b H6 → B b H6) → tt σ2 H5 A → tt σ2 H5 B) (mg : ∀ x σ H (A B : L2.St → Hp → Prop), (∀ σ2 H2, A σ2 H2 → B σ2 H2) → g x σ H A → g x σ H B) :
    Fills J g tt te vs σ H1 D Qd := by
  subst hn
  refine lc_it w (fun i H => Same H1 H ∧ ∃ us, H D = some (.lst us) ∧ Paired (rep H) (xs.take i) us) ⟨same_upd hD, [], upd_same, .nil⟩ (fun i H _ h => hG H h.1) ?_ ?_
  · rintro i x H3 H4 hi ⟨s3, us, hu, r3⟩ y
    have hx : xs[i]? = some xs[i] := List.getElem?_eq_getElem hi
    have hh := hs i xs[i] x H3 H4 (fun y H4 => ∃ acc, H4 D = some (.lst acc) ∧ acc.length < sizeLine ∧ (Same H1 (upd H4 D (.lst (acc ++ [y]))) ∧ ∃ us, (upd H4 D (.lst (acc ++ [y]))) D = some (.lst us) ∧ Paired (rep (upd H4 D (.lst (acc ++ [y])))) (xs.take (i + 1)) us)) hx s3 (by rw [hu]; exact fun z => nomatch z) y fun v H7 s7 rv => by
      have hu7 := s7 _ _ hu
      have ux : Upto D H7 (upd H7 D (.lst (us ++ [v]))) := (Upto.refl _ _).updx
      refine ⟨us, hu7, ?_, (s3.trans s7).upd0 hD, us ++ [v], upd_same, ?_⟩
      · have e1 := Paired.length r3
        rw [List.length_take] at e1
        omega
      · rw [take_snoc hx]
        exact Paired.appR (Paired.mapP r3 fun _ _ r => mono _ _ _ _ ((s7.upto D).trans ux) r) (.cons (mono _ _ _ _ ux rv) .nil)
    refine mg _ _ _ _ _ (fun σ2 H2 h => ?_) hh
    refine ⟨h.1, mt _ _ _ _ (fun b H6 h6 => ?_) h.2⟩
    rw [if_pos h6.1]
    exact h6.2
  · rintro H3 ⟨s3, us, hu, r3⟩
    rw [List.take_length] at r3
    exact hd H3 us s3 hu r3
theorem mono_tYes : ∀ σ2 H5 (A B : Bool → Hp → Prop), (∀ b H6, A b H6 → B b H6) → tYes σ2 H5 A → tYes σ2 H5 B := fun _ _ _ _ h q => h _ _ q
theorem mono_gName (i : Nat) : ∀ x σ H (A B : L2.St → Hp → Prop), (∀ σ2 H2, A σ2 H2 → B σ2 H2) → gName i x σ H A → gName i x σ H B := fun _ _ _ _ _ h q => h _ _ q
/-- rows as lists, new since H0 -/
def repL (H0 : Hp) (D : Addr) (f : Nat → List Nat) : Hp → Nat → V → Prop := fun H x v => ∃ a, v = .ref a ∧ H0 a = none ∧ a ≠ D ∧ H a = some (.lst (ivs (f x)))
theorem repL_mono (H0 : Hp) (D : Addr) (f : Nat → List Nat) : ∀ H H' x v, Upto D H H' → repL H0 D f H x v → repL H0 D f H' x v := fun _ _ _ _ u ⟨a, e, h0, n, q⟩ => ⟨a, e, h0, n, u _ _ n q⟩
/-- the table f on 0 .. m - 1, its rows at the addresses us -/
def TabL (H0 H : Hp) (m : Nat) (f : Nat → Nat → Nat) (us : List V) : Prop := Paired (fun x v => ∃ a, v = V.ref a ∧ H0 a = none ∧ H a = some (.lst (ivs ((List.range m).map (f x))))) (List.range m) us
def ifBody : Stmt → List Stmt
  | .If _ b _ _ => b
  | _ => []
section
variable {P : Program} {w : World} {K : PySem.W.Frag} {mg : Str → Option Value} {base : Heap}
def spProduct : Sp := fun vs H Q _ => ∃ k c x y, vs = [iv k, iv c, iv x, iv y] ∧ 0 < c ∧ Q (iv (prodN k c x y)) H
abbrev nmProd : List Str := ["_law_kind", "_law_count", "_law_x", "_law_y"]
theorem scProd : FnScope nmProd nmProd (defScope sProduct) := ⟨rfl, rfl, rfl, by decide +kernel, rfl, by decide +kernel, by decide +kernel⟩
theorem ok_product {f : Addr} {fd : FuncData} (F : Fun K "_law_product" "_law_product" sProduct f fd) (B : Blt mg) : FnOk P w K mg base CX0 1 f fd nmProd spProduct := by
  refine F.ok scProd (fun vs H Q E h => ?_) (fun cdv A outer s H vs Q E hr h => ?_)
  · obtain ⟨k, c, x, y, rfl, _⟩ := h; rfl
  · obtain ⟨k, c, x, y, rfl, hc, q⟩ := h
    refine ⟨_, (pss_cons (ps_if (pt_cmpR op_eq (pv 0) pe_int (nomark _)) (pss_one (ps_ret (pe_op op_mod (pe_callTy call_int1 (by rfl) B.int (by decide +kernel) (pa_cons (pe_op op_add (pv 2) (pv 3)) pa_nil)) (pv 1)))) pss_nil)
        (pss_cons (ps_if (pt_cmpR op_eq (pv 0) pe_int (nomark _)) (pss_one (ps_ret (pe_callB (call_max2 rfl) (by rfl) B.max (by decide +kernel) (pa_cons (pv 2) (pa_cons (pv 3) pa_nil))))) pss_nil)
        (pss_cons (ps_if (pt_cmpR op_eq (pv 0) pe_int (nomark _)) (pss_one (ps_ret (pe_ifExp (pt_cmpR op_eq (pv 3) pe_int (nomark _)) (pv 2) (pv 3)))) pss_nil)
        (pss_one (ps_ret (pe_ifExp (pt_cmpR op_eq (pv 2) pe_int (nomark _)) (pv 3) (pv 2))))))), ?_⟩
    unfold prodN at q
    have dk : ∀ j : Nat, decide (V.int (k : Int) = V.int ((j : Nat) : Int)) = decide (k = j) := fun j => decide_eq_decide.mpr (by rw [V.int.injEq]; omega)
    have dx : decide (V.int (x : Int) = V.int ((0 : Nat) : Int)) = decide (x = 0) := decide_eq_decide.mpr (by rw [V.int.injEq]; omega)
    have dy : decide (V.int (y : Int) = V.int ((0 : Nat) : Int)) = decide (y = 0) := decide_eq_decide.mpr (by rw [V.int.injEq]; omega)
    refine ⟨_, rfl, rfl, _, rfl, ite2 (fun h => ?_) (fun h => ?_)⟩
    · have h0 : k = 0 := by rw [show decide (V.int (k : Int) = V.int 0) = decide (k = 0) from dk 0] at h; exact of_decide_eq_true h
      rw [if_pos h0] at q
      refine ⟨_, rfl, _, rfl, (x : Int), (y : Int), rfl, rfl, .inl ⟨_, rfl, _, rfl, _, _, rfl, rfl, (by show (0 : Int) < (c : Int); omega), ?_⟩⟩
      show Q (V.int (((x : Int) + (y : Int)) % (c : Int))) H
      rw [show ((x : Int) + (y : Int)) % (c : Int) = (((x + y) % c : Nat) : Int) by rw [Int.natCast_emod, Int.natCast_add]]
      exact q
    have h0 : ¬ k = 0 := by rw [show decide (V.int (k : Int) = V.int 0) = decide (k = 0) from dk 0] at h; exact fun e => h (decide_eq_true e)
    rw [if_neg h0] at q
    refine ⟨_, rfl, rfl, _, rfl, ite2 (fun h => ?_) (fun h => ?_)⟩
    · have h1 : k = 1 := by rw [show decide (V.int (k : Int) = V.int 1) = decide (k = 1) from dk 1] at h; exact of_decide_eq_true h
      rw [if_pos h1] at q
      refine ⟨_, rfl, _, rfl, (x : Int), (y : Int), rfl, ?_⟩
      rw [show (if (y : Int) > (x : Int) then (y : Int) else (x : Int)) = ((max x y : Nat) : Int) by split <;> omega]
      exact q
    have h1 : ¬ k = 1 := by rw [show decide (V.int (k : Int) = V.int 1) = decide (k = 1) from dk 1] at h; exact fun e => h (decide_eq_true e)
    rw [if_neg h1] at q
    refine ⟨_, rfl, rfl, _, rfl, ite2 (fun h => ?_) (fun h => ?_)⟩
    · have h2 : k = 2 := by rw [show decide (V.int (k : Int) = V.int 2) = decide (k = 2) from dk 2] at h; exact of_decide_eq_true h
      rw [if_pos h2] at q
      refine ⟨_, rfl, rfl, _, rfl, ite2 (fun h => ?_) (fun h => ?_)⟩
      · have hy : y = 0 := by rw [show decide (V.int (y : Int) = V.int 0) = decide (y = 0) from dy] at h; exact of_decide_eq_true h
        rw [if_pos hy] at q
        exact ⟨_, rfl, q⟩
      · have hy : ¬ y = 0 := by rw [show decide (V.int (y : Int) = V.int 0) = decide (y = 0) from dy] at h; exact fun e => h (decide_eq_true e)
        rw [if_neg hy] at q
        exact ⟨_, rfl, q⟩
    have h2 : ¬ k = 2 := by rw [show decide (V.int (k : Int) = V.int 2) = decide (k = 2) from dk 2] at h; exact fun e => h (decide_eq_true e)
    rw [if_neg h2] at q
    refine ⟨_, rfl, rfl, _, rfl, ite2 (fun h => ?_) (fun h => ?_)⟩
    · have hx : x = 0 := by rw [show decide (V.int (x : Int) = V.int 0) = decide (x = 0) from dx] at h; exact of_decide_eq_true h
      rw [if_pos hx] at q
      exact ⟨_, rfl, q⟩
    · have hx : ¬ x = 0 := by rw [show decide (V.int (x : Int) = V.int 0) = decide (x = 0) from dx] at h; exact fun e => h (decide_eq_true e)
      rw [if_neg hx] at q
      exact ⟨_, rfl, q⟩
def spTable : Sp := fun vs H Q _ => ∃ (st b : Addr) (z : Nat), vs = [.ref st] ∧ DrawSt H st b z ∧ z ≤ 4000 ∧
  ∀ q H' m f us, Drawn st H H' → DrawSt H' st b (z + 20) → Mnd m f → m ≤ 9 → H q = none → H' q = some (.lst us) → TabL H H' m f us → Q (.ref q) H'
abbrev nmTab : List Str := ["_law_state", "_law_kind", "_law_found", "_law_count", "_law_one", "_law_two", "_law_j", "_law_x", "_law_y"]
theorem scTab : FnScope nmTab ["_law_state"] (defScope sTable) := ⟨rfl, rfl, rfl, by decide +kernel, rfl, by decide +kernel, by decide +kernel⟩
abbrev lcA : Expr := asgV ((ifBody ((defBody sTable).getD 1 (.Pass ⟨0, 0, 0, 0⟩))).getD 1 (.Pass ⟨0, 0, 0, 0⟩))
abbrev lcB : Expr := asgV ((defBody sTable).getD 3 (.Pass ⟨0, 0, 0, 0⟩))
abbrev scA1 : Scope := rel (compSc lcA) (defScope sTable)
abbrev scA2 : Scope := rel (compSc (compElt lcA)) scA1
abbrev scB1 : Scope := rel (compSc lcB) (defScope sTable)
theorem ok_table {f fr fp ff : Addr} {fd fdr fdp fdf : FuncData} (F : Fun K "_law_table" "_law_table" sTable f fd) (B : Blt mg) (c : Cal K mg "_law_draw" fr fdr ["_law_state", "_law_limit"]) (g : FnOk P w K mg base CX0 1 fr fdr ["_law_state", "_law_limit"] spDraw)
    (cp : Cal K mg "_law_product" fp fdp nmProd) (gp : FnOk P w K mg base CX0 1 fp fdp nmProd spProduct) (cf : Cal K mg "_law_functions" ff fdf ["_law_state"]) (gf : FnOk P w K mg base CX0 2 ff fdf ["_law_state"] spFunctions) :
    FnOk P w K mg base CX0 3 f fd ["_law_state"] spTable := by
  refine F.ok scTab (fun vs H Q E h => ?_) (fun cdv A outer s H vs Q E hr h => ?_)
  · obtain ⟨st, b, z, rfl, _⟩ := h; rfl
  · obtain ⟨st, b, z, rfl, hS, hz, k⟩ := h
    have hu : (A.deeper (envOfC "_law_table" (defScope sTable) s.heap.objs.size f cdv)).units + 65 < cLine := by have := hr.un; omega
    refine ⟨_, (pss_cons (ps_set (i := 1) scTab.nd rfl (.inr rfl) (pe_call g (hr.mono (by decide)) rfl c.mg c.kp c.b .nil pass0 (pa_cons (pv 0) (pa_cons pe_int pa_nil))))
        (pss_cons (ps_if (pt_cmpR op_gt (pv 1) pe_int (nomark _)) (pss_cons (ps_set (i := 2) scTab.nd rfl (.inr rfl) (pe_call gf hr rfl cf.mg cf.kp cf.b .nil pass0 (pa_cons (pv 0) pa_nil)))
        (pss_one (ps_ret (pe_lc (own := [("_law_one", 4)]) (g := gName 4) (tt := tYes) rfl scTab.nd (pi_list (pv 2)) (blkOk_by (N := nmTab) (sc := defScope sTable) (by decide +kernel)) (fun _ _ _ _ _ => pg_name (i := 4) scTab.nd rfl (Or.inr rfl)) (fun _ _ _ _ _ => pts_nil)
          (fun _ _ _ _ _ => (pe_lc (own := [("_law_two", 5)]) (g := gName 5) (tt := tYes) rfl scTab.nd (pi_listK K rfl (pv 2)) (blkOk_by (N := nmTab) (sc := scA1) (by decide +kernel)) (fun _ _ _ _ _ => pg_name (i := 5) scTab.nd rfl (Or.inr rfl)) (fun _ _ _ _ _ => pts_nil)
          (fun _ _ _ _ _ => (pe_bmK K rfl PySem.F.plainAttrs_list PySem.F.slot_list_index PySem.F.type_list_index (mt_indexDK K rfl hu) (pv 2) (pa_cons (pe_callTy (call_tupK K rfl) (by rfl) B.tuple (by decide +kernel) (pa_cons (pe_lc (own := [("_law_j", 6)]) (g := gName 6) (tt := tYes) rfl scTab.nd (pi_range1 rfl B.range (pa_cons (pe_callB (call_lenK K rfl) (by rfl) B.len PySem.boot_len (pa_cons (pv 4) pa_nil)) pa_nil)) (blkOk_by (N := nmTab) (sc := scA2) (by decide +kernel)) (fun _ _ _ _ _ => pg_name (i := 6) scTab.nd rfl (Or.inl rfl)) (fun _ _ _ _ _ => pts_nil)
          (fun _ _ _ _ _ => (pe_ix (ix_tupK K rfl) (pv 5) (pe_ix (ix_tupK K rfl) (pv 4) (pv 6) (fun _ _ => rfl)) (fun _ _ => rfl)))) pa_nil)) pa_nil))))))))) pss_nil)
        (pss_cons (ps_set (i := 3) scTab.nd rfl (.inr rfl) (pe_op op_add pe_int (pe_call g (hr.mono (by decide)) rfl c.mg c.kp c.b .nil pass0 (pa_cons (pv 0) (pa_cons pe_int pa_nil)))))
        (pss_one (ps_ret (pe_lc (own := [("_law_x", 7)]) (g := gName 7) (tt := tYes) rfl scTab.nd (pi_range1 rfl B.range (pa_cons (pv 3) pa_nil)) (blkOk_by (N := nmTab) (sc := defScope sTable) (by decide +kernel)) (fun _ _ _ _ _ => pg_name (i := 7) scTab.nd rfl (Or.inr rfl)) (fun _ _ _ _ _ => pts_nil)
          (fun _ _ _ _ _ => (pe_lc (own := [("_law_y", 8)]) (g := gName 8) (tt := tYes) rfl scTab.nd (pi_range1 rfl B.range (pa_cons (pv 3) pa_nil)) (blkOk_by (N := nmTab) (sc := scB1) (by decide +kernel)) (fun _ _ _ _ _ => pg_name (i := 8) scTab.nd rfl (Or.inl rfl)) (fun _ _ _ _ _ => pts_nil)
          (fun _ _ _ _ _ => (pe_call gp (hr.mono (by decide)) rfl cp.mg cp.kp cp.b .nil pass0 (pa_cons (pv 1) (pa_cons (pv 3) (pa_cons (pv 7) (pa_cons (pv 8) pa_nil)))))))))))))), ?_⟩
    have sz : ∀ {j : Nat}, j ≤ 600 → j < sizeLine := fun h => by rw [sizeLine_eq]; omega
    refine ⟨_, rfl, st, b, z, 6, rfl, hS, by decide, by decide, by omega, fun H1 kd u1 s1 hk => ?_⟩
    have D1 := Drawn.of u1 hS s1
    refine ⟨_, rfl, (kd : Int), 3, rfl, rfl, _, rfl, ite2 (fun h => ?_) (fun h => ?_)⟩
    · refine ⟨_, rfl, st, b, z + 1, rfl, s1, by omega, fun q1 H2 p L us D2 s2 F2 cl hp hq1 hq2 rw2 => ?_⟩
      have D12 := D1.trans D2
      have hlen := Paired.length rw2
      have l9 := F2.l9
      refine ⟨_, rfl, q1, rfl, ⟨_, SqL.of hq2⟩, fun D hD => ?_⟩
      refine lc_fillU (xs := List.range L.length) (by rw [List.length_range, hlen]) (walk_list (xs := us)) (repL H D fun x => (List.range L.length).map (funT L x)) (repL_mono _ _ _) hD (by rw [List.length_range]; exact sz (by omega)) (fun H' s => SqL.of (s _ _ hq2)) ?_ ?_ mono_tYes (mono_gName 4)
      · rintro i zi x H3' H3 Ky hz s3 hDn ⟨rfl, hx⟩ hy
        have hi : i < L.length := by
          have := (List.getElem?_eq_some_iff.mp hz).1
          rwa [List.length_range] at this
        obtain rfl : i = zi := by rw [List.getElem?_range hi] at hz; exact Option.some.inj hz
        obtain ⟨f1, hf1, a1, rfl, ha1⟩ := Paired.getR (rw2.tups s3.tups) hx
        have e1 : L.getD i [] = f1 := by rw [List.getD_eq_getElem?_getD, hf1]; rfl
        have hf1m := List.mem_of_getElem? hf1
        refine ⟨rfl, rfl, ?_⟩
        refine ⟨_, rfl, q1, rfl, ⟨_, SqL.of (s3 _ _ hq2)⟩, fun D4 hD4 => ?_⟩
        refine lc_fill (xs := List.range L.length) (by rw [List.length_range, hlen]) (walk_list (xs := us)) (fun _ => true) (fun _ j v => v = iv (funT L i j)) (fun _ _ _ _ _ h => h) hD4 (by rw [List.length_range]; exact sz (by omega)) (fun H' s => SqL.of (s _ _ (s3 _ _ hq2))) ?_ ?_
        · rintro j zj x5 H5' H5 Ky5 Kn5 hz5 s5 ⟨rfl, hx5⟩ hy5 _
          have hj : j < L.length := by
            have := (List.getElem?_eq_some_iff.mp hz5).1
            rwa [List.length_range] at this
          obtain rfl : j = zj := by rw [List.getElem?_range hj] at hz5; exact Option.some.inj hz5
          have s35 := s3.trans s5
          have rw5 := rw2.tups s35.tups
          obtain ⟨f2, hf2, a2, rfl, ha2⟩ := Paired.getR rw5 hx5
          have e2 : L.getD j [] = f2 := by rw [List.getD_eq_getElem?_getD, hf2]; rfl
          have hf2m := List.mem_of_getElem? hf2
          have hxF := F2.fn f1 hf1m
          have hyF := F2.fn f2 hf2m
          refine lc_yes rfl ?_
          refine ⟨_, rfl, .inl ⟨rfl, _, SqL.of (s35 _ _ hq2)⟩, ?_⟩
          refine ⟨_, rfl, a1, _, rfl, .inr (SqT.of (s5 _ _ ha1)), (p : Int), by rw [ivs_len, hxF.1], by omega, by omega, fun D6 hD6 => ?_⟩
          refine lc_fill (xs := List.range p) List.length_range (walk_range (lo := 0) (n := p)) (fun _ => true) (fun _ j v => v = iv (f2.getD (f1.getD j 0) 0)) (fun _ _ _ _ _ h => h) hD6 (by rw [List.length_range]; exact sz (by omega)) (fun _ _ => trivial) ?_ ?_
          · rintro j6 zj6 xv HB' HB Ky6 Kn6 hz6 sB ⟨rfl, hv⟩ hk6 _
            have hj6 : j6 < p := by
              have := (List.getElem?_eq_some_iff.mp hz6).1
              rwa [List.length_range] at this
            obtain rfl : j6 = zj6 := by rw [List.getElem?_range hj6] at hz6; exact Option.some.inj hz6
            replace hv : xv = iv j6 := hv.trans (by show V.int (0 + (j6 : Int)) = iv j6; rw [Int.zero_add])
            subst hv
            obtain ⟨g1, g2⟩ := isF_ent hxF hj6
            have g3 := (isF_ent hyF g2).1
            refine lc_yes rfl ?_
            exact ⟨_, rfl, _, rfl, _, rfl, a1, _, (j6 : Int), _, rfl, rfl, SqT.of (sB _ _ (s5 _ _ ha1)), atN (ivs_get g1), a2, _, _, _, rfl, rfl, SqT.of (sB _ _ ha2), atN (ivs_get g3), hk6 rfl _ _ (Same.refl _) rfl⟩
          rintro HB ms sB hms rms
          rw [filter_yes] at rms
          have ems := ivs_of (H := HB) rms
          rw [comp_range hxF] at ems
          subst ems
          refine ⟨D6, _, rfl, .inl ⟨SqL.of hms, fun a ha => ?_⟩⟩
          have sC : Same H5 (upd HB a (.tup (ivs (compF f1 f2)))) := sB.trans (same_upd ha)
          have haC : (upd HB a (.tup (ivs (compF f1 f2)))) a = some (.tup (ivs (compF f1 f2))) := upd_same
          generalize upd HB a (.tup (ivs (compF f1 f2))) = HC at sC haC ⊢
          have hcm := cl f1 hf1m f2 hf2m
          have hget := idxG_get hcm
          refine ⟨q1, _, dRow (compF f1 f2), L.map dRow, idxG L (compF f1 f2), dRow (compF f1 f2), rfl, rfl, dp_tups ((s35.trans sC) _ _ hq2) (rw5.tups sC.tups), dp_row haC, dTups_shaped L, dRow_shaped _, by rw [List.getElem?_map, hget]; rfl, by rw [dRow_eqv]; exact decide_eq_true rfl, fun m z' hm hz' => ?_, ?_⟩
          · rw [List.getElem?_map] at hz'
            cases hLm : L[m]? with
            | none => rw [hLm] at hz'; cases hz'
            | some c =>
              rw [hLm] at hz'
              obtain rfl := Option.some.inj hz'
              rw [dRow_eqv]
              refine decide_eq_false fun e => ?_
              have := idxG_of F2.nd hLm
              rw [e] at this
              omega
          · refine hy5 rfl _ _ sC ?_
            show V.int _ = V.int _
            unfold funT
            rw [e1, e2]
        rintro H5 rs s5 hrs rrs
        rw [filter_yes] at rrs
        have ers := ivs_of (H := H5) rrs
        subst ers
        refine hy _ _ s5 ⟨D4, rfl, D12.fr D4 (s3.free hD4), fun e => ?_, hrs⟩
        rw [e] at hD4
        exact hDn hD4
      · intro H3 rs s3 hrs rrs
        have D13 := D12.trans (s3.drawn st)
        refine k D H3 L.length (funT L) rs D13 ((s2.same s3).le (by omega)) (fun_mnd F2 cl) l9 (D12.fr D hD) hrs ?_
        exact Paired.mapP rrs fun x v ⟨a, e, h0, n, q⟩ => ⟨a, e, h0, q⟩
    · refine ⟨_, rfl, st, b, z + 1, 5, rfl, s1, by decide, by decide, by omega, fun H2 d u2 s2 hd => ⟨1, (d : Int), rfl, rfl, ?_⟩⟩
      have D12 := D1.trans (Drawn.of u2 s1 s2)
      show gName 3 (V.int ((1 : Int) + (d : Int))) _ _ _
      rw [show (1 : Int) + (d : Int) = ((1 + d : Nat) : Int) by omega]
      obtain ⟨m, hm⟩ : ∃ m, m = 1 + d := ⟨_, rfl⟩
      have hm0 : 0 < m := by omega
      have hm5 : m ≤ 9 := by omega
      rw [← hm]
      clear hm hd
      refine ⟨_, rfl, (m : Int), rfl, by omega, by omega, fun D hD => ?_⟩
      refine lc_fillU (xs := List.range m) List.length_range (walk_range (lo := 0) (n := m)) (repL H D fun x => (List.range m).map (prodN kd m x)) (repL_mono _ _ _) hD (by rw [List.length_range]; exact sz (by omega)) (fun _ _ => trivial) ?_ ?_ mono_tYes (mono_gName 7)
      · rintro i zi x H3' H3 Ky hz s3 hDn ⟨rfl, hx⟩ hy
        have hi : i < m := by
          have := (List.getElem?_eq_some_iff.mp hz).1
          rwa [List.length_range] at this
        obtain rfl : i = zi := by rw [List.getElem?_range hi] at hz; exact Option.some.inj hz
        replace hx : x = iv i := hx.trans (by show V.int (0 + (i : Int)) = iv i; rw [Int.zero_add])
        subst hx
        refine ⟨rfl, rfl, ?_⟩
        refine ⟨_, rfl, (m : Int), rfl, by omega, by omega, fun D4 hD4 => ?_⟩
        refine lc_fill (xs := List.range m) List.length_range (walk_range (lo := 0) (n := m)) (fun _ => true) (fun _ j v => v = iv (prodN kd m i j)) (fun _ _ _ _ _ h => h) hD4 (by rw [List.length_range]; exact sz (by omega)) (fun _ _ => trivial) ?_ ?_
        · rintro j zj x5 H5' H5 Ky5 Kn5 hz5 s5 ⟨rfl, hx5⟩ hy5 _
          have hj : j < m := by
            have := (List.getElem?_eq_some_iff.mp hz5).1
            rwa [List.length_range] at this
          obtain rfl : j = zj := by rw [List.getElem?_range hj] at hz5; exact Option.some.inj hz5
          replace hx5 : x5 = iv j := hx5.trans (by show V.int (0 + (j : Int)) = iv j; rw [Int.zero_add])
          subst hx5
          refine lc_yes rfl ?_
          exact ⟨_, rfl, _, rfl, _, rfl, _, rfl, kd, m, i, j, rfl, hm0, hy5 rfl _ _ (Same.refl _) rfl⟩
        rintro H5 rs s5 hrs rrs
        rw [filter_yes] at rrs
        have ers := ivs_of (H := H5) rrs
        subst ers
        refine hy _ _ s5 ⟨D4, rfl, D12.fr D4 (s3.free hD4), fun e => ?_, hrs⟩
        rw [e] at hD4
        exact hDn hD4
      · intro H3 rs s3 hrs rrs
        refine k D H3 m (prodN kd m) rs (D12.trans (s3.drawn st)) ((s2.same s3).le (by omega)) (prod_mnd kd hm0) hm5 (D12.fr D hD) hrs ?_
        exact Paired.mapP rrs fun x v ⟨a, e, h0, n, q⟩ => ⟨a, e, h0, q⟩
end
end My
end

section
/-! mixed, reader. -/
namespace My
open PySem PySem.Spec PyProof.Rows L2
theorem seqIx {d n : Nat} (h : d < n) : seqIndex? (d : Int) n = some d := by
  unfold seqIndex?
  simp
  omega
theorem ivs_erase : ∀ (l : List Nat) (d : Nat), (ivs l).eraseIdx d = ivs (l.eraseIdx d)
  | [], d => by simp [ivs]
  | a :: l, 0 => rfl
  | a :: l, d + 1 => by
    have := ivs_erase l d
    show iv a :: (ivs l).eraseIdx d = iv a :: ivs (l.eraseIdx d)
    rw [this]
theorem erase_perm : ∀ (l : List Nat) (d : Nat) (h : d < l.length), (l[d] :: l.eraseIdx d).Perm l
  | [], d, h => by simp at h
  | a :: l, 0, _ => List.Perm.refl _
  | a :: l, d + 1, h => (List.Perm.swap a _ _).trans ((erase_perm l d (by simpa using h)).cons a)
theorem eqV_iv (a b : Nat) : eqV (iv a) (iv b) = decide (a = b) := by
  show ((a : Int) == (b : Int)) = _
  exact int_eqv a b
section
variable {P : Program} {w : World} {K : PySem.W.Frag} {mg : Str → Option Value} {base : Heap}
def spMixed : Sp := fun vs H Q _ => ∃ (st b : Addr) (z m : Nat), vs = [.ref st, iv m] ∧ DrawSt H st b z ∧ m ≤ 100 ∧ z ≤ 4000 ∧
  ∀ q H' nm, Drawn st H H' → DrawSt H' st b (z + m) → nm.Perm (List.range m) → H q = none → H' q = some (.lst (ivs nm)) → Q (.ref q) H'
abbrev nmMix : List Str := ["_law_state", "_law_count", "_law_left", "_law_made", "_law_k"]
theorem scMix : FnScope nmMix ["_law_state", "_law_count"] (defScope sMixed) := ⟨rfl, rfl, rfl, by decide +kernel, rfl, by decide +kernel, by decide +kernel⟩
theorem ok_mixed {f fr : Addr} {fd fdr : FuncData} (F : Fun K "_law_mixed" "_law_mixed" sMixed f fd) (B : Blt mg) (c : Cal K mg "_law_draw" fr fdr ["_law_state", "_law_limit"]) (g : FnOk P w K mg base CX0 1 fr fdr ["_law_state", "_law_limit"] spDraw) :
    FnOk P w K mg base CX0 2 f fd ["_law_state", "_law_count"] spMixed := by
  refine F.ok scMix (fun vs H Q E h => ?_) (fun cdv A outer s H vs Q E hr h => ?_)
  · obtain ⟨st, b, z, m, rfl, _⟩ := h; rfl
  · obtain ⟨st, b, z, m, rfl, hS, hm, hz, k⟩ := h
    refine ⟨_, (pss_cons (ps_set (i := 2) scMix.nd rfl (.inl rfl) (pe_listRg rfl (by rfl) B.list (prg_1 (by rfl) B.range (pv 1))))
        (pss_cons (ps_set (i := 3) scMix.nd rfl (.inl rfl) (pe_lst pa_nil))
        (pss_cons (ps_for PassesOwn.never rfl (pi_range1 rfl B.range (pa_cons (pv 1) pa_nil)) (pg_name (i := 4) scMix.nd rfl (.inl rfl)) (pss_one (ps_expr (pe_bm PySem.F.plainAttrs_list PySem.F.slot_list_append PySem.F.type_list_append mt_append (pv 3) (pa_cons (pe_bm PySem.F.plainAttrs_list PySem.F.slot_list_pop PySem.F.type_list_pop mt_popAt (pv 2) (pa_cons (pe_call g hr rfl c.mg c.kp c.b .nil pass0 (pa_cons (pv 0) (pa_cons (pe_callB call_len_seq (by rfl) B.len PySem.boot_len (pa_cons (pv 2) pa_nil)) pa_nil))) pa_nil)) pa_nil)))))
        (pss_one (ps_ret (pv 3)))))), ?_⟩
    have sz : ∀ {j : Nat}, j ≤ 600 → j < sizeLine := fun h => by rw [sizeLine_eq]; omega
    refine ⟨_, rfl, (m : Int), rfl, RgOk.of_le (by omega) (by omega) (by omega) (by omega), fun l hl => ⟨Nat.zero_le _, fun q hq => ?_⟩⟩
    have hq0 : H q = none := (same_upd hl).free hq
    have nlq : l ≠ q := fun e => by rw [← e, upd_same] at hq; cases hq
    have a1 := hS.ne1 hl
    have a2 := hS.ne2 hl
    have b1 := hS.ne1 hq0
    have b2 := hS.ne2 hq0
    have s1 : Same H (upd (upd H l (.lst (rgV 0 (m : Int)))) q (.lst [])) := (same_upd hl).trans (same_upd hq)
    have hl1 : (upd (upd H l (.lst (rgV 0 (m : Int)))) q (.lst [])) l = some (.lst (ivs (List.range m))) := by rw [upd_ne nlq, upd_same, rgV_ivs]
    have hq1 : (upd (upd H l (.lst (rgV 0 (m : Int)))) q (.lst [])) q = some (.lst (ivs [])) := upd_same
    generalize upd (upd H l (.lst (rgV 0 (m : Int)))) q (.lst []) = H1 at s1 hl1 hq1 ⊢
    refine ⟨_, rfl, (m : Int), rfl, by omega, by omega, ?_⟩
    refine for_it (walk_range (lo := 0) (n := m)) (fun i σ H' => ∃ ko lf md, σ = [some (.ref st), some (iv m), some (.ref l), some (.ref q), ko] ∧ Drawn st H H' ∧ DrawSt H' st b (z + i) ∧ H' l = some (.lst (ivs lf)) ∧ H' q = some (.lst (ivs md)) ∧ (md ++ lf).Perm (List.range m) ∧ md.length = i) ⟨none, _, _, rfl, s1.drawn st, hS.same s1, hl1, hq1, List.Perm.refl _, rfl⟩ (fun _ _ _ _ _ => trivial) ?_ ?_
    · rintro i v σ H3' H3 hi ⟨ko, lf, md, rfl, D3, s3, hl3, hq3, hp, hmd⟩ ⟨rfl, hv⟩
      have hlen := hp.length_eq
      rw [List.length_append, List.length_range, hmd] at hlen
      have hlf : 0 < lf.length := by omega
      refine ⟨_, rfl, .inl ⟨rfl, _, SqL.of hq3⟩, ?_⟩
      refine ⟨_, rfl, .inl ⟨rfl, _, SqL.of hl3⟩, ?_⟩
      refine ⟨_, rfl, _, rfl, l, _, rfl, .inl (SqL.of hl3), ?_⟩
      rw [ivs_len]
      refine ⟨st, b, z + i, lf.length, rfl, s3, hlf, by omega, by omega, fun H4 d u4 s4 hd => ?_⟩
      have D4 := Drawn.of u4 s3 s4
      have hl4 := D4.lst hl3 (Ne.symm a1)
      have hq4 := D4.lst hq3 (Ne.symm b1)
      refine ⟨l, _, (d : Int), d, iv (lf.getD d 0), rfl, rfl, hl4, by omega, by omega, by rw [ivs_len]; exact seqIx hd, ivs_get hd, ?_⟩
      rw [ivs_erase]
      have u5 : (upd H4 l (.lst (ivs (lf.eraseIdx d)))) q = some (.lst (ivs md)) := (upd_ne (Ne.symm nlq)).trans hq4
      refine ⟨q, _, _, rfl, rfl, u5, by rw [ivs_len]; exact sz (by omega), ?_⟩
      have D5 : Drawn st H (upd H4 l (.lst (ivs (lf.eraseIdx d)))) := (D3.trans D4).upd0 hl (by rw [hl4]; exact fun _ z => nomatch z)
      refine ⟨_, lf.eraseIdx d, md ++ [lf.getD d 0], rfl, D5.upd0 hq0 (by rw [u5]; exact fun _ z => nomatch z), ((s4.upd a1 a2).upd b1 b2), (upd_ne nlq).trans upd_same, ?_, ?_, ?_⟩
      · rw [upd_same, ivs_app]; rfl
      · refine List.Perm.trans ?_ hp
        rw [List.append_assoc]
        refine List.Perm.append_left md ?_
        rw [getD_lt _ hd]
        exact erase_perm lf d hd
      · rw [List.length_append, hmd]; rfl
    · rintro σ H3 ⟨ko, lf, md, rfl, D3, s3, hl3, hq3, hp, hmd⟩
      have hlen := hp.length_eq
      rw [List.length_append, List.length_range, hmd] at hlen
      have : lf = [] := List.eq_nil_of_length_eq_zero (by omega)
      subst this
      rw [List.append_nil] at hp
      exact ⟨_, rfl, k q H3 md D3 s3 hp hq0 hq3⟩
def spReader : Sp := fun vs H Q _ => ∃ (st b : Addr) (z n : Nat), vs = [.ref st, iv n] ∧ DrawSt H st b z ∧ n ≤ 9 ∧ z ≤ 3000 ∧
  ∀ q H' R, Drawn st H H' → DrawSt H' st b (z + 60) → Valid n R → R.m.length ≤ 9 → R.a.length ≤ 9 → RdAt H' q R → Q (.ref q) H'
abbrev nmRdr : List Str := ["_law_state", "_law_count", "_law_table_here", "_law_size", "_law_names", "_law_back", "_law_mul", "_law_letters", "_law_accepted", "_law_k", "_law_x", "_law_y"]
theorem scRdr : FnScope nmRdr ["_law_state", "_law_count"] (defScope sReader) := ⟨rfl, rfl, rfl, by decide +kernel, rfl, by decide +kernel, by decide +kernel⟩
abbrev scR1 : Scope := rel (compSc (callA (asgV ((defBody sReader).getD 4 (.Pass ⟨0, 0, 0, 0⟩))) 0)) (defScope sReader)
theorem ok_reader {f fr fm ft : Addr} {fd fdr fdm fdt : FuncData} (F : Fun K "_law_reader" "_law_reader" sReader f fd) (B : Blt mg) (c : Cal K mg "_law_draw" fr fdr ["_law_state", "_law_limit"]) (g : FnOk P w K mg base CX0 1 fr fdr ["_law_state", "_law_limit"] spDraw)
    (cm : Cal K mg "_law_mixed" fm fdm ["_law_state", "_law_count"]) (gm : FnOk P w K mg base CX0 2 fm fdm ["_law_state", "_law_count"] spMixed) (ct : Cal K mg "_law_table" ft fdt ["_law_state"]) (gt : FnOk P w K mg base CX0 3 ft fdt ["_law_state"] spTable) :
    FnOk P w K mg base CX0 4 f fd ["_law_state", "_law_count"] spReader := by
  refine F.ok scRdr (fun vs H Q E h => ?_) (fun cdv A outer s H vs Q E hr h => ?_)
  · obtain ⟨st, b, z, n, rfl, _⟩ := h; rfl
  · obtain ⟨st, b, z, n, rfl, hS, hn, hz, k⟩ := h
    refine ⟨_, (pss_cons (ps_set (i := 2) scRdr.nd rfl (.inr rfl) (pe_call gt (hr.mono (by decide)) rfl ct.mg ct.kp ct.b .nil pass0 (pa_cons (pv 0) pa_nil)))
        (pss_cons (ps_set (i := 3) scRdr.nd rfl (.inr rfl) (pe_callB call_len_seq (by rfl) B.len PySem.boot_len (pa_cons (pv 2) pa_nil)))
        (pss_cons (ps_set (i := 4) scRdr.nd rfl (.inr rfl) (pe_call gm (hr.mono (by decide)) rfl cm.mg cm.kp cm.b .nil pass0 (pa_cons (pv 0) (pa_cons (pv 3) pa_nil))))
        (pss_cons (ps_set (i := 5) scRdr.nd rfl (.inr rfl) (pe_lc (own := [("_law_k", 9)]) (g := gName 9) (tt := tYes) rfl scRdr.nd (pi_range1 rfl B.range (pa_cons (pv 3) pa_nil)) (blkOk_by (N := nmRdr) (sc := defScope sReader) (by decide +kernel)) (fun _ _ _ _ _ => pg_name (i := 9) scRdr.nd rfl (Or.inl rfl)) (fun _ _ _ _ _ => pts_nil)
          (fun _ _ _ _ _ => (pe_bmK K rfl PySem.F.plainAttrs_list PySem.F.slot_list_index PySem.F.type_list_index (mt_indexK K rfl) (pv 4) (pa_cons (pv 9) pa_nil)))))
        (pss_cons (ps_set (i := 6) scRdr.nd rfl (.inl rfl) (pe_callTy call_tuple_of (by rfl) B.tuple (by decide +kernel) (pa_cons (pe_lc (own := [("_law_x", 10)]) (g := gName 10) (tt := tYes) rfl scRdr.nd (pi_range1 rfl B.range (pa_cons (pv 3) pa_nil)) (blkOk_by (N := nmRdr) (sc := defScope sReader) (by decide +kernel)) (fun _ _ _ _ _ => pg_name (i := 10) scRdr.nd rfl (Or.inr rfl)) (fun _ _ _ _ _ => pts_nil)
          (fun _ _ _ _ _ => (pe_callTy (call_tupK K rfl) (by rfl) B.tuple (by decide +kernel) (pa_cons (pe_lc (own := [("_law_y", 11)]) (g := gName 11) (tt := tYes) rfl scRdr.nd (pi_range1 rfl B.range (pa_cons (pv 3) pa_nil)) (blkOk_by (N := nmRdr) (sc := scR1) (by decide +kernel)) (fun _ _ _ _ _ => pg_name (i := 11) scRdr.nd rfl (Or.inl rfl)) (fun _ _ _ _ _ => pts_nil)
          (fun _ _ _ _ _ => (pe_ix (ix_listK K rfl) (pv 4) (pe_ix (ix_listK K rfl) (pe_ix (ix_listK K rfl) (pv 2) (pe_ix (ix_listK K rfl) (pv 5) (pv 10) (fun _ _ => rfl)) (fun _ _ => rfl)) (pe_ix (ix_listK K rfl) (pv 5) (pv 11) (fun _ _ => rfl)) (fun _ _ => rfl)) (fun _ _ => rfl)))) pa_nil)))) pa_nil)))
        (pss_cons (ps_set (i := 7) scRdr.nd rfl (.inl rfl) (pe_callTy call_tuple_of (by rfl) B.tuple (by decide +kernel) (pa_cons (pe_lc (own := [("_law_k", 9)]) (g := gName 9) (tt := tYes) rfl scRdr.nd (pi_range1 rfl B.range (pa_cons (pv 1) pa_nil)) (blkOk_by (N := nmRdr) (sc := defScope sReader) (by decide +kernel)) (fun _ _ _ _ _ => pg_name (i := 9) scRdr.nd rfl (Or.inl rfl)) (fun _ _ _ _ _ => pts_nil)
          (fun _ _ _ _ _ => (pe_call g (hr.mono (by decide)) rfl c.mg c.kp c.b .nil pass0 (pa_cons (pv 0) (pa_cons (pv 3) pa_nil))))) pa_nil)))
        (pss_cons (ps_set (i := 8) scRdr.nd rfl (.inl rfl) (pe_callTy call_tuple_of (by rfl) B.tuple (by decide +kernel) (pa_cons (pe_lc (own := [("_law_x", 10)]) (g := gName 10)  rfl scRdr.nd (pi_range1 rfl B.range (pa_cons (pv 3) pa_nil)) (blkOk_by (N := nmRdr) (sc := defScope sReader) (by decide +kernel)) (fun _ _ _ _ _ => pg_name (i := 10) scRdr.nd rfl (Or.inl rfl)) (fun _ _ _ _ _ => pts_one (pt_cmpR op_eq (pe_call g (hr.mono (by decide)) rfl c.mg c.kp c.b .nil pass0 (pa_cons (pv 0) (pa_cons pe_int pa_nil))) pe_int (nomark _)))
          (fun _ _ _ _ _ => (pv 10))) pa_nil)))
        (pss_one (ps_ret (pe_tup (pa_cons (pe_ix ix_list (pv 4) pe_int (fun _ _ => rfl)) (pa_cons (pv 7) (pa_cons (pv 6) (pa_cons (pv 8) pa_nil)))))))))))))), ?_⟩
    have sz : ∀ {j : Nat}, j ≤ 600 → j < sizeLine := fun h => by rw [sizeLine_eq]; omega
    refine ⟨_, rfl, st, b, z, rfl, hS, by omega, fun qt H1 m f us D1 s1 M hm hqt ht hT => ?_⟩
    have hlen := Paired.length hT
    rw [List.length_range] at hlen
    refine ⟨_, rfl, qt, _, rfl, .inl (SqL.of ht), ?_⟩
    rw [← hlen]
    refine ⟨_, rfl, _, rfl, st, b, z + 20, m, rfl, s1, by omega, by omega, fun qn H2 nm D2 s2 hp hqn hn2 => ?_⟩
    have hnl : nm.length = m := by have := hp.length_eq; rwa [List.length_range] at this
    have nqt : qt ≠ st := fun e => hS.ne (e ▸ hqt)
    have nqn : qn ≠ st := fun e => s1.ne (e ▸ hqn)
    have D12 := D1.trans D2
    have ht2 := D2.lst ht nqt
    have row : ∀ {H' : Hp} {x : Nat}, Same H2 H' → x < m → ∃ a, us[x]? = some (.ref a) ∧ H' a = some (.lst (ivs ((List.range m).map (f x)))) := fun {H' x} s hx => by
      obtain ⟨v, hv, a, e, ha0, ha⟩ := paired_get hT (List.getElem?_range hx)
      refine ⟨a, by rw [hv, e], s _ _ (D2.lst ha fun e => hS.ne (e ▸ ha0))⟩
    have mem : ∀ {x}, x < m → x ∈ nm := fun {x} h => hp.mem_iff.mpr (List.mem_range.mpr h)
    have nd : nm.Nodup := hp.nodup_iff.mpr List.nodup_range
    have ixm : ∀ {x}, x < m → nm.idxOf x < m := fun {x} h => by rw [← hnl]; exact idx_lt (mem h)
    -- back
    refine ⟨_, rfl, (m : Int), rfl, by omega, by omega, fun D3 hD3 => ?_⟩
    refine lc_fill (xs := List.range m) List.length_range (walk_range (lo := 0) (n := m)) (fun _ => true) (fun _ x v => v = iv (nm.idxOf x)) (fun _ _ _ _ _ h => h) hD3 (by rw [List.length_range]; exact sz (by omega)) (fun _ _ => trivial) ?_ ?_
    · rintro i zi x H3' H3 Ky Kn hz s3 ⟨rfl, hx⟩ hy _
      have hi : i < m := by
        have := (List.getElem?_eq_some_iff.mp hz).1
        rwa [List.length_range] at this
      obtain rfl : i = zi := by rw [List.getElem?_range hi] at hz; exact Option.some.inj hz
      replace hx : x = iv i := hx.trans (by show V.int (0 + (i : Int)) = iv i; rw [Int.zero_add])
      subst hx
      refine lc_yes rfl ?_
      have hg : (ivs nm)[nm.idxOf i]? = some (iv i) := by
        unfold ivs; rw [List.getElem?_map, idx_get (mem hi)]; rfl
      refine ⟨_, rfl, .inl ⟨rfl, _, SqL.of (s3 _ _ hn2)⟩, _, rfl, qn, _, iv i, nm.idxOf i, iv i, rfl, rfl, SqL.of (s3 _ _ hn2), rfl, flat_ivs _, hg, by rw [eqV_iv]; exact decide_eq_true rfl, fun j z' hj hz' => ?_, hy rfl _ _ (Same.refl _) rfl⟩
      unfold ivs at hz'
      rw [List.getElem?_map] at hz'
      cases hLm : nm[j]? with
      | none => rw [hLm] at hz'; cases hz'
      | some c =>
        rw [hLm] at hz'
        obtain rfl := Option.some.inj hz'
        rw [eqV_iv]
        refine decide_eq_false fun e => ?_
        have := idx_of_get nd hLm
        rw [e] at this
        omega
    rintro H3 bs s3 hbs rbs
    rw [filter_yes] at rbs
    have ebs := ivs_of (H := H3) rbs
    subst ebs
    -- mul
    refine ⟨_, rfl, (m : Int), rfl, by omega, by omega, fun D5 hD5 => ?_⟩
    refine lc_fill (xs := List.range m) List.length_range (walk_range (lo := 0) (n := m)) (fun _ => true) (repRow fun x => (List.range m).map fun y => nm.getD (f (nm.idxOf x) (nm.idxOf y)) 0) (repRow_mono _) hD5 (by rw [List.length_range]; exact sz (by omega)) (fun _ _ => trivial) ?_ ?_
    · rintro i zi x H5' H5 Ky Kn hz s5 ⟨rfl, hx⟩ hy _
      have hi : i < m := by
        have := (List.getElem?_eq_some_iff.mp hz).1
        rwa [List.length_range] at this
      obtain rfl : i = zi := by rw [List.getElem?_range hi] at hz; exact Option.some.inj hz
      replace hx : x = iv i := hx.trans (by show V.int (0 + (i : Int)) = iv i; rw [Int.zero_add])
      subst hx
      refine lc_yes rfl ?_
      refine ⟨_, rfl, (m : Int), rfl, by omega, by omega, fun D7 hD7 => ?_⟩
      refine lc_fill (xs := List.range m) List.length_range (walk_range (lo := 0) (n := m)) (fun _ => true) (fun _ y v => v = iv (nm.getD (f (nm.idxOf i) (nm.idxOf y)) 0)) (fun _ _ _ _ _ h => h) hD7 (by rw [List.length_range]; exact sz (by omega)) (fun _ _ => trivial) ?_ ?_
      · rintro j zj x7 H7' H7 Ky7 Kn7 hz7 s7 ⟨rfl, hx7⟩ hy7 _
        have hj : j < m := by
          have := (List.getElem?_eq_some_iff.mp hz7).1
          rwa [List.length_range] at this
        obtain rfl : j = zj := by rw [List.getElem?_range hj] at hz7; exact Option.some.inj hz7
        replace hx7 : x7 = iv j := hx7.trans (by show V.int (0 + (j : Int)) = iv j; rw [Int.zero_add])
        subst hx7
        have s37 := (s5.trans s7)
        have s27 := s3.trans s37
        have hb7 := s37 _ _ hbs
        obtain ⟨a, ha1, ha2⟩ := row s27 (ixm hi)
        have bk : ∀ {y}, y < m → (ivs ((List.range m).map fun x => nm.idxOf x))[y]? = some (iv (nm.idxOf y)) := fun {y} h => by
          unfold ivs; rw [List.getElem?_map, List.getElem?_map, List.getElem?_range h]; rfl
        have rk : (ivs ((List.range m).map (f (nm.idxOf i))))[nm.idxOf j]? = some (iv (f (nm.idxOf i) (nm.idxOf j))) := by
          unfold ivs; rw [List.getElem?_map, List.getElem?_map, List.getElem?_range (ixm hj)]; rfl
        have cf := M.cl _ _ (ixm hi) (ixm hj)
        refine lc_yes rfl ?_
        exact ⟨_, rfl, _, rfl, _, rfl, _, rfl, D3, _, (i : Int), _, rfl, rfl, SqL.of hb7, atN (bk hi), qt, _, (nm.idxOf i : Int), _, rfl, rfl, SqL.of (s27 _ _ ht2), atN ha1, _, rfl, _, rfl, D3, _, (j : Int), _, rfl, rfl, SqL.of hb7, atN (bk hj),
          a, _, (nm.idxOf j : Int), _, rfl, rfl, SqL.of ha2, atN rk, qn, _, (f (nm.idxOf i) (nm.idxOf j) : Int), _, rfl, rfl, SqL.of (s27 _ _ hn2), atN (ivs_get (by rw [hnl]; exact cf)), hy7 rfl _ _ (Same.refl _) rfl⟩
      rintro H7 rs s7 hrs rrs
      rw [filter_yes] at rrs
      have ers := ivs_of (H := H7) rrs
      subst ers
      refine ⟨D7, _, rfl, .inl ⟨SqL.of hrs, fun pr npr => ?_⟩⟩
      exact hy rfl _ _ (s7.trans (same_upd npr)) ⟨pr, rfl, upd_same⟩
    rintro H5 ms s5 hms rms
    rw [filter_yes] at rms
    refine ⟨D5, ms, rfl, .inl ⟨SqL.of hms, fun pm npm => ?_⟩⟩
    have s6 : Same H2 (upd H5 pm (.tup ms)) := (s3.trans s5).trans (same_upd npm)
    have hpm : (upd H5 pm (.tup ms)) pm = some (.tup ms) := upd_same
    have rms6 : Rows (upd H5 pm (.tup ms)) ((List.range m).map fun x => (List.range m).map fun y => nm.getD (f (nm.idxOf x) (nm.idxOf y)) 0) ms := Rows.tups (same_upd npm).tups (paired_mapL rms)
    generalize upd H5 pm (.tup ms) = H6 at s6 hpm rms6 ⊢
    have D6 := D12.trans (s6.drawn st)
    have st6 := s2.same s6
    have hn6 := s6 _ _ hn2
    -- letters
    refine ⟨_, rfl, (n : Int), rfl, by omega, by omega, fun D7 hD7 => ?_⟩
    refine lc_acc (walk_range (lo := 0) (n := n)) (fun j us' H' => ∃ l, us' = ivs l ∧ l.length = j ∧ (∀ x ∈ l, x < m) ∧ Drawn st H6 H' ∧ DrawSt H' st b (z + 20 + m + j)) (sz (by omega)) ⟨[], rfl, rfl, (by intro x hx; cases hx), (same_upd hD7).drawn st, st6.same (same_upd hD7)⟩
      (fun j us' H' ⟨l, e1, e2, _⟩ => by rw [e1, ivs_len, e2]; exact Nat.le_refl _) (fun _ _ _ _ => trivial) ?_ ?_
    · rintro j x us' H8' H8 Ky Kn hj hDu ⟨l, rfl, hl1, hl2, D8, s8⟩ ⟨rfl, hx⟩ hy _
      refine lc_yes rfl ?_
      refine ⟨_, rfl, _, rfl, st, b, _, m, rfl, s8, M.pos, by omega, by omega, fun H9 d9 u9 s9 hd9 => ?_⟩
      have D9 := Drawn.of u9 s8 s9
      have m1 := st6.ne1 hD7
      have m2 := st6.ne2 hD7
      have h9 := D9.lst hDu (Ne.symm m1)
      refine hy _ _ h9 ⟨l ++ [d9], by rw [ivs_app]; rfl, by rw [List.length_append, hl1]; rfl, ?_, (D8.trans D9).upd0 hD7 (by rw [h9]; exact fun _ z => nomatch z), s9.upd m1 m2⟩
      intro x hx
      rcases List.mem_append.mp hx with e | e
      · exact hl2 x e
      · rw [List.mem_singleton.mp e]; exact hd9
    rintro H8 ls hDu ⟨l, rfl, hl1, hl2, D8, s8⟩
    refine ⟨D7, _, rfl, .inl ⟨SqL.of hDu, fun pl npl => ?_⟩⟩
    have sL : Same H8 (upd H8 pl (.tup (ivs l))) := same_upd npl
    have hpl : (upd H8 pl (.tup (ivs l))) pl = some (.tup (ivs l)) := upd_same
    have D9 := D8.trans (sL.drawn st)
    have s9 := s8.same sL
    generalize upd H8 pl (.tup (ivs l)) = H9 at hpl D9 s9 ⊢
    -- accepted
    refine ⟨_, rfl, (m : Int), rfl, by omega, by omega, fun D10 hD10 => ?_⟩
    refine lc_acc (walk_range (lo := 0) (n := m)) (fun j us' H' => ∃ l, us' = ivs l ∧ l.length ≤ j ∧ (∀ x ∈ l, x < m) ∧ Drawn st H9 H' ∧ DrawSt H' st b (z + 20 + m + n + j)) (sz (by omega)) ⟨[], rfl, Nat.le_refl _, (by intro x hx; cases hx), (same_upd hD10).drawn st, s9.same (same_upd hD10)⟩
      (fun j us' H' ⟨l, e1, e2, _⟩ => by rw [e1, ivs_len]; exact e2) (fun _ _ _ _ => trivial) ?_ ?_
    · rintro j x us' H11' H11 Ky Kn hj hDu ⟨l', rfl, hl3, hl4, D11, s11⟩ ⟨rfl, hx⟩ hy hno
      replace hx : x = iv j := hx.trans (by show V.int (0 + (j : Int)) = iv j; rw [Int.zero_add])
      subst hx
      refine ⟨rfl, ?_⟩
      refine ⟨_, rfl, st, b, _, 2, rfl, s11, by decide, by decide, by omega, fun H12 d u12 s12 hd => ?_⟩
      have D12' := Drawn.of u12 s11 s12
      have m1 := s9.ne1 hD10
      have m2 := s9.ne2 hD10
      have h12 := D12'.lst hDu (Ne.symm m1)
      refine ⟨rfl, _, rfl, ?_⟩
      refine ite2 (fun h => ?_) (fun h => ?_)
      · refine ⟨_, rfl, hy _ _ h12 ⟨l' ++ [j], by rw [ivs_app]; rfl, by rw [List.length_append, List.length_singleton]; omega, ?_, (D11.trans D12').upd0 hD10 (by rw [h12]; exact fun _ z => nomatch z), s12.upd m1 m2⟩⟩
        intro x hx
        rcases List.mem_append.mp hx with e | e
        · exact hl4 x e
        · rw [List.mem_singleton.mp e]; exact hj
      · exact hno _ h12 ⟨l', rfl, by omega, hl4, D11.trans D12', s12.le (by omega)⟩
    rintro H11 as hDu ⟨l', rfl, hl3, hl4, D11, s11⟩
    refine ⟨D10, _, rfl, .inl ⟨SqL.of hDu, fun pa npa => ?_⟩⟩
    have sA : Same H11 (upd H11 pa (.tup (ivs l'))) := same_upd npa
    have hpa : (upd H11 pa (.tup (ivs l'))) pa = some (.tup (ivs l')) := upd_same
    have D12'' := D11.trans (sA.drawn st)
    have s12 := s11.same sA
    generalize upd H11 pa (.tup (ivs l')) = H12 at hpa D12'' s12 ⊢
    have D612 := D9.trans D12''
    have hn12 := D612.lst hn6 nqn
    have h0 : 0 < nm.length := by rw [hnl]; exact M.pos
    refine ⟨_, rfl, qn, _, 0, _, rfl, rfl, SqL.of hn12, atI_nat (j := 0) (ivs_get h0), _, rfl, _, rfl, _, rfl, by rw [sizeLine_eq]; show 4 ≤ 16777216; decide, fun q nq => ?_⟩
    have sQ : Same H12 (upd H12 q (.tup [iv (nm.getD 0 0), .ref pl, .ref pm, .ref pa])) := same_upd nq
    refine k q _ (mixR f nm l l') ((D6.trans D612).trans (sQ.drawn st)) ((s12.same sQ).le (by omega)) ?_ (by rw [mix_len]; omega) (by show l'.length ≤ 9; omega) ⟨pl, pm, pa, ms, upd_same, ?_, ?_, ?_, ?_⟩
    · refine mix_valid (by rw [hnl]; exact M) (by rw [hnl]; exact hp) hl1 (by rw [hnl]; exact hl2) (by rw [hnl]; exact hl4)
    · exact sQ _ _ (D12''.tu _ _ hpl)
    · exact sQ _ _ (D612.tu _ _ hpm)
    · have := Rows.tups (D612.tu.trans sQ.tups) rms6
      show Rows _ ((List.range nm.length).map fun x => (List.range nm.length).map fun y => nm.getD (f (nm.idxOf x) (nm.idxOf y)) 0) ms
      rw [hnl]; exact this
    · exact sQ _ _ hpa
end
end My
end

section
/-! worth, takes, list, by_number. -/
namespace My
open PySem PySem.Spec PyProof.Rows L2
theorem val_take {T : Tab Nat} {wd : List Nat} {i a : Nat} (h : wd[i]? = some a) : val T (wd.take (i + 1)) = T.j (val T (wd.take i)) (T.l a) := by
  rw [take_snoc h, val_snoc]
theorem word_take {n : Nat} {wd : List Nat} (h : Word n wd) (i : Nat) : Word n (wd.take i) := fun a ha => h a (List.mem_of_mem_take ha)
theorem rl_lets {n : Nat} {R : Rdr} (V : Shape n R) : lets R.tab n = R.l := by
  unfold lets
  refine ext_getD (by rw [List.length_map, List.length_range, V.ln]) fun x hx => ?_
  rw [List.length_map, List.length_range] at hx
  rw [List.getD_eq_getElem?_getD, List.getElem?_map, List.getElem?_range hx]
  rfl
theorem paired_iv {H : Hp} {β : Type} {f : β → Nat} {xs : List β} : Paired (fun x v => v = iv (f x)) xs (ivs (xs.map f)) := by
  induction xs with
  | nil => exact .nil
  | cons a l ih => exact .cons rfl ih
theorem getR_ivs {l : List Nat} {i : Nat} {v : V} (h : (ivs l)[i]? = some v) : ∃ x, l[i]? = some x ∧ v = iv x := by
  unfold ivs at h
  rw [List.getElem?_map] at h
  cases e : l[i]? with
  | none => rw [e] at h; cases h
  | some x => rw [e] at h; exact ⟨x, rfl, (Option.some.inj h).symm⟩
theorem mid_rest {G P R : Prop} (h : P → G) (f : (P → G) → R) : R := f h
section
variable {P : Program} {w : World} {K : PySem.W.Frag} {mg : Str → Option Value} {base : Heap}
/-- a reader's parts are read -/
structure Parts (K : PySem.W.Frag) (H : Hp) (p : Addr) (R : Rdr) (l m a : Addr) (ms : List V) : Prop where
  top : H p = some (.tup [iv R.e, .ref l, .ref m, .ref a])
  l : H l = some (.tup (ivs R.l))
  m : H m = some (.tup ms)
  r : Rows H R.m ms
  a : H a = some (.tup (ivs R.a))
theorem Parts.tups {H H' : Hp} {p : Addr} {R : Rdr} {l m a : Addr} {ms : List V} (h : Parts K H p R l m a ms) (t : Tups H H') : Parts K H' p R l m a ms := ⟨t _ _ h.top, t _ _ h.l, t _ _ h.m, h.r.tups t, t _ _ h.a⟩
theorem RdAt.parts {H : Hp} {p : Addr} {R : Rdr} (h : RdAt H p R) : ∃ l m a ms, Parts K H p R l m a ms := by
  obtain ⟨l, m, a, ms, h1, h2, h3, h4, h5⟩ := h
  exact ⟨l, m, a, ms, h1, h2, h3, h4, h5⟩
theorem Parts.row {H : Hp} {p : Addr} {R : Rdr} {l m a : Addr} {ms : List V} (h : Parts K H p R l m a ms) {n x y : Nat} (S : Shape n R) (hx : x < R.m.length) (hy : y < R.m.length) :
    ∃ b, atI ms ((x : Nat) : Int) = some (.ref b) ∧ SqT K H b (ivs (R.m.getD x [])) ∧ atI (ivs (R.m.getD x [])) ((y : Nat) : Int) = some (iv (R.tab.j x y)) := by
  obtain ⟨b, hb1, hb2⟩ := h.r.get hx
  refine ⟨b, atN hb1, SqT.of hb2, atN (ivs_get ?_)⟩
  rw [getD_lt _ hx, S.row _ (List.getElem_mem hx)]; exact hy
def spWorth : Sp := fun vs H Q _ => ∃ n p r R wd, vs = [.ref p, .ref r] ∧ RdAt H p R ∧ Valid n R ∧ H r = some (.lst (ivs wd)) ∧ Word n wd ∧ Q (iv (val R.tab wd)) H
abbrev nmWorth : List Str := ["_law_reader_here", "_law_row", "_law_now", "_law_letter"]
theorem scWorth : FnScope nmWorth ["_law_reader_here", "_law_row"] (defScope sWorth) := ⟨rfl, rfl, rfl, by decide +kernel, rfl, by decide +kernel, by decide +kernel⟩
theorem ok_worth {f : Addr} {fd : FuncData} (F : Fun K "_law_worth" "_law_worth" sWorth f fd) : FnOk P w K mg base CX0 1 f fd ["_law_reader_here", "_law_row"] spWorth := by
  refine F.ok scWorth (fun vs H Q E h => ?_) (fun cdv A outer s H vs Q E hr h => ?_)
  · obtain ⟨n, p, r, R, wd, rfl, _⟩ := h; rfl
  · obtain ⟨n, p, r, R, wd, rfl, hR, Vl, hw, hW, k⟩ := h
    obtain ⟨l, m, a, ms, h⟩ := hR.parts (K := K)
    refine ⟨_, (pss_cons (ps_set (i := 2) scWorth.nd rfl (.inl rfl) (pe_ix ix_tup (pv 0) pe_int (fun _ _ => rfl)))
        (pss_cons (ps_for PassesOwn.never rfl (pi_list (pv 1)) (pg_name (i := 3) scWorth.nd rfl (.inl rfl)) (pss_one (ps_set (i := 2) scWorth.nd rfl (.inl rfl) (pe_ix ix_tup (pe_ix ix_tup (pe_ix ix_tup (pv 0) pe_int (fun _ _ => rfl)) (pv 2) (fun _ _ => rfl)) (pe_ix ix_tup (pe_ix ix_tup (pv 0) pe_int (fun _ _ => rfl)) (pv 3) (fun _ _ => rfl)) (fun _ _ => rfl)))))
        (pss_one (ps_ret (pv 2))))), ?_⟩
    refine ⟨_, rfl, p, _, 0, _, rfl, rfl, SqT.of h.top, atI_nat (j := 0) rfl, ?_⟩
    refine ⟨_, rfl, r, rfl, ⟨_, SqL.of hw⟩, ?_⟩
    refine for_it (walk_list (xs := ivs wd)) (fun i σ H' => H' = H ∧ ∃ lo, σ = [some (.ref p), some (.ref r), some (iv (val R.tab (wd.take i))), lo]) ⟨rfl, none, rfl⟩ (fun _ _ _ _ ⟨e, _⟩ => by rw [e]; exact SqL.of hw) ?_ ?_
    · rintro i v σ H3 H4 hi ⟨rfl, lo, rfl⟩ ⟨rfl, hx⟩
      obtain ⟨x, hx1, rfl⟩ := getR_ivs hx
      have hxn := hW x (List.mem_of_getElem? hx1)
      have hv := Vl.mon.val (wd.take i) (word_take hW i)
      have hl := Vl.toShape.lt hxn
      obtain ⟨b, b1, b2, b3⟩ := h.row Vl.toShape hv hl
      have hxl : x < R.l.length := by rw [Vl.ln]; exact hxn
      refine ⟨_, rfl, p, _, 2, _, rfl, rfl, SqT.of h.top, atI_nat (j := 2) rfl, _, rfl, m, _, _, _, rfl, rfl, SqT.of h.m, b1, _, rfl, p, _, 1, _, rfl, rfl, SqT.of h.top, atI_nat (j := 1) rfl, _, rfl, l, _, _, _, rfl, rfl, SqT.of h.l, atN (ivs_get hxl), b, _, _, _, rfl, rfl, b2, b3, ?_⟩
      refine ⟨rfl, some (iv x), ?_⟩
      rw [val_take hx1]
      rfl
    · rintro σ H3 ⟨rfl, lo, rfl⟩
      rw [ivs_len, List.take_length]
      exact ⟨_, rfl, k⟩
def spTakes : Sp := fun vs H Q _ => ∃ n p r R wd, vs = [.ref p, .ref r] ∧ RdAt H p R ∧ Valid n R ∧ H r = some (.lst (ivs wd)) ∧ Word n wd ∧ Q (.bl (takes R.tab wd)) H
theorem scTakes : FnScope ["_law_reader_here", "_law_row"] ["_law_reader_here", "_law_row"] (defScope sTakes) := ⟨rfl, rfl, rfl, by decide +kernel, rfl, by decide +kernel, by decide +kernel⟩
theorem ok_takes {f fw : Addr} {fd fdw : FuncData} (F : Fun K "_law_takes" "_law_takes" sTakes f fd) (cw : Cal K mg "_law_worth" fw fdw ["_law_reader_here", "_law_row"]) (gw : FnOk P w K mg base CX0 1 fw fdw ["_law_reader_here", "_law_row"] spWorth) :
    FnOk P w K mg base CX0 2 f fd ["_law_reader_here", "_law_row"] spTakes := by
  refine F.ok scTakes (fun vs H Q E h => ?_) (fun cdv A outer s H vs Q E hr h => ?_)
  · obtain ⟨n, p, r, R, wd, rfl, _⟩ := h; rfl
  · obtain ⟨n, p, r, R, wd, rfl, hR, Vl, hw, hW, k⟩ := h
    obtain ⟨l, m, a, ms, h⟩ := hR.parts (K := K)
    refine ⟨_, (pss_one (ps_ret (pe_cmpR op_in_seq (pe_call gw hr rfl cw.mg cw.kp cw.b .nil pass0 (pa_cons (pv 0) (pa_cons (pv 1) pa_nil))) (pe_ix ix_tup (pv 0) pe_int (fun _ _ => rfl)) (by rfl)))), ?_⟩
    refine ⟨_, rfl, _, rfl, n, p, r, R, wd, rfl, hR, Vl, hw, hW, _, rfl, p, _, 3, _, rfl, rfl, SqT.of h.top, atI_nat (j := 3) rfl, a, _, rfl, .inr (SqT.of h.a), rfl, flat_ivs _, ?_⟩
    show Q (.bl (inV (iv _) (ivs R.a))) _
    rw [inV_ivs]
    exact k
/-! ### list -/
def spList : Sp := fun vs H Q _ => ∃ n p R, vs = [.ref p, .int 400] ∧ RdAt H p R ∧ Shape n R ∧ R.m.length ≤ 20 ∧ n ≤ 20 ∧
  ∀ q H' L, Same H H' → H q = none → H' q = some (.lst (ivs L)) → IsClo R.tab n L → Q (.ref q) H'
abbrev nmList : List Str := ["_law_reader_here", "_law_most", "_law_found", "_law_made", "_law_k", "_law_fresh", "_law_x", "_law_y"]
theorem scList : FnScope nmList ["_law_reader_here", "_law_most"] (defScope sList) := ⟨rfl, rfl, rfl, by decide +kernel, rfl, by decide +kernel, by decide +kernel⟩
theorem ok_list {f : Addr} {fd : FuncData} (F : Fun K "_law_list" "_law_list" sList f fd) (B : Blt mg) : FnOk P w K mg base CX0 1 f fd ["_law_reader_here", "_law_most"] spList := by
  refine F.ok scList (fun vs H Q E h => ?_) (fun cdv A outer s H vs Q E hr h => ?_)
  · obtain ⟨n, p, R, rfl, _⟩ := h; rfl
  · obtain ⟨n, p, R, rfl, hR, Sh, hm, hn, k⟩ := h
    obtain ⟨l, m, a, ms, h⟩ := hR.parts (K := K)
    refine ⟨_, (pss_cons (ps_set (i := 2) scList.nd rfl (.inl rfl) (pe_lst (pa_cons (pe_ix ix_tup (pv 0) pe_int (fun _ _ => rfl)) pa_nil)))
        (pss_cons (ps_set (i := 3) scList.nd rfl (.inl rfl) (pe_callTy call_list_of (by rfl) B.list (by decide +kernel) (pa_cons (pe_ix ix_tup (pv 0) pe_int (fun _ _ => rfl)) pa_nil)))
        (pss_cons (ps_for PassesOwn.never rfl (pi_range1 rfl B.range (pa_cons pe_int pa_nil)) (pg_name (i := 4) scList.nd rfl (.inl rfl)) (pss_cons (ps_set (i := 5) scList.nd rfl (.inl rfl) pe_int)
        (pss_cons (ps_for PassesOwn.never rfl (pi_list (pv 3)) (pg_name (i := 6) scList.nd rfl (.inr rfl)) (pss_one (ps_if (pt_cmpR op_notIn_seq (pv 6) (pv 2) (by rfl)) (pss_cons (ps_expr (pe_bm PySem.F.plainAttrs_list PySem.F.slot_list_append PySem.F.type_list_append mt_append (pv 2) (pa_cons (pv 6) pa_nil)))
        (pss_one (ps_set (i := 5) scList.nd rfl (.inl rfl) (pe_op op_add (pv 5) pe_int)))) pss_nil)))
        (pss_cons (ps_if (pt_cmpR op_gt (pe_callB call_len_seq (by rfl) B.len PySem.boot_len (pa_cons (pv 2) pa_nil)) (pv 1) (nomark _)) (pss_one (ps_ret pe_non)) pss_nil)
        (pss_cons (ps_if (PW.pt (pw_and (pt_cmpR op_gt (pv 4) pe_int (nomark _)) (pw_and1 (pt_cmpR op_eq (pv 5) pe_int (nomark _))))) (pss_one (ps_ret (pv 2))) pss_nil)
        (pss_cons (ps_set (i := 3) scList.nd rfl (.inl rfl) (pe_lst pa_nil))
        (pss_one (ps_for PassesOwn.never rfl (pi_list (pv 2)) (pg_name (i := 6) scList.nd rfl (.inr rfl)) (pss_one (ps_set (i := 3) scList.nd rfl (.inl rfl) (pe_op op_cat (pv 3) (pe_lc (own := [("_law_y", 7)]) (g := gName 7) (tt := tYes) rfl scList.nd (pi_list (pv 2)) (blkOk_by (N := nmList) (sc := defScope sList) (by decide +kernel)) (fun _ _ _ _ _ => pg_name (i := 7) scList.nd rfl (Or.inl rfl)) (fun _ _ _ _ _ => pts_nil)
          (fun _ _ _ _ _ => (pe_ix (ix_tupK K rfl) (pe_ix (ix_tupK K rfl) (pe_ix (ix_tupK K rfl) (pv 0) pe_int (fun _ _ => rfl)) (pv 6) (fun _ _ => rfl)) (pv 7) (fun _ _ => rfl)))))))))))))))
        (pss_one (ps_ret (pv 2)))))), ?_⟩
    have sz : ∀ {j : Nat}, j ≤ 1000 → j < sizeLine := fun h => by rw [sizeLine_eq]; omega
    have hN := shape_iter Sh
    have hin : ∀ k, ∀ x ∈ iter R.tab n k, x < R.m.length := fun k => iter_ind (P := fun x => x < R.m.length) Sh.e (fun a ha => Sh.lt ha) (fun x y hx hy => Sh.jt hx hy) k
    refine ⟨_, rfl, p, _, 0, _, rfl, rfl, SqT.of h.top, atI_nat (j := 0) rfl, by rw [sizeLine_eq]; show 1 ≤ 16777216; decide, fun q hq => ?_⟩
    have sA : Same H (upd H q (.lst [iv R.e])) := same_upd hq
    have hqA : (upd H q (.lst [iv R.e])) q = some (.lst (ivs [R.e])) := upd_same
    have hq0 : H q = none := hq
    generalize upd H q (.lst [iv R.e]) = HA at sA hqA ⊢
    have hA := h.tups sA.tups
    refine ⟨_, rfl, p, _, 1, _, rfl, rfl, SqT.of hA.top, atI_nat (j := 1) rfl, l, _, rfl, .inr (SqT.of hA.l), fun mp0 hmp0 => ?_⟩
    have sB : Same HA (upd HA mp0 (.lst (ivs R.l))) := same_upd hmp0
    have hmB : (upd HA mp0 (.lst (ivs R.l))) mp0 = some (.lst (ivs R.l)) := upd_same
    have nm0 : mp0 ≠ q := fun e => by rw [e, hqA] at hmp0; cases hmp0
    have hqB := sB _ _ hqA
    have hmp00 := sA.free hmp0
    have sHB := sA.trans sB
    generalize upd HA mp0 (.lst (ivs R.l)) = HB at hmB hqB sHB ⊢
    refine ⟨400, rfl, by decide, by decide, ?_⟩
    refine for_it (walk_range (lo := 0) (n := 400)) (fun i σ H' => ∃ found made mp ko fo xo, σ = [some (.ref p), some (.int 400), some (.ref q), some (.ref mp), ko, fo, xo, none] ∧ Same H H' ∧ H' q = some (.lst (ivs found)) ∧ H' mp = some (.lst (ivs made)) ∧ mp ≠ q ∧ H mp = none ∧ LLoop R.tab n i found made ∧ made.length ≤ 400)
      ⟨[R.e], R.l, mp0, none, none, none, rfl, sHB, hqB, hmB, nm0, hmp00, by rw [← rl_lets Sh]; exact LLoop.start R.tab n, by rw [Sh.ln]; omega⟩ (fun _ _ _ _ _ => trivial) ?_ ?_
    · rintro i v σ H1' H1 hi ⟨found, made, mp, ko, fo, xo, rfl, s1, hq1, hm1, nm1, hmp1, LL, hml⟩ ⟨rfl, hv⟩
      replace hv : v = iv i := hv.trans (by show V.int (0 + (i : Int)) = iv i; rw [Int.zero_add])
      subst hv
      have had : (adds found made).length ≤ 20 := by rw [LL.ad]; exact Nat.le_trans (hN i) hm
      have hfl : found.length ≤ (adds found made).length := by
        obtain ⟨r, e⟩ := adds_prefix made found
        rw [e, List.length_append]; omega
      refine ⟨_, rfl, mp, rfl, ⟨_, SqL.of hm1⟩, ?_⟩
      refine for_it (walk_list (xs := ivs made)) (fun j σ H' => ∃ xo, σ = [some (.ref p), some (.int 400), some (.ref q), some (.ref mp), some (iv i), some (.int (((adds found (made.take j)).length : Int) - (found.length : Int))), xo, none] ∧ Same H H' ∧ H' q = some (.lst (ivs (adds found (made.take j)))) ∧ H' mp = some (.lst (ivs made)))
        ⟨xo, by rw [List.take_zero, adds_nil, Int.sub_self]; rfl, s1, hq1, hm1⟩ (fun _ _ _ _ ⟨_, _, _, _, h⟩ => SqL.of h) ?_ ?_
      · rintro j v σ H2' H2 hj ⟨xo, rfl, s2, hq2, hm2⟩ ⟨rfl, hx⟩
        obtain ⟨x, hx1, rfl⟩ := getR_ivs hx
        have hts := take_snoc hx1
        have hal := adds_len_le found (made.take j)
        rw [List.length_take] at hal
        refine ⟨_, rfl, _, rfl, q, _, rfl, .inl (SqL.of hq2), rfl, flat_ivs _, _, rfl, ?_⟩
        rw [show (if (true : Bool) = true then !inV (iv x) (ivs (adds found (made.take j))) else inV (iv x) (ivs (adds found (made.take j)))) = !decide (x ∈ adds found (made.take j)) by rw [if_pos rfl, inV_ivs]]
        by_cases hmem : x ∈ adds found (made.take j)
        · rw [decide_eq_true hmem]
          refine iteF ⟨some (iv x), ?_, s2, ?_, hm2⟩
          · rw [hts, adds_snoc, if_pos hmem]; rfl
          · rw [hts, adds_snoc, if_pos hmem]; exact hq2
        · rw [decide_eq_false hmem]
          refine iteT ⟨_, rfl, .inl ⟨rfl, _, SqL.of hq2⟩, _, rfl, q, _, _, rfl, rfl, hq2, by rw [ivs_len]; exact sz (by omega), ?_⟩
          refine ⟨_, rfl, _, 1, rfl, rfl, ?_⟩
          refine ⟨some (iv x), ?_, s2.upd0 hq0, ?_, (upd_ne nm1).trans hm2⟩
          · rw [hts, adds_snoc, if_neg hmem, List.length_append, List.length_singleton]
            show [some (V.ref p), some (V.int 400), some (V.ref q), some (V.ref mp), some (iv i), some (V.int (((adds found (made.take j)).length : Int) - (found.length : Int) + 1)), some (iv x), none] = _
            rw [show ((((adds found (made.take j)).length + 1 : Nat) : Int) - (found.length : Int)) = ((adds found (made.take j)).length : Int) - (found.length : Int) + 1 by omega]
          · rw [upd_same, hts, adds_snoc, if_neg hmem, ivs_app]; rfl
      rintro σ H2 ⟨xo, rfl, s2, hq2, hm2⟩
      rw [ivs_len, List.take_length] at hq2 ⊢
      generalize hF : adds found made = F at had hfl hq2 ⊢
      have hFi : F = iter R.tab n i := by rw [← hF]; exact LL.ad
      refine ⟨_, rfl, q, _, rfl, .inl (SqL.of hq2), _, rfl, ((ivs F).length : Int), 400, rfl, rfl, _, rfl, ?_⟩
      rw [ivs_len, decide_eq_false (show ¬ ((400 : Int) < (F.length : Int)) by omega)]
      refine iteF ?_
      refine mid_rest (P := ¬ (0 < i ∧ F.length = found.length)) (G := ?G) ?rest ?main
      case main =>
        intro rest
        refine ⟨_, rfl, (i : Int), 0, rfl, rfl, _, rfl, ite2 (fun h0 => ?_) (fun h0 => ?_)⟩
        · have hi0 : 0 < i := by have := of_decide_eq_true h0; omega
          refine ⟨_, rfl, rfl, _, rfl, ite2 (fun hf => ?_) (fun hf => ?_)⟩
          · have e := of_decide_eq_true hf
            rw [V.int.injEq] at e
            have el : F.length = found.length := by omega
            have hc := LL.done hi0 (by rw [hF]; exact el)
            rw [hF] at hc
            exact ⟨_, rfl, k q H2 F s2 hq0 hq2 hc⟩
          · refine rest fun ⟨_, e⟩ => hf (decide_eq_true ?_)
            rw [V.int.injEq]
            omega
        · exact rest fun ⟨e, _⟩ => h0 (decide_eq_true (by omega))
      case rest =>
        intro hno
        have hFm : ∀ x ∈ F, x < R.m.length := by rw [hFi]; exact hin i
        have LN : LLoop R.tab n (i + 1) F (prods R.tab F F) := by
          have := LL.next (by rw [hF]; exact hno)
          rw [hF] at this
          exact this
        refine ⟨Nat.zero_le _, fun mq hmq => ?_⟩
        have s3 : Same H (upd H2 mq (.lst [])) := s2.trans (same_upd hmq)
        have hq3 : (upd H2 mq (.lst [])) q = some (.lst (ivs F)) := (same_upd hmq) _ _ hq2
        have hm3 : (upd H2 mq (.lst [])) mq = some (.lst (ivs [])) := upd_same
        have nmq : mq ≠ q := fun e => by rw [e, hq2] at hmq; cases hmq
        have hmq0 := s2.free hmq
        generalize upd H2 mq (.lst []) = H3 at s3 hq3 hm3 ⊢
        refine ⟨_, rfl, q, rfl, ⟨_, SqL.of hq3⟩, ?_⟩
        refine for_it (walk_list (xs := ivs F)) (fun j σ H' => ∃ mp xo, σ = [some (.ref p), some (.int 400), some (.ref q), some (.ref mp), some (iv i), some (.int ((F.length : Int) - (found.length : Int))), xo, none] ∧ Same H H' ∧ H' q = some (.lst (ivs F)) ∧ H' mp = some (.lst (ivs (prods R.tab (F.take j) F))) ∧ mp ≠ q ∧ H mp = none)
          ⟨mq, xo, rfl, s3, hq3, hm3, nmq, hmq0⟩ (fun _ _ _ _ ⟨_, _, _, _, h, _⟩ => SqL.of h) ?_ ?_
        · rintro j v σ H4' H4 hj ⟨mp, xo, rfl, s4, hq4, hm4, nm4, hmp4⟩ ⟨rfl, hx⟩
          obtain ⟨x, hx1, rfl⟩ := getR_ivs hx
          have hjF : j < F.length := by rw [ivs_len] at hj; exact hj
          have hxm := hFm x (List.mem_of_getElem? hx1)
          have h4 := h.tups s4.tups
          refine ⟨_, rfl, _, rfl, q, rfl, ⟨_, SqL.of hq4⟩, fun D hD => ?_⟩
          refine lc_fill (xs := F) (ivs_len F).symm (walk_list (xs := ivs F)) (fun _ => true) (fun _ y v => v = iv (R.tab.j x y)) (fun _ _ _ _ _ h => h) hD (sz (by omega)) (fun H' s => SqL.of (s _ _ hq4)) ?_ ?_
          · rintro j5 y v5 H5' H5 Ky Kn hz s5 ⟨rfl, hv5⟩ hy _
            obtain ⟨y', hy1, rfl⟩ := getR_ivs hv5
            obtain rfl : y = y' := by rw [hz] at hy1; exact Option.some.inj hy1
            have hym := hFm y (List.mem_of_getElem? hz)
            have h5 := h4.tups s5.tups
            obtain ⟨b, b1, b2, b3⟩ := h5.row Sh hxm hym
            refine lc_yes rfl ?_
            exact ⟨_, rfl, p, _, 2, _, rfl, rfl, SqT.of h5.top, atI_nat (j := 2) rfl, _, rfl, m, _, _, _, rfl, rfl, SqT.of h5.m, b1, _, rfl, b, _, _, _, rfl, rfl, b2, b3, hy rfl _ _ (Same.refl _) rfl⟩
          rintro H5 rs s5 hrs rrs
          rw [filter_yes] at rrs
          have ers := ivs_of (H := H5) rrs
          subst ers
          have hpl : (prods R.tab (F.take j) F).length ≤ j * 20 := by
            have : ∀ l : List Nat, (prods R.tab l F).length = l.length * F.length := by
              intro l
              induction l with
              | nil => simp [prods]
              | cons a l ih =>
                unfold prods at ih ⊢
                rw [List.flatMap_cons, List.length_append, ih, List.length_map, List.length_cons, Nat.add_mul]; omega
            rw [this, List.length_take]
            exact Nat.mul_le_mul (Nat.min_le_left _ _) had
          refine ⟨mp, D, _, _, rfl, rfl, s5 _ _ hm4, hrs, by rw [ivs_len, ivs_len, List.length_map, sizeLine_eq]; omega, fun mr hmr => ?_⟩
          have s6 : Same H4 (upd H5 mr (.lst (ivs (prods R.tab (F.take j) F) ++ ivs (F.map fun y => R.tab.j x y)))) := s5.trans (same_upd hmr)
          refine ⟨mr, some (iv x), rfl, s4.trans s6, s6 _ _ hq4, ?_, fun e => ?_, (s4.trans s5).free hmr⟩
          · rw [upd_same, ← ivs_app, take_snoc hx1]
            unfold prods
            rw [List.flatMap_append]
            simp
          · rw [e] at hmr
            rw [s5 _ _ hq4] at hmr
            cases hmr
        · rintro σ H4 ⟨mp, xo, rfl, s4, hq4, hm4, nm4, hmp4⟩
          rw [ivs_len, List.take_length] at hm4
          refine ⟨F, prods R.tab F F, mp, _, _, xo, rfl, s4, hq4, hm4, nm4, hmp4, LN, ?_⟩
          have : ∀ l : List Nat, (prods R.tab l F).length = l.length * F.length := by
            intro l
            induction l with
            | nil => simp [prods]
            | cons a l ih =>
              unfold prods at ih ⊢
              rw [List.flatMap_cons, List.length_append, ih, List.length_map, List.length_cons, Nat.add_mul]; omega
          rw [this]
          exact Nat.mul_le_mul had had
    · rintro σ H1 ⟨found, made, mp, ko, fo, xo, rfl, s1, hq1, hm1, nm1, hmp1, LL, hml⟩
      have := LL.bound hN (by omega)
      omega
/-! ### by_number -/
def spByNum : Sp := fun vs H Q _ => ∃ n p q R L, vs = [.ref p, .ref q] ∧ RdAt H p R ∧ Shape n R ∧ H q = some (.lst (ivs L)) ∧ IsClo R.tab n L ∧ L.length ≤ 300 ∧ n ≤ 100 ∧
  ∀ r H', Same H H' → RdAt H' r (tabOf R.tab n L) → Q (.ref r) H'
abbrev nmBy : List Str := ["_law_reader_here", "_law_found", "_law_numbers", "_law_x", "_law_mul", "_law_accepted", "_law_y"]
theorem scBy : FnScope nmBy ["_law_reader_here", "_law_found"] (defScope sByNumber) := ⟨rfl, rfl, rfl, by decide +kernel, rfl, by decide +kernel, by decide +kernel⟩
abbrev scBy1 : Scope := rel (compSc (callA (asgV ((defBody sByNumber).getD 2 (.Pass ⟨0, 0, 0, 0⟩))) 0)) (defScope sByNumber)
theorem ok_bynum {f : Addr} {fd : FuncData} (F : Fun K "_law_by_number" "_law_by_number" sByNumber f fd) (B : Blt mg) : FnOk P w K mg base CX0 1 f fd ["_law_reader_here", "_law_found"] spByNum := by
  refine F.ok scBy (fun vs H Q E h => ?_) (fun cdv A outer s H vs Q E hr h => ?_)
  · obtain ⟨n, p, q, R, L, rfl, _⟩ := h; rfl
  · obtain ⟨n, p, q, R, L, rfl, hR, Sh, hq, hC, hL, hn, k⟩ := h
    have hu := hu_of hr
    obtain ⟨l, m, a, ms, h⟩ := hR.parts (K := K)
    refine ⟨_, (pss_cons (ps_set (i := 2) scBy.nd rfl (.inr rfl) kInt.new)
        (pss_cons (ps_for PassesOwn.never rfl (pi_list (pv 1)) (pg_name (i := 3) scBy.nd rfl (.inl rfl)) (pss_one (ps_dput hu (pv 2) (pv 3) (pe_callB kInt.len (by rfl) B.len PySem.boot_len (pa_cons (pv 2) pa_nil)) rfl)))
        (pss_cons (ps_set (i := 4) scBy.nd rfl (.inl rfl) (pe_callTy call_tuple_of (by rfl) B.tuple (by decide +kernel) (pa_cons (pe_lc (own := [("_law_x", 3)]) (g := gName 3) (tt := tYes) rfl scBy.nd (pi_list (pv 1)) (blkOk_by (N := nmBy) (sc := defScope sByNumber) (by decide +kernel)) (fun _ _ _ _ _ => pg_name (i := 3) scBy.nd rfl (Or.inr rfl)) (fun _ _ _ _ _ => pts_nil)
          (fun _ _ _ _ _ => (pe_callTy (call_tupK K rfl) (by rfl) B.tuple (by decide +kernel) (pa_cons (pe_lc (own := [("_law_y", 6)]) (g := gName 6) (tt := tYes) rfl scBy.nd (pi_listK K rfl (pv 1)) (blkOk_by (N := nmBy) (sc := scBy1) (by decide +kernel)) (fun _ _ _ _ _ => pg_name (i := 6) scBy.nd rfl (Or.inl rfl)) (fun _ _ _ _ _ => pts_nil)
          (fun _ _ _ _ _ => (pe_dget hu (pv 2) (pe_ix (ix_tupK K rfl) (pe_ix (ix_tupK K rfl) (pe_ix (ix_tupK K rfl) (pv 0) pe_int (fun _ _ => rfl)) (pv 3) (fun _ _ => rfl)) (pv 6) (fun _ _ => rfl)) (fun _ _ => rfl)))) pa_nil)))) pa_nil)))
        (pss_cons (ps_set (i := 5) scBy.nd rfl (.inl rfl) (pe_callTy call_tuple_of (by rfl) B.tuple (by decide +kernel) (pa_cons (pe_lc (own := [("_law_x", 3)]) (g := gName 3)  rfl scBy.nd (pi_list (pv 1)) (blkOk_by (N := nmBy) (sc := defScope sByNumber) (by decide +kernel)) (fun _ _ _ _ _ => pg_name (i := 3) scBy.nd rfl (Or.inl rfl)) (fun _ _ _ _ _ => pts_one (pt_cmpR (op_inK K rfl) (pv 3) (pe_ix (ix_tupK K rfl) (pv 0) pe_int (fun _ _ => rfl)) (by rfl)))
          (fun _ _ _ _ _ => (pe_dget hu (pv 2) (pv 3) (fun _ _ => rfl)))) pa_nil)))
        (pss_one (ps_ret (pe_tup (pa_cons (pe_dget hu (pv 2) (pe_ix ix_tup (pv 0) pe_int (fun _ _ => rfl)) (fun _ _ => rfl)) (pa_cons (pe_callTy call_tuple_of (by rfl) B.tuple (by decide +kernel) (pa_cons (pe_lc (own := [("_law_x", 3)]) (g := gName 3) (tt := tYes) rfl scBy.nd (pi_tup (pe_ix ix_tup (pv 0) pe_int (fun _ _ => rfl))) (blkOk_by (N := nmBy) (sc := defScope sByNumber) (by decide +kernel)) (fun _ _ _ _ _ => pg_name (i := 3) scBy.nd rfl (Or.inl rfl)) (fun _ _ _ _ _ => pts_nil)
          (fun _ _ _ _ _ => (pe_dget hu (pv 2) (pv 3) (fun _ _ => rfl)))) pa_nil)) (pa_cons (pv 4) (pa_cons (pv 5) pa_nil))))))))))), ?_⟩
    intro d hd0
    have hnd : L.Nodup := hC.nodup
    have sz : ∀ {k : Nat}, k ≤ 300 → k < sizeLine := fun h => by rw [sizeLine_eq]; omega
    refine ⟨_, rfl, q, rfl, ⟨_, SqL.of ((same_upd hd0) _ _ hq)⟩, ?_⟩
    refine for_it (walk_list (xs := ivs L)) (fun i σ H' => ∃ xo, σ = [some (.ref p), some (.ref q), some (.ref d), xo, none, none, none] ∧ Same H H' ∧ H' d = some (kInt.ho (numb (L.take i)))) ⟨none, rfl, same_upd hd0, upd_same⟩ (fun _ _ _ _ ⟨_, _, s, _⟩ => SqL.of (s _ _ hq)) ?_ ?_
    · rintro i v σ H8' H8 hi ⟨xo, rfl, s8, hd8⟩ ⟨rfl, hx2⟩
      obtain ⟨x, hx, rfl⟩ := getR_ivs hx2
      have hiL : i < L.length := by rw [ivs_len] at hi; exact hi
      have hz : x ∉ (numb (L.take i)).map (·.1) := by rw [numb_keys]; exact nodup_take hnd hx
      refine ⟨_, rfl, d, _, rfl, hd8, _, rfl, _, rfl, d, _, rfl, kInt.put hd8 (show iv x = iv x from rfl) (by rw [numb_len, List.length_take]; exact sz (by omega)) (valV_none hz), ?_⟩
      refine ⟨some (iv x), rfl, s8.upd0 hd0, ?_⟩
      rw [upd_same, take_snoc hx, numb_snoc, numb_len, List.length_take, Nat.min_eq_left (by omega)]
    rintro σ H3 ⟨xo, rfl, s3, hd3⟩
    rw [ivs_len, List.take_length] at hd3
    have get : ∀ {H' : Hp} {x : Nat}, Same H3 H' → x ∈ L → DGet H' d (iv x) (some (iv (L.idxOf x))) := fun {H' x} s hx => by
      have := kInt.get (x := x) (v := iv x) (s _ _ hd3) rfl
      rw [numb_val hx] at this
      exact this
    have qS : ∀ {H' : Hp}, Same H3 H' → H' q = some (.lst (ivs L)) := fun s => s _ _ (s3 _ _ hq)
    have pS : ∀ {H' : Hp}, Same H3 H' → Parts K H' p R l m a ms := fun s => h.tups (s3.trans s).tups
    have hLm : ∀ x ∈ L, x < R.m.length := hC.ind (P := fun x => x < R.m.length) Sh.e (fun a ha => Sh.lt ha) (fun x y hx hy => Sh.jt hx hy)
    -- mul
    refine ⟨_, rfl, q, rfl, ⟨_, SqL.of (qS (Same.refl _))⟩, fun D6 hD6 => ?_⟩
    refine lc_fill (xs := L) (ivs_len L).symm (walk_list (xs := ivs L)) (fun _ => true) (repRow fun x => L.map fun y => L.idxOf (R.tab.j x y)) (repRow_mono _) hD6 (sz hL) (fun H' s => SqL.of (qS s)) ?_ ?_
    · rintro i x vx H6' H6 Ky Kn hx s6 ⟨rfl, hvx⟩ hy _
      obtain ⟨x', hx', rfl⟩ := getR_ivs hvx
      obtain rfl : x = x' := by rw [hx] at hx'; exact Option.some.inj hx'
      have hxL := List.mem_of_getElem? hx
      refine lc_yes rfl ?_
      refine ⟨_, rfl, q, rfl, ⟨_, SqL.of (qS s6)⟩, fun D8 hD8 => ?_⟩
      refine lc_fill (xs := L) (ivs_len L).symm (walk_list (xs := ivs L)) (fun _ => true) (fun _ y v => v = iv (L.idxOf (R.tab.j x y))) (fun _ _ _ _ _ h => h) hD8 (sz hL) (fun H' s => SqL.of (qS (s6.trans s))) ?_ ?_
      · rintro j y vy H8' H8 Ky2 Kn2 hy2 s8 ⟨rfl, hvy⟩ hk _
        have s68 := s6.trans s8
        obtain ⟨y', hy', rfl⟩ := getR_ivs hvy
        obtain rfl : y = y' := by rw [hy2] at hy'; exact Option.some.inj hy'
        have hyL := List.mem_of_getElem? hy2
        have h8 := pS s68
        obtain ⟨b, b1, b2, b3⟩ := h8.row Sh (hLm x hxL) (hLm y hyL)
        refine lc_yes rfl ?_
        exact ⟨_, rfl, _, rfl, p, _, 2, _, rfl, rfl, SqT.of h8.top, atI_nat (j := 2) rfl, _, rfl, m, _, _, _, rfl, rfl, SqT.of h8.m, b1, _, rfl, b, _, _, _, rfl, rfl, b2, b3, d, _, rfl, get s68 (hC.j hxL hyL), hk rfl _ _ (Same.refl _) rfl⟩
      rintro H8 rs s8 hrs rrs
      rw [filter_yes] at rrs
      have ers := ivs_of (H := H8) rrs
      refine ⟨D8, rs, rfl, .inl ⟨SqL.of hrs, fun pr npr => ?_⟩⟩
      exact hy rfl _ _ (s8.trans (same_upd npr)) ⟨pr, rfl, by rw [upd_same, ers]⟩
    rintro H6 mms s6 hms rms
    rw [filter_yes] at rms
    refine ⟨D6, mms, rfl, .inl ⟨SqL.of hms, fun pm npm => ?_⟩⟩
    have s7 : Same H3 (upd H6 pm (.tup mms)) := s6.trans (same_upd npm)
    have hpm : (upd H6 pm (.tup mms)) pm = some (.tup mms) := upd_same
    have rms7 : Rows (upd H6 pm (.tup mms)) (L.map fun x => L.map fun y => L.idxOf (R.tab.j x y)) mms := Rows.tups (same_upd npm).tups (paired_mapL rms)
    generalize upd H6 pm (.tup mms) = H7 at s7 hpm rms7 ⊢
    -- accepted
    refine ⟨_, rfl, q, rfl, ⟨_, SqL.of (qS s7)⟩, fun D8 hD8 => ?_⟩
    refine lc_fill (xs := L) (ivs_len L).symm (walk_list (xs := ivs L)) R.tab.acc (fun _ x v => v = iv (L.idxOf x)) (fun _ _ _ _ _ h => h) hD8 (sz hL) (fun H' s => SqL.of (qS (s7.trans s))) ?_ ?_
    · rintro i x vx H8' H8 Ky Kn hx s8 ⟨rfl, hvx⟩ hy hno
      obtain ⟨x', hx', rfl⟩ := getR_ivs hvx
      obtain rfl : x = x' := by rw [hx] at hx'; exact Option.some.inj hx'
      have hxL := List.mem_of_getElem? hx
      have h8 := pS (s7.trans s8)
      refine ⟨rfl, ?_⟩
      refine ⟨_, rfl, _, rfl, p, _, 3, _, rfl, rfl, SqT.of h8.top, atI_nat (j := 3) rfl, a, _, rfl, .inr (SqT.of h8.a), rfl, flat_ivs _, _, rfl, ?_⟩
      rw [show (if (false : Bool) = true then !inV (iv x) (ivs R.a) else inV (iv x) (ivs R.a)) = R.tab.acc x by rw [if_neg (by decide), inV_ivs]; rfl]
      cases e : R.tab.acc x with
      | true =>
        rw [if_pos rfl]
        exact ⟨_, rfl, _, rfl, d, _, rfl, get (s7.trans s8) hxL, hy e _ _ (Same.refl _) rfl⟩
      | false =>
        rw [if_neg (by decide)]
        exact hno e _ (Same.refl _)
    rintro H8 as s8 has ras
    have eas := ivs_of (H := H8) ras
    refine ⟨D8, as, rfl, .inl ⟨SqL.of has, fun pa npa => ?_⟩⟩
    have s9 : Same H7 (upd H8 pa (.tup as)) := s8.trans (same_upd npa)
    have hpa : (upd H8 pa (.tup as)) pa = some (.tup as) := upd_same
    generalize upd H8 pa (.tup as) = H9 at s9 hpa ⊢
    have s39 := s7.trans s9
    have h9 := pS s39
    -- the tuple
    refine ⟨_, rfl, _, rfl, p, _, 0, _, rfl, rfl, SqT.of h9.top, atI_nat (j := 0) rfl, d, _, rfl, get s39 hC.e, ?_⟩
    refine ⟨_, rfl, p, _, 1, _, rfl, rfl, SqT.of h9.top, atI_nat (j := 1) rfl, l, rfl, ⟨_, SqT.of h9.l⟩, fun D10 hD10 => ?_⟩
    have hRl : ∀ x ∈ R.l, x ∈ L := fun x hx => by
      rw [← rl_lets Sh] at hx
      obtain ⟨b, hb, rfl⟩ := List.mem_map.mp hx
      exact hC.l (List.mem_range.mp hb)
    refine lc_fill (xs := R.l) (ivs_len R.l).symm (walk_tup (xs := ivs R.l)) (fun _ => true) (fun _ x v => v = iv (L.idxOf x)) (fun _ _ _ _ _ h => h) hD10 (by rw [Sh.ln]; exact sz (by omega)) (fun H' s => SqT.of (s.tups _ _ h9.l)) ?_ ?_
    · rintro i x vx H10' H10 Ky Kn hx s10 ⟨rfl, hvx⟩ hy _
      obtain ⟨x', hx', rfl⟩ := getR_ivs hvx
      obtain rfl : x = x' := by rw [hx] at hx'; exact Option.some.inj hx'
      refine lc_yes rfl ?_
      exact ⟨_, rfl, _, rfl, d, _, rfl, get (s39.trans s10) (hRl x (List.mem_of_getElem? hx)), hy rfl _ _ (Same.refl _) rfl⟩
    rintro H10 ls s10 hls rls
    rw [filter_yes] at rls
    have els := ivs_of (H := H10) rls
    refine ⟨D10, ls, rfl, .inl ⟨SqL.of hls, fun pl npl => ?_⟩⟩
    have s11 : Same H9 (upd H10 pl (.tup ls)) := s10.trans (same_upd npl)
    have hpl : (upd H10 pl (.tup ls)) pl = some (.tup ls) := upd_same
    generalize upd H10 pl (.tup ls) = H11 at s11 hpl ⊢
    refine ⟨_, rfl, _, rfl, by rw [sizeLine_eq]; show 4 ≤ 16777216; decide, fun r nr => ?_⟩
    have s12 : Same H11 (upd H11 r (.tup [iv (L.idxOf R.e), .ref pl, .ref pm, .ref pa])) := same_upd nr
    refine k r _ (s3.trans ((s39.trans s11).trans s12)) ⟨pl, pm, pa, mms, upd_same, ?_, ?_, ?_, ?_⟩
    · rw [s12 _ _ hpl, els, ← rl_lets Sh]
      show some (HO.tup (ivs (((List.range n).map R.tab.l).map fun x => L.idxOf x))) = some (HO.tup (ivs ((List.range n).map fun b => L.idxOf (R.tab.l b))))
      rw [List.map_map]; rfl
    · exact s12 _ _ (s11 _ _ (s9 _ _ hpm))
    · exact Rows.tups ((s9.trans s11).trans s12).tups rms7
    · rw [s12 _ _ (s11 _ _ hpa), eas]; rfl
end
end My
end

section
/-! lead. -/
namespace My
open PySem PySem.Spec PyProof.Rows L2
theorem cr_minK (K : PySem.W.Frag) {X : Cx} (h : X.K = K) (hc : X.calm = true) : CallR X (.builtin "min") (rMin K) := by subst h; exact cr_min hc
def tk (t : List (Nat × Nat)) : List ((Nat × Nat) × V) := t.map fun p => (p, V.bl true)
theorem tk_keys (t : List (Nat × Nat)) : (tk t).map (·.1) = t := by
  unfold tk
  rw [List.map_map]
  exact List.map_id t
theorem tk_some (t : List (Nat × Nat)) (p : Nat × Nat) : (valV (tk t) p).isSome = decide (p ∈ t) := by rw [mem_valV]; exact decide_eq_decide.mpr (by rw [tk_keys])
theorem tk_none {t : List (Nat × Nat)} {p : Nat × Nat} (h : p ∉ t) : valV (tk t) p = none := valV_none (by rw [tk_keys]; exact h)
theorem tk_snoc (t : List (Nat × Nat)) (p : Nat × Nat) : tk (t ++ [p]) = tk t ++ [(p, V.bl true)] := List.map_append
theorem tk_len (t : List (Nat × Nat)) : (tk t).length = t.length := List.length_map ..
/-- what a round has looked at: told, or its pairs were not told apart ahead of the round -/
def Dn (S : Rdr) (t r : List (Nat × Nat)) (y x z : Nat) : Prop := (y, x) ∈ t ++ r ∨ (¬ Apart t (S.tab.j z x) (S.tab.j z y) ∧ ¬ Apart t (S.tab.j x z) (S.tab.j y z))
theorem Dn.mono {S : Rdr} {t r : List (Nat × Nat)} {y x z : Nat} (q : Nat × Nat) (h : Dn S t r y x z) : Dn S t (r ++ [q]) y x z := by
  rcases h with h | h
  · exact .inl (by rw [← List.append_assoc]; exact List.mem_append_left _ h)
  · exact .inr h
structure LI (S : Rdr) (H : Hp) (d : Addr) (t r : List (Nat × Nat)) (H' : Hp) : Prop where
  sm : Same H H'
  hd : H' d = some (kPair.ho (tk (t ++ r)))
  td : Told S (t ++ r)
theorem LI.same {S : Rdr} {H : Hp} {d : Addr} {t r : List (Nat × Nat)} {H' H'' : Hp} (h : LI S H d t r H') (s : Same H' H'') : LI S H d t r H'' := ⟨h.sm.trans s, s _ _ h.hd, h.td⟩
/-- kPair's pair at a new tuple -/
theorem repNew {H : Hp} {b : Addr} {x y : Nat} : kPair.rep (upd H b (.tup [iv x, iv y])) (x, y) (.ref b) := ⟨b, rfl, upd_same⟩
theorem pick {Pm : Nat → Nat → Prop} : ∀ {xs : List Nat} {us : List V}, Paired (fun x v => ∃ m, v = iv m ∧ Pm x m) xs us → ∃ c, us = ivs c ∧ c.length = xs.length ∧ ∀ (i : Nat) (h : i < xs.length), Pm xs[i] (c.getD i 0)
  | _, _, .nil => ⟨[], rfl, rfl, fun i h => absurd h (by simp)⟩
  | _, _, .cons ⟨m, e, q⟩ t => by
    obtain ⟨c, e1, e2, e3⟩ := pick t
    refine ⟨m :: c, by rw [e, e1]; rfl, by rw [List.length_cons, List.length_cons, e2], fun i h => ?_⟩
    cases i with
    | zero => exact q
    | succ i => exact e3 i (by simpa using h)
section
variable {P : Program} {w : World} {K : PySem.W.Frag} {mg : Str → Option Value} {base : Heap}
def spLead : Sp := fun vs H Q _ => ∃ n p S, vs = [.ref p] ∧ RdAt H p S ∧ Valid n S ∧ S.m.length ≤ 15 ∧
  ∀ q H' c, Same H H' → H q = none → H' q = some (.lst (ivs c)) → IsLead S.m.length (Syn S) c → Q (.ref q) H'
abbrev nmLead : List Str := ["_law_reader_here", "_law_told", "_law_size", "_law_x", "_law_y", "_law_k", "_law_fresh", "_law_z", "_law_pair"]
theorem scLead : FnScope nmLead ["_law_reader_here"] (defScope sLead) := ⟨rfl, rfl, rfl, by decide +kernel, rfl, by decide +kernel, by decide +kernel⟩
def forBody : Stmt → List Stmt
  | .For _ _ b _ _ => b
  | _ => []
abbrev lcLead : Expr := asgV ((ifBody ((forBody ((defBody sLead).getD 3 (.Pass ⟨0, 0, 0, 0⟩))).getD 2 (.Pass ⟨0, 0, 0, 0⟩))).getD 0 (.Pass ⟨0, 0, 0, 0⟩))
abbrev scLead1 : Scope := rel (compSc lcLead) (defScope sLead)
def sigL (p d : Addr) (m : Nat) (x y k f z r : Option V) : L2.St := [some (.ref p), some (.ref d), some (iv m), x, y, k, f, z, r]
theorem ok_lead {f : Addr} {fd : FuncData} (F : Fun K "_law_lead" "_law_lead" sLead f fd) (B : Blt mg) : FnOk P w K mg base CX0 1 f fd ["_law_reader_here"] spLead := by
  refine F.ok scLead (fun vs H Q E h => ?_) (fun cdv A outer s H vs Q E hr h => ?_)
  · obtain ⟨n, p, S, rfl, _⟩ := h; rfl
  · obtain ⟨n, p, S, rfl, hS, Vl, hm, k⟩ := h
    have hu := hu_of hr
    obtain ⟨l, mm, a, ms, h⟩ := hS.parts (K := K)
    refine ⟨_, (pss_cons (ps_set (i := 1) scLead.nd rfl (.inr rfl) kPair.new)
        (pss_cons (ps_set (i := 2) scLead.nd rfl (.inl rfl) (pe_callB call_len_seq (by rfl) B.len PySem.boot_len (pa_cons (pe_ix ix_tup (pv 0) pe_int (fun _ _ => rfl)) pa_nil)))
        (pss_cons (ps_for PassesOwn.never rfl (pi_range1 rfl B.range (pa_cons (pv 2) pa_nil)) (pg_name (i := 3) scLead.nd rfl (.inl rfl)) (pss_one (ps_for PassesOwn.never rfl (pi_range1 rfl B.range (pa_cons (pv 3) pa_nil)) (pg_name (i := 4) scLead.nd rfl (.inl rfl)) (pss_one (ps_if (pt_cmpR op_ne (pe_cmpR op_in_seq (pv 3) (pe_ix ix_tup (pv 0) pe_int (fun _ _ => rfl)) (by rfl)) (pe_cmpR op_in_seq (pv 4) (pe_ix ix_tup (pv 0) pe_int (fun _ _ => rfl)) (by rfl)) (nomark _)) (pss_one (ps_dput hu (pv 1) (pe_tup (pa_cons (pv 4) (pa_cons (pv 3) pa_nil))) pe_bl rfl)) pss_nil)))))
        (pss_cons (ps_for PassesOwn.never rfl (pi_range1 rfl B.range (pa_cons pe_int pa_nil)) (pg_name (i := 5) scLead.nd rfl (.inl rfl)) (pss_cons (ps_set (i := 6) scLead.nd rfl (.inl rfl) pe_int)
        (pss_cons (ps_for PassesOwn.never rfl (pi_range1 rfl B.range (pa_cons (pv 2) pa_nil)) (pg_name (i := 3) scLead.nd rfl (.inl rfl)) (pss_one (ps_for PassesOwn.never rfl (pi_range1 rfl B.range (pa_cons (pv 3) pa_nil)) (pg_name (i := 4) scLead.nd rfl (.inl rfl)) (pss_one (ps_if (pt_cmp (pc_dnotin hu (pe_tup (pa_cons (pv 4) (pa_cons (pv 3) pa_nil))) (pv 1))) (pss_one (ps_for PassesOwn.never rfl (pi_range1 rfl B.range (pa_cons (pv 2) pa_nil)) (pg_name (i := 7) scLead.nd rfl (.inl rfl)) (pss_one (ps_for PassesOwn.never rfl (pi_list (pe_lst (pa_cons (pe_tup (pa_cons (pe_ix ix_tup (pe_ix ix_tup (pe_ix ix_tup (pv 0) pe_int (fun _ _ => rfl)) (pv 7) (fun _ _ => rfl)) (pv 3) (fun _ _ => rfl)) (pa_cons (pe_ix ix_tup (pe_ix ix_tup (pe_ix ix_tup (pv 0) pe_int (fun _ _ => rfl)) (pv 7) (fun _ _ => rfl)) (pv 4) (fun _ _ => rfl)) pa_nil))) (pa_cons (pe_tup (pa_cons (pe_ix ix_tup (pe_ix ix_tup (pe_ix ix_tup (pv 0) pe_int (fun _ _ => rfl)) (pv 3) (fun _ _ => rfl)) (pv 7) (fun _ _ => rfl)) (pa_cons (pe_ix ix_tup (pe_ix ix_tup (pe_ix ix_tup (pv 0) pe_int (fun _ _ => rfl)) (pv 4) (fun _ _ => rfl)) (pv 7) (fun _ _ => rfl)) pa_nil))) pa_nil)))) (pg_name (i := 8) scLead.nd rfl (.inl rfl)) (pss_one (ps_if (PW.pt (pw_and (pt_cmp (pc_din hu (pe_tup (pa_cons (pe_callB (call_minT rfl) (by rfl) B.min (by decide +kernel) (pa_cons (pv 8) pa_nil)) (pa_cons (pe_callB (call_maxT rfl) (by rfl) B.max (by decide +kernel) (pa_cons (pv 8) pa_nil)) pa_nil))) (pv 1))) (pw_and1 (pt_cmp (pc_dnotin hu (pe_tup (pa_cons (pv 4) (pa_cons (pv 3) pa_nil))) (pv 1)))))) (pss_cons (ps_dput hu (pv 1) (pe_tup (pa_cons (pv 4) (pa_cons (pv 3) pa_nil))) pe_bl rfl)
        (pss_one (ps_set (i := 6) scLead.nd rfl (.inl rfl) (pe_op op_add (pv 6) pe_int)))) pss_nil)))))) pss_nil)))))
        (pss_one (ps_if (pt_cmpR op_eq (pv 6) pe_int (nomark _)) (pss_one (ps_ret (pe_lc (own := [("_law_x", 3)]) (g := gName 3) (tt := tYes) rfl scLead.nd (pi_range1 rfl B.range (pa_cons (pv 2) pa_nil)) (blkOk_by (N := nmLead) (sc := defScope sLead) (by decide +kernel)) (fun _ _ _ _ _ => pg_name (i := 3) scLead.nd rfl (Or.inr rfl)) (fun _ _ _ _ _ => pts_nil)
          (fun _ _ _ _ _ => (pe_callB (cr_minK K rfl rfl) (by rfl) B.min (by decide +kernel) (pa_cons (pe_lc (own := [("_law_y", 4)]) (g := gName 4)  rfl scLead.nd (pi_range1 rfl B.range (pa_cons (pe_op op_add (pv 3) pe_int) pa_nil)) (blkOk_by (N := nmLead) (sc := scLead1) (by decide +kernel)) (fun _ _ _ _ _ => pg_name (i := 4) scLead.nd rfl (Or.inl rfl)) (fun _ _ _ _ _ => pts_one (PW.pt (pw_or (pt_cmpR op_eq (pv 4) (pv 3) (nomark _)) (pw_or1 (pt_cmp (pc_dnotin hu (pe_tup (pa_cons (pv 4) (pa_cons (pv 3) pa_nil))) (pv 1)))))))
          (fun _ _ _ _ _ => (pv 4))) pa_nil)))))) pss_nil)))))
        (pss_one (ps_ret (pe_listRg rfl (by rfl) B.list (prg_1 (by rfl) B.range (pv 2))))))))), ?_⟩
    have sz : ∀ {j : Nat}, j ≤ 1000 → j < sizeLine := fun h => by rw [sizeLine_eq]; omega
    have key : ∀ x, (if (false : Bool) = true then !inV (iv x) (ivs S.a) else inV (iv x) (ivs S.a)) = S.tab.acc x := fun x => by rw [if_neg (by decide), inV_ivs]; rfl
    intro d hd0
    have s0 : Same H (upd H d (kPair.ho [])) := same_upd hd0
    have hd1 : (upd H d (kPair.ho [])) d = some (kPair.ho (tk [])) := upd_same
    generalize upd H d (kPair.ho []) = H0 at s0 hd1 ⊢
    have h0 := h.tups s0.tups
    refine ⟨_, rfl, p, _, 2, _, rfl, rfl, SqT.of h0.top, atI_nat (j := 2) rfl, mm, _, rfl, .inr (SqT.of h0.m), ?_⟩
    rw [← h0.r.len]
    obtain ⟨m, hme⟩ : ∃ m, m = S.m.length := ⟨_, rfl⟩
    have hmm : m ≤ 15 := by omega
    rw [← hme]
    have wr : ∀ {H' : Hp} {t : List (Nat × Nat)} {y x : Nat} {b : Addr}, H' d = some (kPair.ho (tk t)) → Told S t → (y, x) ∉ t → H' b = some (.tup [iv y, iv x]) → DPut H' d (.ref b) (.bl true) (upd H' d (kPair.ho (tk (t ++ [(y, x)])))) := fun {H' t y x b} e T hn hb => by
      rw [tk_snoc]
      have hl := T.len
      have : S.m.length * S.m.length ≤ 15 * 15 := Nat.mul_le_mul hm hm
      exact kPair.put e ⟨b, rfl, hb⟩ (by rw [tk_len]; exact sz (by omega)) (tk_none hn)
    refine ⟨_, rfl, (m : Int), rfl, by omega, by omega, ?_⟩
    -- told by what is accepted
    refine for_it (walk_range (lo := 0) (n := m)) (fun i σ H' => ∃ xo yo t, σ = sigL p d m xo yo none none none none ∧ LI S H d [] t H' ∧ (∀ q ∈ t, q.2 < i) ∧ ∀ y x, y < x → x < i → S.tab.acc x ≠ S.tab.acc y → (y, x) ∈ t)
      ⟨none, none, [], rfl, ⟨s0, hd1, ⟨(by intro q hq; cases hq), List.nodup_nil, (by intro q hq; cases hq)⟩⟩, (by intro q hq; cases hq), fun y x _ hx => absurd hx (by omega)⟩ (fun _ _ _ _ _ => trivial) ?_ ?_
    · rintro i v σ H1' H1 hi ⟨xo, yo, t, rfl, L1, hlt, hall⟩ ⟨rfl, hv⟩
      replace hv : v = iv i := hv.trans (by show V.int (0 + (i : Int)) = iv i; rw [Int.zero_add])
      subst hv
      refine ⟨_, rfl, (i : Int), rfl, by omega, by omega, ?_⟩
      refine for_it (walk_range (lo := 0) (n := i)) (fun j σ H' => ∃ yo t, σ = sigL p d m (some (iv i)) yo none none none none ∧ LI S H d [] t H' ∧ (∀ q ∈ t, q.2 < i ∨ (q.2 = i ∧ q.1 < j)) ∧ (∀ y x, y < x → x < i → S.tab.acc x ≠ S.tab.acc y → (y, x) ∈ t) ∧ ∀ y, y < j → S.tab.acc i ≠ S.tab.acc y → (y, i) ∈ t)
        ⟨yo, t, rfl, L1, fun q hq => .inl (hlt q hq), hall, fun y hy => absurd hy (by omega)⟩ (fun _ _ _ _ _ => trivial) ?_ ?_
      · rintro j v σ H2' H2 hj ⟨yo, t, rfl, L2, hlt, hall, hrow⟩ ⟨rfl, hv⟩
        replace hv : v = iv j := hv.trans (by show V.int (0 + (j : Int)) = iv j; rw [Int.zero_add])
        subst hv
        have h2 := h.tups L2.sm.tups
        refine ⟨_, rfl, _, rfl, p, _, 3, _, rfl, rfl, SqT.of h2.top, atI_nat (j := 3) rfl, a, _, rfl, .inr (SqT.of h2.a), rfl, flat_ivs _, ?_⟩
        rw [key]
        refine ⟨_, rfl, _, rfl, p, _, 3, _, rfl, rfl, SqT.of h2.top, atI_nat (j := 3) rfl, a, _, rfl, .inr (SqT.of h2.a), rfl, flat_ivs _, ?_⟩
        rw [key]
        refine ⟨rfl, _, rfl, ?_⟩
        by_cases e : S.tab.acc i = S.tab.acc j
        · rw [decide_eq_true (show V.bl (S.tab.acc i) = V.bl (S.tab.acc j) by rw [e])]
          refine iteF ⟨some (iv j), t, rfl, L2, fun q hq => ?_, hall, fun y hy hne => ?_⟩
          · rcases hlt q hq with z | z
            · exact .inl z
            · exact .inr ⟨z.1, by omega⟩
          · by_cases z : y = j
            · subst z; exact absurd e hne
            · exact hrow y (by omega) hne
        · rw [decide_eq_false (show ¬ V.bl (S.tab.acc i) = V.bl (S.tab.acc j) from fun z => e (by injection z))]
          refine iteT ?_
          have hnt : (j, i) ∉ t := fun z => by
            rcases hlt _ z with q | q
            · exact absurd q (by show ¬ i < i; omega)
            · have : j < j := q.2
              omega
          refine ⟨_, rfl, _, rfl, _, rfl, by rw [sizeLine_eq]; show 2 ≤ 16777216; decide, fun b hb => ?_⟩
          have L3 := L2.same (same_upd (o := .tup [iv j, iv i]) hb)
          have hb3 : (upd H2 b (.tup [iv j, iv i])) b = some (.tup [iv j, iv i]) := upd_same
          refine ⟨d, _, rfl, wr L3.hd L3.td hnt hb3, ?_⟩
          refine ⟨some (iv j), t ++ [(j, i)], rfl, ⟨L3.sm.upd0 hd0, upd_same, L3.td.snoc hj (by omega) hnt (not_syn_acc Vl (by omega) (by omega) e)⟩, fun q hq => ?_, fun y x h1 h2 h3 => List.mem_append_left _ (hall y x h1 h2 h3), fun y hy hne => ?_⟩
          · rcases List.mem_append.mp hq with z | z
            · rcases hlt q z with z | z
              · exact .inl z
              · exact .inr ⟨z.1, by omega⟩
            · rw [List.mem_singleton.mp z]
              exact .inr ⟨rfl, by show j < j + 1; omega⟩
          · by_cases z : y = j
            · subst z; exact List.mem_append_right _ (by simp)
            · exact List.mem_append_left _ (hrow y (by omega) hne)
      · rintro σ H2 ⟨yo, t, rfl, L2, hlt, hall, hrow⟩
        refine ⟨_, _, t, rfl, L2, fun q hq => ?_, fun y x h1 h2 h3 => ?_⟩
        · rcases hlt q hq with z | z
          · omega
          · omega
        · by_cases z : x = i
          · subst z; exact hrow y h1 h3
          · exact hall y x h1 (by omega) h3
    rintro σ H1 ⟨xo, yo, t1, rfl, L1, _, hall⟩
    -- rounds
    have rep2 : ∀ {H' : Hp} {b : Addr} {x y : Nat}, H' b = some (.tup [iv x, iv y]) → kPair.rep H' (x, y) (.ref b) := fun h => ⟨_, rfl, h⟩
    refine ⟨400, rfl, by decide, by decide, ?_⟩
    refine for_it (walk_range (lo := 0) (n := 400)) (fun kk σ H' => ∃ xo yo ko fo zo ro t, σ = sigL p d m xo yo ko fo zo ro ∧ LI S H d t [] H' ∧ (∀ y x, y < x → x < m → S.tab.acc x ≠ S.tab.acc y → (y, x) ∈ t) ∧ kk ≤ t.length)
      ⟨_, _, _, _, _, _, t1, rfl, ⟨L1.sm, by rw [List.append_nil]; exact L1.hd, by rw [List.append_nil]; exact L1.td⟩, hall, Nat.zero_le _⟩ (fun _ _ _ _ _ => trivial) ?_ ?_
    · rintro kk v σ H2' H2 hkk ⟨xo, yo, ko, fo, zo, ro, t, rfl, L2, hbase, hkt⟩ ⟨rfl, hv⟩
      clear hall L1
      refine ⟨_, rfl, (m : Int), rfl, by omega, by omega, ?_⟩
      refine for_it (walk_range (lo := 0) (n := m)) (fun i σ H' => ∃ xo yo zo ro r, σ = sigL p d m xo yo (some v) (some (iv r.length)) zo ro ∧ LI S H d t r H' ∧ ∀ y x z, y < x → x < i → z < m → Dn S t r y x z)
        ⟨xo, yo, zo, ro, [], rfl, L2, fun y x z _ hx => absurd hx (by omega)⟩ (fun _ _ _ _ _ => trivial) ?_ ?_
      · rintro i v1 σ H3' H3 hi ⟨xo, yo, zo, ro, r, rfl, L3, hD⟩ ⟨rfl, hv⟩
        replace hv : v1 = iv i := hv.trans (by show V.int (0 + (i : Int)) = iv i; rw [Int.zero_add])
        subst hv
        refine ⟨_, rfl, (i : Int), rfl, by omega, by omega, ?_⟩
        refine for_it (walk_range (lo := 0) (n := i)) (fun j σ H' => ∃ yo zo ro r, σ = sigL p d m (some (iv i)) yo (some v) (some (iv r.length)) zo ro ∧ LI S H d t r H' ∧ (∀ y x z, y < x → x < i → z < m → Dn S t r y x z) ∧ ∀ y z, y < j → z < m → Dn S t r y i z)
          ⟨yo, zo, ro, r, rfl, L3, hD, fun y z hy => absurd hy (by omega)⟩ (fun _ _ _ _ _ => trivial) ?_ ?_
        · rintro j v2 σ H4' H4 hj ⟨yo, zo, ro, r, rfl, L4, hD, hR⟩ ⟨rfl, hv⟩
          replace hv : v2 = iv j := hv.trans (by show V.int (0 + (j : Int)) = iv j; rw [Int.zero_add])
          subst hv
          have hjm : j < S.m.length := by omega
          have him : i < S.m.length := by omega
          refine ⟨_, rfl, _, rfl, by rw [sizeLine_eq]; show 2 ≤ 16777216; decide, fun b hb => ?_⟩
          have L5 := L4.same (same_upd (o := .tup [iv j, iv i]) hb)
          have hb5 : (upd H4 b (.tup [iv j, iv i])) b = some (.tup [iv j, iv i]) := upd_same
          generalize upd H4 b (.tup [iv j, iv i]) = H5 at L5 hb5 ⊢
          refine ⟨_, rfl, d, _, rfl, kPair.get L5.hd (rep2 hb5), _, rfl, ?_⟩
          rw [tk_some]
          by_cases hin : (j, i) ∈ t ++ r
          · rw [decide_eq_true hin]
            refine iteF ⟨_, _, _, r, rfl, L5, hD, fun y z hy hz => ?_⟩
            by_cases e : y = j
            · subst e; exact .inl hin
            · exact hR y z (by omega) hz
          · rw [decide_eq_false hin]
            refine iteT ?_
            refine ⟨_, rfl, (m : Int), rfl, by omega, by omega, ?_⟩
            refine for_it (walk_range (lo := 0) (n := m)) (fun zz σ H' => ∃ zo ro r, σ = sigL p d m (some (iv i)) (some (iv j)) (some v) (some (iv r.length)) zo ro ∧ LI S H d t r H' ∧ (∀ y x z, y < x → x < i → z < m → Dn S t r y x z) ∧ (∀ y z, y < j → z < m → Dn S t r y i z) ∧ ∀ z, z < zz → Dn S t r j i z)
              ⟨zo, ro, r, rfl, L5, hD, hR, fun z hz => absurd hz (by omega)⟩ (fun _ _ _ _ _ => trivial) ?_ ?_
            · clear hD hR hin L5 hb5
              rintro zz v3 σ H6' H6 hzz ⟨zo, ro, r, rfl, L6, hD, hR, hZ⟩ ⟨rfl, hv⟩
              replace hv : v3 = iv zz := hv.trans (by show V.int (0 + (zz : Int)) = iv zz; rw [Int.zero_add])
              subst hv
              have hzm : zz < S.m.length := by omega
              have h6 := h.tups L6.sm.tups
              obtain ⟨r1, r11, r12, r13⟩ := h6.row Vl.toShape hzm him
              obtain ⟨r2, r21, r22, r23⟩ := h6.row Vl.toShape hzm hjm
              have h2s : 2 ≤ sizeLine := by rw [sizeLine_eq]; decide
              refine ⟨_, rfl, p, _, 2, _, rfl, rfl, SqT.of h6.top, atI_nat (j := 2) rfl, _, rfl, mm, _, _, _, rfl, rfl, SqT.of h6.m, r11, _, rfl, r1, _, _, _, rfl, rfl, r12, r13, ?_⟩
              refine ⟨_, rfl, p, _, 2, _, rfl, rfl, SqT.of h6.top, atI_nat (j := 2) rfl, _, rfl, mm, _, _, _, rfl, rfl, SqT.of h6.m, r21, _, rfl, r2, _, _, _, rfl, rfl, r22, r23, h2s, fun pa hpa => ?_⟩
              have s7 : Same H6 (upd H6 pa (.tup [iv (S.tab.j zz i), iv (S.tab.j zz j)])) := same_upd hpa
              have L7 := L6.same s7
              have hpa7 : (upd H6 pa (.tup [iv (S.tab.j zz i), iv (S.tab.j zz j)])) pa = some (.tup [iv (S.tab.j zz i), iv (S.tab.j zz j)]) := upd_same
              generalize upd H6 pa (.tup [iv (S.tab.j zz i), iv (S.tab.j zz j)]) = H7 at s7 L7 hpa7 ⊢
              have h7 := h.tups L7.sm.tups
              obtain ⟨q1, q11, q12, q13⟩ := h7.row Vl.toShape him hzm
              obtain ⟨q2, q21, q22, q23⟩ := h7.row Vl.toShape hjm hzm
              refine ⟨_, rfl, p, _, 2, _, rfl, rfl, SqT.of h7.top, atI_nat (j := 2) rfl, _, rfl, mm, _, _, _, rfl, rfl, SqT.of h7.m, q11, _, rfl, q1, _, _, _, rfl, rfl, q12, q13, ?_⟩
              refine ⟨_, rfl, p, _, 2, _, rfl, rfl, SqT.of h7.top, atI_nat (j := 2) rfl, _, rfl, mm, _, _, _, rfl, rfl, SqT.of h7.m, q21, _, rfl, q2, _, _, _, rfl, rfl, q22, q23, h2s, fun pb hpb => ⟨h2s, fun pl hpl => ?_⟩⟩
              have s8 : Same H7 (upd (upd H7 pb (.tup [iv (S.tab.j i zz), iv (S.tab.j j zz)])) pl (.lst [.ref pa, .ref pb])) := (same_upd hpb).trans (same_upd hpl)
              have L8 := L7.same s8
              have hpa8 := s8 _ _ hpa7
              have npb : pb ≠ pl := fun e => by rw [← e, upd_same] at hpl; cases hpl
              have hpb8 : (upd (upd H7 pb (.tup [iv (S.tab.j i zz), iv (S.tab.j j zz)])) pl (.lst [.ref pa, .ref pb])) pb = some (.tup [iv (S.tab.j i zz), iv (S.tab.j j zz)]) := (upd_ne npb).trans upd_same
              have hpl8 : (upd (upd H7 pb (.tup [iv (S.tab.j i zz), iv (S.tab.j j zz)])) pl (.lst [.ref pa, .ref pb])) pl = some (.lst [.ref pa, .ref pb]) := upd_same
              generalize upd (upd H7 pb (.tup [iv (S.tab.j i zz), iv (S.tab.j j zz)])) pl (.lst [.ref pa, .ref pb]) = H8 at L8 hpa8 hpb8 hpl8 ⊢
              refine ⟨pl, rfl, ⟨_, SqL.of hpl8⟩, ?_⟩
              have npd : pl ≠ d := ne_of hpl8 L8.hd (fun z => nomatch z)
              refine for_it (walk_list (xs := [V.ref pa, V.ref pb])) (fun pp σ H' => ∃ ro r, σ = sigL p d m (some (iv i)) (some (iv j)) (some v) (some (iv r.length)) (some (iv zz)) ro ∧ LI S H d t r H' ∧ (∀ y x z, y < x → x < i → z < m → Dn S t r y x z) ∧ (∀ y z, y < j → z < m → Dn S t r y i z) ∧ (∀ z, z < zz → Dn S t r j i z) ∧ H' pl = some (.lst [.ref pa, .ref pb]) ∧ H' pa = some (.tup [iv (S.tab.j zz i), iv (S.tab.j zz j)]) ∧ H' pb = some (.tup [iv (S.tab.j i zz), iv (S.tab.j j zz)]) ∧
                  (0 < pp → (j, i) ∈ t ++ r ∨ ¬ Apart t (S.tab.j zz i) (S.tab.j zz j)) ∧ (1 < pp → (j, i) ∈ t ++ r ∨ ¬ Apart t (S.tab.j i zz) (S.tab.j j zz)))
                ⟨_, r, rfl, L8, hD, hR, hZ, hpl8, hpa8, hpb8, fun z => absurd z (by omega), fun z => absurd z (by omega)⟩ (fun _ _ _ _ ⟨_, _, _, _, _, _, _, h, _⟩ => SqL.of h) ?_ ?_
              · clear hD hR hZ L8 L7 L6 hpa8 hpb8 hpl8 h7 h6
                rintro pp v4 σ H9' H9 hpp ⟨ro, r, rfl, L9, hD, hR, hZ, hl9, ha9, hb9, c1, c2⟩ ⟨rfl, hx⟩
                -- which pair
                obtain ⟨ua, ub, pq, rfl, hpq, hns, hc1, hc2⟩ : ∃ ua ub pq, v4 = V.ref pq ∧ H9 pq = some (.tup [iv ua, iv ub]) ∧ (¬ Syn S ua ub → ¬ Syn S j i) ∧ (pp = 0 → ua = S.tab.j zz i ∧ ub = S.tab.j zz j) ∧ (pp = 1 → ua = S.tab.j i zz ∧ ub = S.tab.j j zz) := by
                  match pp, hpp, hx with
                  | 0, _, hx =>
                    cases hx
                    exact ⟨_, _, pa, rfl, ha9, fun z => not_syn_l Vl hjm him hzm z, fun _ => ⟨rfl, rfl⟩, fun e => absurd e (by omega)⟩
                  | 1, _, hx =>
                    cases hx
                    exact ⟨_, _, pb, rfl, hb9, fun z => not_syn_r Vl hjm him hzm z, fun e => absurd e (by omega), fun _ => ⟨rfl, rfl⟩⟩
                  | pp + 2, hpp, _ => exact absurd hpp (by show ¬ pp + 2 < 2; omega)
                refine ⟨_, rfl, pq, (ua : Int), (ub : Int), rfl, SqT.of hpq, _, rfl, pq, (ua : Int), (ub : Int), rfl, SqT.of hpq, h2s, fun b1 hb1 => ?_⟩
                rw [show min (ua : Int) (ub : Int) = ((min ua ub : Nat) : Int) by omega, show max (ua : Int) (ub : Int) = ((max ua ub : Nat) : Int) by omega]
                have sA : Same H9 (upd H9 b1 (.tup [iv (min ua ub), iv (max ua ub)])) := same_upd hb1
                have LA := L9.same sA
                have hb1A : (upd H9 b1 (.tup [iv (min ua ub), iv (max ua ub)])) b1 = some (.tup [iv (min ua ub), iv (max ua ub)]) := upd_same
                have hlA := sA _ _ hl9
                have haA := sA _ _ ha9
                have hbA := sA _ _ hb9
                generalize upd H9 b1 (.tup [iv (min ua ub), iv (max ua ub)]) = HA at LA hb1A hlA haA hbA ⊢
                refine ⟨_, rfl, d, _, rfl, kPair.get LA.hd (rep2 hb1A), _, rfl, ?_⟩
                rw [tk_some]
                by_cases ht : (min ua ub, max ua ub) ∈ t ++ r
                · rw [decide_eq_true ht]
                  refine iteT ⟨_, rfl, _, rfl, h2s, fun b2 hb2 => ?_⟩
                  have sB : Same HA (upd HA b2 (.tup [iv j, iv i])) := same_upd hb2
                  have LB := LA.same sB
                  have hb2B : (upd HA b2 (.tup [iv j, iv i])) b2 = some (.tup [iv j, iv i]) := upd_same
                  have hlB := sB _ _ hlA
                  have haB := sB _ _ haA
                  have hbB := sB _ _ hbA
                  generalize upd HA b2 (.tup [iv j, iv i]) = HB at LB hb2B hlB haB hbB ⊢
                  refine ⟨_, rfl, d, _, rfl, kPair.get LB.hd (rep2 hb2B), _, rfl, ?_⟩
                  rw [tk_some]
                  by_cases hin : (j, i) ∈ t ++ r
                  · rw [decide_eq_true hin]
                    exact iteF ⟨some (.ref pq), r, rfl, LB, hD, hR, hZ, hlB, haB, hbB, fun _ => .inl hin, fun _ => .inl hin⟩
                  · rw [decide_eq_false hin]
                    refine iteT ⟨_, rfl, _, rfl, _, rfl, h2s, fun b3 hb3 => ?_⟩
                    have sC : Same HB (upd HB b3 (.tup [iv j, iv i])) := same_upd hb3
                    have LC := LB.same sC
                    have hb3C : (upd HB b3 (.tup [iv j, iv i])) b3 = some (.tup [iv j, iv i]) := upd_same
                    have hlC := sC _ _ hlB
                    have haC := sC _ _ haB
                    have hbC := sC _ _ hbB
                    generalize upd HB b3 (.tup [iv j, iv i]) = HC at LC hb3C hlC haC hbC ⊢
                    refine ⟨d, _, rfl, wr LC.hd LC.td hin hb3C, _, rfl, (r.length : Int), 1, rfl, rfl, ?_⟩
                    have npa : pa ≠ d := ne_of haC LC.hd (fun z => kPair.nt _ _ z.symm)
                    have npbd : pb ≠ d := ne_of hbC LC.hd (fun z => kPair.nt _ _ z.symm)
                    have hji : (j, i) ∈ t ++ (r ++ [(j, i)]) := List.mem_append_right _ (List.mem_append_right _ (by simp))
                    refine ⟨some (.ref pq), r ++ [(j, i)], ?_, ⟨LC.sm.upd0 hd0, ?_, ?_⟩, fun y x z q1 q2 q3 => (hD y x z q1 q2 q3).mono _, fun y z q1 q2 => (hR y z q1 q2).mono _, fun z q1 => (hZ z q1).mono _, (upd_ne npd).trans hlC, (upd_ne npa).trans haC, (upd_ne npbd).trans hbC, fun _ => .inl hji, fun _ => .inl hji⟩
                    · rw [List.length_append, List.length_singleton]
                      rfl
                    · rw [upd_same, ← List.append_assoc]
                    · rw [← List.append_assoc]
                      exact LC.td.snoc hj him hin (hns (LC.td.apart ht))
                · rw [decide_eq_false ht]
                  refine iteF ⟨some (.ref pq), r, rfl, LA, hD, hR, hZ, hlA, haA, hbA, fun _ => ?_, fun h1 => ?_⟩
                  · by_cases e : pp = 0
                    · obtain ⟨e1, e2⟩ := hc1 e
                      exact .inr fun q => ht (List.mem_append_left _ (by rw [e1, e2]; exact q))
                    · exact c1 (by omega)
                  · by_cases e : pp = 1
                    · obtain ⟨e1, e2⟩ := hc2 e
                      exact .inr fun q => ht (List.mem_append_left _ (by rw [e1, e2]; exact q))
                    · exact c2 (by omega)
              · rintro σ H9 ⟨ro, r, rfl, L9, hD, hR, hZ, hl9, ha9, hb9, c1, c2⟩
                refine ⟨_, _, r, rfl, L9, hD, hR, fun z hz => ?_⟩
                by_cases e : z = zz
                · subst e
                  rcases c1 (by show 0 < 2; omega) with q | q
                  · exact .inl q
                  · rcases c2 (by show 1 < 2; omega) with q' | q'
                    · exact .inl q'
                    · exact .inr ⟨q, q'⟩
                · exact hZ z (by omega)
            · rintro σ H6 ⟨zo, ro, r, rfl, L6, hD, hR, hZ⟩
              refine ⟨_, _, _, r, rfl, L6, hD, fun y z hy hz => ?_⟩
              by_cases e : y = j
              · subst e; exact hZ z hz
              · exact hR y z (by omega) hz
        · rintro σ H4 ⟨yo, zo, ro, r, rfl, L4, hD, hR⟩
          refine ⟨_, _, _, _, r, rfl, L4, fun y x z h1 h2 h3 => ?_⟩
          by_cases e : x = i
          · subst e; exact hR y z h1 h3
          · exact hD y x z h1 (by omega) h3
      rintro σ H3 ⟨xo, yo, zo, ro, r, rfl, L3, hD⟩
      refine ⟨_, rfl, rfl, _, rfl, ite2 (fun hf => ?_) (fun hf => ?_)⟩
      · have hr0 : r = [] := by
          have e := of_decide_eq_true hf
          rw [V.int.injEq] at e
          exact List.eq_nil_of_length_eq_zero (by omega)
        subst hr0
        have hL := L3.td
        rw [List.append_nil] at hL
        have hdt := L3.hd
        rw [List.append_nil] at hdt
        have done := hL.done Vl (by rw [← hme]; exact hbase) (fun y x z h1 h2 h3 hn => by
          rcases hD y x z h1 (by omega) (by omega) with q | q
          · rw [List.append_nil] at q; exact absurd q hn
          · exact q)
        refine ⟨_, rfl, (m : Int), rfl, by omega, by omega, fun D hDn => ?_⟩
        refine lc_fill (xs := List.range m) List.length_range (walk_range (lo := 0) (n := m)) (fun _ => true) (fun _ x v => ∃ c, v = iv c ∧ (c ≤ x ∧ (c = x ∨ (c, x) ∉ t) ∧ ∀ y, y < c → ¬ (y = x ∨ (y, x) ∉ t))) (fun _ _ _ _ _ h => h) hDn (by rw [List.length_range]; exact sz (by omega)) (fun _ _ => trivial) ?_ ?_
        · rintro i zi x H5' H5 Ky Kn hz s5 ⟨rfl, hx⟩ hy _
          have hi : i < m := by
            have := (List.getElem?_eq_some_iff.mp hz).1
            rwa [List.length_range] at this
          obtain rfl : i = zi := by rw [List.getElem?_range hi] at hz; exact Option.some.inj hz
          replace hx : x = iv i := hx.trans (by show V.int (0 + (i : Int)) = iv i; rw [Int.zero_add])
          subst hx
          refine lc_yes rfl ?_
          refine ⟨_, rfl, (i : Int), 1, rfl, rfl, ((i + 1 : Nat) : Int), (by rw [show ((i + 1 : Nat) : Int) = (i : Int) + 1 by omega]), by omega, by omega, fun D7 hD7 => ?_⟩
          refine lc_fill (xs := List.range (i + 1)) List.length_range (walk_range (lo := 0) (n := i + 1)) (fun y => decide (y = i ∨ (y, i) ∉ t)) (fun _ y v => v = iv y) (fun _ _ _ _ _ h => h) hD7 (by rw [List.length_range]; exact sz (by omega)) (fun _ _ => trivial) ?_ ?_
          · rintro y zy x7 H7' H7 Ky7 Kn7 hz7 s7 ⟨rfl, hx7⟩ hy7 hn7
            have hyi : y < i + 1 := by
              have := (List.getElem?_eq_some_iff.mp hz7).1
              rwa [List.length_range] at this
            obtain rfl : y = zy := by rw [List.getElem?_range hyi] at hz7; exact Option.some.inj hz7
            replace hx7 : x7 = iv y := hx7.trans (by show V.int (0 + (y : Int)) = iv y; rw [Int.zero_add])
            subst hx7
            refine ⟨rfl, ?_⟩
            refine ⟨_, rfl, _, rfl, rfl, _, rfl, ?_⟩
            by_cases e : y = i
            · rw [decide_eq_true (show iv y = iv i by rw [e])]
              refine iteT (iteT ?_)
              exact ⟨_, rfl, hy7 (decide_eq_true (.inl e)) _ _ (Same.refl _) rfl⟩
            · rw [decide_eq_false (show ¬ iv y = iv i from fun z => e (by injection z; omega))]
              refine iteF ?_
              refine ⟨_, rfl, _, rfl, by rw [sizeLine_eq]; show 2 ≤ 16777216; decide, fun b hb => ?_⟩
              have sB : Same H7 (upd H7 b (.tup [iv y, iv i])) := same_upd hb
              have hbB : (upd H7 b (.tup [iv y, iv i])) b = some (.tup [iv y, iv i]) := upd_same
              refine ⟨_, rfl, d, _, rfl, kPair.get (sB _ _ (s7 _ _ (s5 _ _ hdt))) (rep2 hbB), _, rfl, ?_⟩
              rw [tk_some]
              by_cases hin : (y, i) ∈ t
              · rw [decide_eq_true hin]
                exact hn7 (decide_eq_false fun q => q.elim e fun q => q hin) _ sB
              · rw [decide_eq_false hin]
                exact ⟨_, rfl, hy7 (decide_eq_true (.inr hin)) _ _ sB rfl⟩
          rintro H7 us s7 hus rus
          have eus := ivs_of (H := H7) rus
          rw [List.map_id'] at eus
          have ens : us = (((List.range (i + 1)).filter fun y => decide (y = i ∨ (y, i) ∉ t)).map fun (n : Nat) => (n : Int)).map V.int := by rw [eus]; unfold ivs; rw [List.map_map]; rfl
          have hself : i ∈ (List.range (i + 1)).filter fun y => decide (y = i ∨ (y, i) ∉ t) := List.mem_filter.mpr ⟨List.mem_range.mpr (by omega), decide_eq_true (.inl rfl)⟩
          refine ⟨D7, ((List.range (i + 1)).filter fun y => decide (y = i ∨ (y, i) ∉ t)).map fun (n : Nat) => (n : Int), rfl, SqL.of (by rw [hus, ens]), by rw [List.length_map]; exact List.length_pos_of_mem hself, fun mn hmn hle => ?_⟩
          obtain ⟨c, hc, rfl⟩ := List.mem_map.mp hmn
          obtain ⟨hc1, hc2⟩ := List.mem_filter.mp hc
          have hci := List.mem_range.mp hc1
          refine hy rfl _ _ s7 ⟨c, rfl, by omega, of_decide_eq_true hc2, fun y hyc q => ?_⟩
          have := hle (y : Int) (List.mem_map.mpr ⟨y, List.mem_filter.mpr ⟨List.mem_range.mpr (by omega), decide_eq_true q⟩, rfl⟩)
          omega
        rintro H5 us s5 hus rus
        rw [filter_yes] at rus
        obtain ⟨c, rfl, hcl, hc⟩ := pick rus
        rw [List.length_range] at hcl
        refine k D H5 c (L3.sm.trans s5) (L3.sm.free hDn) hus ⟨by rw [hcl, hme], fun x hx => ?_⟩
        rw [← hme] at hx
        have hh := hc x (by rw [List.length_range]; exact hx)
        rw [List.getElem_range] at hh
        obtain ⟨g1, g2, g3⟩ := hh
        refine ⟨g1, (done _ _ (by omega) (by omega)).mpr ?_, fun y hy q => g3 y hy ?_⟩
        · rcases g2 with q | q
          · exact .inl q
          · refine .inr fun w => q ?_
            unfold Apart at w
            rw [Nat.min_eq_left g1, Nat.max_eq_right g1] at w
            exact w
        · rcases (done _ _ (by omega) (by omega)).mp q with q | q
          · exact .inl q
          · refine .inr fun w => q ?_
            unfold Apart
            rw [Nat.min_eq_left (by omega), Nat.max_eq_right (by omega)]
            exact w
      · refine ⟨_, _, _, _, _, _, t ++ r, rfl, ⟨L3.sm, by rw [List.append_nil]; exact L3.hd, by rw [List.append_nil]; exact L3.td⟩, fun y x h1 h2 h3 => List.mem_append_left _ (hbase y x h1 h2 h3), ?_⟩
        have hr0 : r.length ≠ 0 := fun e => hf (decide_eq_true (by rw [e]; rfl))
        rw [List.length_append]
        omega
    · rintro σ H2 ⟨xo, yo, ko, fo, zo, ro, t, rfl, L2, hbase, hkt⟩
      have := L2.td.len
      rw [List.append_nil] at this
      have h15 : S.m.length * S.m.length ≤ 15 * 15 := Nat.mul_le_mul hm hm
      omega
end
end My
end

section
/-! smallest, words. -/
namespace My
open PySem PySem.Spec PyProof.Rows L2
/-- a reader's values led -/
def turnR (S : Rdr) (c : List Nat) : Rdr := ⟨c.getD S.e 0, S.l.map fun x => c.getD x 0, S.m.map fun r => r.map fun x => c.getD x 0, S.a⟩
theorem turn_j {n : Nat} {S : Rdr} {c : List Nat} (V : Shape n S) {x y : Nat} (hx : x < S.m.length) (hy : y < S.m.length) : (turnR S c).tab.j x y = c.getD (S.tab.j x y) 0 := by
  show ((S.m.map fun r => r.map fun x => c.getD x 0).getD x []).getD y 0 = c.getD ((S.m.getD x []).getD y 0) 0
  have h1 : y < (S.m[x]).length := by rw [V.row _ (List.getElem_mem hx)]; exact hy
  rw [List.getD_eq_getElem?_getD (i := x), List.getElem?_map, List.getElem?_eq_getElem hx, getD_lt _ hx]
  show ((S.m[x]).map fun x => c.getD x 0).getD y 0 = _
  rw [List.getD_eq_getElem?_getD, List.getElem?_map, List.getElem?_eq_getElem h1, getD_lt _ h1]
  rfl
theorem turn_l {n : Nat} {S : Rdr} {c : List Nat} (V : Shape n S) {a : Nat} (ha : a < n) : (turnR S c).tab.l a = c.getD (S.tab.l a) 0 := by
  have h' : a < S.l.length := by rw [V.ln]; exact ha
  show (S.l.map fun x => c.getD x 0).getD a 0 = c.getD (S.l.getD a 0) 0
  rw [List.getD_eq_getElem?_getD, List.getElem?_map, List.getElem?_eq_getElem h', getD_lt _ h']
  rfl
theorem turn_len (S : Rdr) (c : List Nat) : (turnR S c).m.length = S.m.length := List.length_map ..
theorem turn_shape {n : Nat} {S : Rdr} {c : List Nat} (V : Shape n S) (hb : ∀ x, x < S.m.length → c.getD x 0 < S.m.length) : Shape n (turnR S c) := by
  refine ⟨?_, ?_, ?_, ?_, ?_, ?_⟩
  · rw [turn_len]; exact hb _ V.e
  · show (S.l.map _).length = n; rw [List.length_map]; exact V.ln
  · rw [turn_len]
    intro x hx
    obtain ⟨y, hy, rfl⟩ := List.mem_map.mp hx
    exact hb _ (V.l y hy)
  · rw [turn_len]
    intro r hr
    obtain ⟨q, hq, rfl⟩ := List.mem_map.mp hr
    rw [List.length_map]; exact V.row q hq
  · rw [turn_len]
    intro r hr y hy
    obtain ⟨q, hq, rfl⟩ := List.mem_map.mp hr
    obtain ⟨z, hz, rfl⟩ := List.mem_map.mp hy
    exact hb _ (V.ent q hq z hz)
  · rw [turn_len]; exact V.acc
theorem turn_sim {n : Nat} {S : Rdr} {c : List Nat} (V : Shape n S) (hb : ∀ x, x < S.m.length → c.getD x 0 < S.m.length) : Sim (turnR S c).tab (leadTab S c) n (fun x y => x = y ∧ x < S.m.length) where
  e := ⟨rfl, hb _ V.e⟩
  l := fun a ha => ⟨turn_l V ha, by rw [turn_l V ha]; exact hb _ (V.lt ha)⟩
  j := fun x y x' y' ⟨e1, h1⟩ ⟨e2, h2⟩ => by
    subst e1 e2
    exact ⟨turn_j V h1 h2, by rw [turn_j V h1 h2]; exact hb _ (V.jt h1 h2)⟩
  eq := fun x y x' y' ⟨e1, _⟩ ⟨e2, _⟩ => by rw [e1, e2]
  acc := fun x x' ⟨e, _⟩ => by rw [e]; rfl
theorem all2_eq2 {D : Nat → Prop} : ∀ {l m : List Nat}, All2 (fun x y => x = y ∧ D x) l m → l = m
  | _, _, .nil => rfl
  | _, _, .cons ⟨e, _⟩ t => by rw [e, all2_eq2 t]
theorem turn_clo {n : Nat} {S : Rdr} {c : List Nat} {L : List Nat} (V : Shape n S) (hb : ∀ x, x < S.m.length → c.getD x 0 < S.m.length) (C : IsClo (turnR S c).tab n L) : IsClo (leadTab S c) n L := by
  have eq : ∀ k, iter (turnR S c).tab n k = iter (leadTab S c) n k := fun k => all2_eq2 ((turn_sim V hb).iter k)
  obtain ⟨k, rfl⟩ := C.it
  refine ⟨⟨k, eq k⟩, ?_⟩
  rw [eq k]
  have h1 : iter (leadTab S c) n (k + 1) = iter (leadTab S c) n k := by rw [← eq, ← eq]; exact C.st
  exact h1
section
variable {P : Program} {w : World} {K : PySem.W.Frag} {mg : Str → Option Value} {base : Heap}
def spSmallest : Sp := fun vs H Q _ => ∃ n p R, vs = [.ref p] ∧ RdAt H p R ∧ Valid n R ∧ R.m.length ≤ 15 ∧ n ≤ 20 ∧ ∀ q H' M, Same H H' → IsLeast n R M → RdAt H' q M → Q (.ref q) H'
abbrev nmSm : List Str := ["_law_reader_here", "_law_small", "_law_lead_here", "_law_mul", "_law_turned", "_law_row", "_law_x"]
theorem scSm : FnScope nmSm ["_law_reader_here"] (defScope sSmallest) := ⟨rfl, rfl, rfl, by decide +kernel, rfl, by decide +kernel, by decide +kernel⟩
abbrev scSm1 : Scope := rel (compSc (callA (asgV ((defBody sSmallest).getD 2 (.Pass ⟨0, 0, 0, 0⟩))) 0)) (defScope sSmallest)
theorem ok_smallest {f fl fb fd' : Addr} {fd fdl fdb fdd : FuncData} (F : Fun K "_law_smallest" "_law_smallest" sSmallest f fd) (B : Blt mg)
    (cl : Cal K mg "_law_list" fl fdl ["_law_reader_here", "_law_most"]) (gl : FnOk P w K mg base CX0 1 fl fdl ["_law_reader_here", "_law_most"] spList)
    (cb : Cal K mg "_law_by_number" fb fdb ["_law_reader_here", "_law_found"]) (gb : FnOk P w K mg base CX0 1 fb fdb ["_law_reader_here", "_law_found"] spByNum)
    (cd : Cal K mg "_law_lead" fd' fdd ["_law_reader_here"]) (gd : FnOk P w K mg base CX0 1 fd' fdd ["_law_reader_here"] spLead) :
    FnOk P w K mg base CX0 2 f fd ["_law_reader_here"] spSmallest := by
  refine F.ok scSm (fun vs H Q E h => ?_) (fun cdv A outer s H vs Q E hr h => ?_)
  · obtain ⟨n, p, R, rfl, _⟩ := h; rfl
  · obtain ⟨n, p, R, rfl, hR, Vl, hm, hn, k⟩ := h
    have sz : ∀ {j : Nat}, j ≤ 1000 → j < sizeLine := fun h => by rw [sizeLine_eq]; omega
    refine ⟨_, (pss_cons (ps_set (i := 1) scSm.nd rfl (.inl rfl) (pe_call gb hr rfl cb.mg cb.kp cb.b .nil pass0 (pa_cons (pv 0) (pa_cons (pe_call gl hr rfl cl.mg cl.kp cl.b .nil pass0 (pa_cons (pv 0) (pa_cons pe_int pa_nil))) pa_nil))))
        (pss_cons (ps_set (i := 2) scSm.nd rfl (.inr rfl) (pe_call gd hr rfl cd.mg cd.kp cd.b .nil pass0 (pa_cons (pv 1) pa_nil)))
        (pss_cons (ps_set (i := 3) scSm.nd rfl (.inl rfl) (pe_callTy call_tuple_of (by rfl) B.tuple (by decide +kernel) (pa_cons (pe_lc (own := [("_law_row", 5)]) (g := gName 5) (tt := tYes) rfl scSm.nd (pi_tup (pe_ix ix_tup (pv 1) pe_int (fun _ _ => rfl))) (blkOk_by (N := nmSm) (sc := defScope sSmallest) (by decide +kernel)) (fun _ _ _ _ _ => pg_name (i := 5) scSm.nd rfl (Or.inl rfl)) (fun _ _ _ _ _ => pts_nil)
          (fun _ _ _ _ _ => (pe_callTy (call_tupK K rfl) (by rfl) B.tuple (by decide +kernel) (pa_cons (pe_lc (own := [("_law_x", 6)]) (g := gName 6) (tt := tYes) rfl scSm.nd (pi_tupK K rfl (pv 5)) (blkOk_by (N := nmSm) (sc := scSm1) (by decide +kernel)) (fun _ _ _ _ _ => pg_name (i := 6) scSm.nd rfl (Or.inl rfl)) (fun _ _ _ _ _ => pts_nil)
          (fun _ _ _ _ _ => (pe_ix (ix_listK K rfl) (pv 2) (pv 6) (fun _ _ => rfl)))) pa_nil)))) pa_nil)))
        (pss_cons (ps_set (i := 4) scSm.nd rfl (.inl rfl) (pe_tup (pa_cons (pe_ix ix_list (pv 2) (pe_ix ix_tup (pv 1) pe_int (fun _ _ => rfl)) (fun _ _ => rfl)) (pa_cons (pe_callTy call_tuple_of (by rfl) B.tuple (by decide +kernel) (pa_cons (pe_lc (own := [("_law_x", 6)]) (g := gName 6) (tt := tYes) rfl scSm.nd (pi_tup (pe_ix ix_tup (pv 1) pe_int (fun _ _ => rfl))) (blkOk_by (N := nmSm) (sc := defScope sSmallest) (by decide +kernel)) (fun _ _ _ _ _ => pg_name (i := 6) scSm.nd rfl (Or.inl rfl)) (fun _ _ _ _ _ => pts_nil)
          (fun _ _ _ _ _ => (pe_ix (ix_listK K rfl) (pv 2) (pv 6) (fun _ _ => rfl)))) pa_nil)) (pa_cons (pv 3) (pa_cons (pe_ix ix_tup (pv 1) pe_int (fun _ _ => rfl)) pa_nil))))))
        (pss_one (ps_ret (pe_call gb hr rfl cb.mg cb.kp cb.b .nil pass0 (pa_cons (pv 4) (pa_cons (pe_call gl hr rfl cl.mg cl.kp cl.b .nil pass0 (pa_cons (pv 4) (pa_cons pe_int pa_nil))) pa_nil))))))))), ?_⟩
    refine ⟨_, rfl, _, rfl, n, p, R, rfl, hR, Vl.toShape, by omega, hn, fun q1 H1 L1 s1 hq1 hq2 C1 => ?_⟩
    have hL1 : L1.length ≤ R.m.length := by
      obtain ⟨j, rfl⟩ := C1.it
      exact shape_iter Vl.toShape j
    refine ⟨n, p, q1, R, L1, rfl, hR.tups s1.tups, Vl.toShape, hq2, C1, by omega, by omega, fun ps H2 s2 hS2 => ?_⟩
    have VS := tabOf_valid C1 Vl.mon
    have hSl : (tabOf R.tab n L1).m.length ≤ 15 := by rw [tabOf_len]; omega
    generalize eS : tabOf R.tab n L1 = S at VS hSl hS2
    refine ⟨_, rfl, n, ps, S, rfl, hS2, VS, hSl, fun pc H3 c s3 hpc0 hpc hc => ?_⟩
    have hcl := hc.len
    have hb : ∀ x, x < S.m.length → c.getD x 0 < S.m.length := fun x hx => lead_lt hc hx
    obtain ⟨l, mm, a, ms, hP⟩ := (hS2.tups s3.tups).parts (K := K)
    have cget : ∀ {H' : Hp} {x : Nat}, Same H3 H' → x < S.m.length → ∃ xs, SqL K H' pc xs ∧ atI xs ((x : Nat) : Int) = some (iv (c.getD x 0)) := fun {H' x} s h => ⟨_, SqL.of (s _ _ hpc), atN (ivs_get (by rw [hcl]; exact h))⟩
    -- mul
    refine ⟨_, rfl, ps, _, 2, _, rfl, rfl, SqT.of hP.top, atI_nat (j := 2) rfl, mm, rfl, ⟨_, SqT.of hP.m⟩, fun D hD => ?_⟩
    have hrl := hP.r.len
    refine lc_fill (xs := S.m) hrl (walk_tup (xs := ms)) (fun _ => true) (repRow fun r => r.map fun x => c.getD x 0) (repRow_mono _) hD (sz (by omega)) (fun H' s => SqT.of (s.tups _ _ hP.m)) ?_ ?_
    · rintro i r v H4' H4 Ky Kn hz s4 ⟨rfl, hx⟩ hy _
      obtain ⟨r', hr', b, rfl, hb4⟩ := Paired.getR (hP.r.tups s4.tups) hx
      obtain rfl : r = r' := by rw [hz] at hr'; exact Option.some.inj hr'
      have hrm := List.mem_of_getElem? hz
      refine lc_yes rfl ?_
      refine ⟨_, rfl, b, rfl, ⟨_, SqT.of hb4⟩, fun D5 hD5 => ?_⟩
      refine lc_fill (xs := r) (ivs_len r).symm (walk_tup (xs := ivs r)) (fun _ => true) (fun _ x v => v = iv (c.getD x 0)) (fun _ _ _ _ _ h => h) hD5 (by rw [VS.row r hrm]; exact sz (by omega)) (fun H' s => SqT.of (s.tups _ _ hb4)) ?_ ?_
      · rintro j x v6 H6' H6 Ky6 Kn6 hz6 s6 ⟨rfl, hx6⟩ hy6 _
        obtain ⟨x', hx', rfl⟩ := getR_ivs hx6
        obtain rfl : x = x' := by rw [hz6] at hx'; exact Option.some.inj hx'
        obtain ⟨xs, c1, c2⟩ := cget (s4.trans s6) (VS.ent r hrm x (List.mem_of_getElem? hz6))
        refine lc_yes rfl ?_
        exact ⟨_, rfl, _, rfl, pc, _, _, _, rfl, rfl, c1, c2, hy6 rfl _ _ (Same.refl _) rfl⟩
      rintro H6 us s6 hus rus
      rw [filter_yes] at rus
      have eus := ivs_of (H := H6) rus
      refine ⟨D5, us, rfl, .inl ⟨SqL.of hus, fun pr npr => ?_⟩⟩
      exact hy rfl _ _ (s6.trans (same_upd npr)) ⟨pr, rfl, by rw [upd_same, eus]⟩
    rintro H4 mrs s4 hmrs rmrs
    rw [filter_yes] at rmrs
    refine ⟨D, mrs, rfl, .inl ⟨SqL.of hmrs, fun pm npm => ?_⟩⟩
    have s5 : Same H3 (upd H4 pm (.tup mrs)) := s4.trans (same_upd npm)
    have hpm : (upd H4 pm (.tup mrs)) pm = some (.tup mrs) := upd_same
    have rm5 : Rows (upd H4 pm (.tup mrs)) (S.m.map fun r => r.map fun x => c.getD x 0) mrs := Rows.tups (same_upd npm).tups (paired_mapL rmrs)
    generalize upd H4 pm (.tup mrs) = H5 at s5 hpm rm5 ⊢
    have hP5 := hP.tups s5.tups
    -- turned
    obtain ⟨xs0, c01, c02⟩ := cget s5 VS.e
    refine ⟨_, rfl, _, rfl, ps, _, 0, _, rfl, rfl, SqT.of hP5.top, atI_nat (j := 0) rfl, pc, _, _, _, rfl, rfl, c01, c02, ?_⟩
    refine ⟨_, rfl, ps, _, 1, _, rfl, rfl, SqT.of hP5.top, atI_nat (j := 1) rfl, l, rfl, ⟨_, SqT.of hP5.l⟩, fun D6 hD6 => ?_⟩
    refine lc_fill (xs := S.l) (ivs_len S.l).symm (walk_tup (xs := ivs S.l)) (fun _ => true) (fun _ x v => v = iv (c.getD x 0)) (fun _ _ _ _ _ h => h) hD6 (by rw [VS.ln]; exact sz (by omega)) (fun H' s => SqT.of (s.tups _ _ hP5.l)) ?_ ?_
    · rintro j x v6 H6' H6 Ky6 Kn6 hz6 s6 ⟨rfl, hx6⟩ hy6 _
      obtain ⟨x', hx', rfl⟩ := getR_ivs hx6
      obtain rfl : x = x' := by rw [hz6] at hx'; exact Option.some.inj hx'
      obtain ⟨xs, c1, c2⟩ := cget (s5.trans s6) (VS.l x (List.mem_of_getElem? hz6))
      refine lc_yes rfl ?_
      exact ⟨_, rfl, _, rfl, pc, _, _, _, rfl, rfl, c1, c2, hy6 rfl _ _ (Same.refl _) rfl⟩
    rintro H6 ls s6 hls rls
    rw [filter_yes] at rls
    have els := ivs_of (H := H6) rls
    refine ⟨D6, ls, rfl, .inl ⟨SqL.of hls, fun pl npl => ?_⟩⟩
    have s7 : Same H5 (upd H6 pl (.tup ls)) := s6.trans (same_upd npl)
    have hpl : (upd H6 pl (.tup ls)) pl = some (.tup ls) := upd_same
    generalize upd H6 pl (.tup ls) = H7 at s7 hpl ⊢
    have hP7 := hP5.tups s7.tups
    refine ⟨_, rfl, _, rfl, ps, _, 3, _, rfl, rfl, SqT.of hP7.top, atI_nat (j := 3) rfl, by rw [sizeLine_eq]; show 4 ≤ 16777216; decide, fun pt npt => ?_⟩
    have s8 : Same H7 (upd H7 pt (.tup [iv (c.getD S.e 0), .ref pl, .ref pm, .ref a])) := same_upd npt
    have hT : RdAt (upd H7 pt (.tup [iv (c.getD S.e 0), .ref pl, .ref pm, .ref a])) pt (turnR S c) := ⟨pl, pm, a, mrs, upd_same, by rw [s8 _ _ hpl, els]; rfl, s8 _ _ (s7 _ _ hpm), rm5.tups (s7.trans s8).tups, s8 _ _ hP7.a⟩
    generalize upd H7 pt (.tup [iv (c.getD S.e 0), .ref pl, .ref pm, .ref a]) = H8 at s8 hT ⊢
    have TS := turn_shape VS.toShape hb
    refine ⟨_, rfl, _, rfl, n, pt, turnR S c, rfl, hT, TS, by rw [turn_len]; omega, hn, fun q2 H9 L2 s9 hq20 hq22 C2 => ?_⟩
    have hL2 : L2.length ≤ 15 := by
      obtain ⟨j, rfl⟩ := C2.it
      have := shape_iter TS j
      rw [turn_len] at this
      omega
    refine ⟨n, pt, q2, turnR S c, L2, rfl, hT.tups s9.tups, TS, hq22, C2, by omega, by omega, fun r H10 s10 hr10 => ?_⟩
    have C2' := turn_clo VS.toShape hb C2
    have e2 : tabOf (turnR S c).tab n L2 = tabOf (leadTab S c) n L2 := (turn_sim VS.toShape hb).tabOf C2 C2'
    rw [e2] at hr10
    subst eS
    refine k r H10 _ ?_ ⟨L1, c, L2, C1, hc, C2', rfl⟩ hr10
    exact (s1.trans s2).trans ((s3.trans (s5.trans (s7.trans s8))).trans (s9.trans s10))
end
end My
end

section
/-! words. -/
namespace My
open PySem PySem.Spec PyProof.Rows L2
/-- lists of words -/
def AllW (n l : Nat) (H : Hp) (us : List V) : Prop := ∀ v ∈ us, ∃ a wd, v = .ref a ∧ H a = some (.lst (ivs wd)) ∧ Word n wd ∧ wd.length ≤ l
theorem AllW.same {n l : Nat} {H H' : Hp} {us : List V} (h : AllW n l H us) (s : Same H H') : AllW n l H' us := fun v hv => let ⟨a, wd, e, q, W⟩ := h v hv; ⟨a, wd, e, s _ _ q, W⟩
theorem AllW.le {n l l' : Nat} {H : Hp} {us : List V} (h : AllW n l H us) (q : l ≤ l') : AllW n l' H us := fun v hv => let ⟨a, wd, e, q, W, z⟩ := h v hv; ⟨a, wd, e, q, W, by omega⟩
theorem AllW.app {n l : Nat} {H : Hp} {us vs : List V} (h : AllW n l H us) (g : AllW n l H vs) : AllW n l H (us ++ vs) := fun v hv => (List.mem_append.mp hv).elim (h v) (g v)
section
variable {P : Program} {w : World} {K : PySem.W.Frag} {mg : Str → Option Value} {base : Heap}
def spWords : Sp := fun vs H Q _ => ∃ n, vs = [iv n] ∧ n ≤ 3 ∧ ∀ q H' us, Same H H' → H' q = some (.lst us) → AllW n 4 H' us → us.length ≤ 1000 → Q (.ref q) H'
abbrev nmWords : List Str := ["_law_count", "_law_found", "_law_made", "_law_k", "_law_fresh", "_law_row", "_law_a"]
theorem scWords : FnScope nmWords ["_law_count"] (defScope sWords) := ⟨rfl, rfl, rfl, by decide +kernel, rfl, by decide +kernel, by decide +kernel⟩
def sigWd (n : Nat) (f m : Addr) (k fr r : Option V) : L2.St := [some (iv n), some (.ref f), some (.ref m), k, fr, r, none]
theorem ok_words {f : Addr} {fd : FuncData} (F : Fun K "_law_words" "_law_words" sWords f fd) (B : Blt mg) : FnOk P w K mg base CX0 1 f fd ["_law_count"] spWords := by
  refine F.ok scWords (fun vs H Q E h => ?_) (fun cdv A outer s H vs Q E hr h => ?_)
  · obtain ⟨n, rfl, _⟩ := h; rfl
  · obtain ⟨n, rfl, hn, k⟩ := h
    have sz : ∀ {j : Nat}, j ≤ 10000 → j < sizeLine := fun h => by rw [sizeLine_eq]; omega
    have h1 : 1 ≤ sizeLine := by rw [sizeLine_eq]; decide
    refine ⟨_, (pss_cons (ps_set (i := 1) scWords.nd rfl (.inl rfl) (pe_lst (pa_cons (pe_lst pa_nil) pa_nil)))
        (pss_cons (ps_set (i := 2) scWords.nd rfl (.inl rfl) (pe_lst (pa_cons (pe_lst pa_nil) pa_nil)))
        (pss_cons (ps_for PassesOwn.never rfl (pi_range1 rfl B.range (pa_cons pe_int pa_nil)) (pg_name (i := 3) scWords.nd rfl (.inl rfl)) (pss_cons (ps_set (i := 4) scWords.nd rfl (.inl rfl) (pe_lst pa_nil))
        (pss_cons (ps_for PassesOwn.never rfl (pi_list (pv 2)) (pg_name (i := 5) scWords.nd rfl (.inr rfl)) (pss_one (ps_set (i := 4) scWords.nd rfl (.inl rfl) (pe_op op_cat (pv 4) (pe_lc (own := [("_law_a", 6)]) (g := gName 6) (tt := tYes) rfl scWords.nd (pi_range1 rfl B.range (pa_cons (pv 0) pa_nil)) (blkOk_by (N := nmWords) (sc := defScope sWords) (by decide +kernel)) (fun _ _ _ _ _ => pg_name (i := 6) scWords.nd rfl (Or.inl rfl)) (fun _ _ _ _ _ => pts_nil)
          (fun _ _ _ _ _ => (pe_op op_cat (pv 5) (pe_lst (pa_cons (pv 6) pa_nil)))))))))
        (pss_cons (ps_set (i := 2) scWords.nd rfl (.inl rfl) (pv 4))
        (pss_one (ps_set (i := 1) scWords.nd rfl (.inl rfl) (pe_op op_cat (pv 1) (pv 2))))))))
        (pss_one (ps_ret (pv 1)))))), ?_⟩
    refine ⟨Nat.zero_le _, fun e1 he1 => ⟨h1, fun f0 hf0 => ?_⟩⟩
    refine ⟨Nat.zero_le _, fun e2 he2 => ⟨h1, fun m0 hm0 => ?_⟩⟩
    have s1 : Same H (upd (upd H e1 (.lst [])) f0 (.lst [.ref e1])) := (same_upd he1).trans (same_upd hf0)
    have s2 : Same (upd (upd H e1 (.lst [])) f0 (.lst [.ref e1])) (upd (upd (upd (upd H e1 (.lst [])) f0 (.lst [.ref e1])) e2 (.lst [])) m0 (.lst [.ref e2])) := (same_upd he2).trans (same_upd hm0)
    have g1 : (upd (upd (upd (upd H e1 (.lst [])) f0 (.lst [.ref e1])) e2 (.lst [])) m0 (.lst [.ref e2])) f0 = some (.lst [.ref e1]) := s2 _ _ upd_same
    have g2 : (upd (upd (upd (upd H e1 (.lst [])) f0 (.lst [.ref e1])) e2 (.lst [])) m0 (.lst [.ref e2])) m0 = some (.lst [.ref e2]) := upd_same
    have g3 : (upd (upd (upd (upd H e1 (.lst [])) f0 (.lst [.ref e1])) e2 (.lst [])) m0 (.lst [.ref e2])) e1 = some (.lst (ivs [])) := s2 _ _ ((same_upd hf0) _ _ upd_same)
    have g4 : (upd (upd (upd (upd H e1 (.lst [])) f0 (.lst [.ref e1])) e2 (.lst [])) m0 (.lst [.ref e2])) e2 = some (.lst (ivs [])) := (same_upd hm0) _ _ upd_same
    have s12 := s1.trans s2
    generalize upd (upd (upd (upd H e1 (.lst [])) f0 (.lst [.ref e1])) e2 (.lst [])) m0 (.lst [.ref e2]) = H1 at s12 g1 g2 g3 g4 ⊢
    have w1 : ∀ {e : Addr}, H1 e = some (.lst (ivs [])) → AllW n 0 H1 [.ref e] := fun he v hv => ⟨_, [], List.mem_singleton.mp hv, he, Word.nil, Nat.le_refl _⟩
    refine ⟨4, rfl, by decide, by decide, ?_⟩
    refine for_it (walk_range (lo := 0) (n := 4)) (fun i σ H' => ∃ f m ko fo ro us vs, σ = sigWd n f m ko fo ro ∧ Same H H' ∧ H' f = some (.lst us) ∧ H' m = some (.lst vs) ∧ AllW n i H' us ∧ AllW n i H' vs ∧ vs.length ≤ 3 ^ i ∧ us.length ≤ 100 * (i + 1))
      ⟨f0, m0, none, none, none, _, _, rfl, s12, g1, g2, w1 g3, w1 g4, Nat.le_refl _, (by show 1 ≤ 100; decide)⟩ (fun _ _ _ _ _ => trivial) ?_ ?_
    · rintro i v σ H2' H2 hi ⟨f1, m1, ko, fo, ro, us, vs, rfl, s2', hf2, hm2, wu, wv, lv, lu⟩ ⟨rfl, hv⟩
      have hp : 3 ^ i ≤ 27 := Nat.le_trans (Nat.pow_le_pow_right (by decide) (show i ≤ 3 by omega)) (by decide)
      refine ⟨Nat.zero_le _, fun r0 hr0 => ?_⟩
      have s3 : Same H2 (upd H2 r0 (.lst [])) := same_upd hr0
      have hr3 : (upd H2 r0 (.lst [])) r0 = some (.lst []) := upd_same
      generalize upd H2 r0 (.lst []) = H3 at s3 hr3 ⊢
      refine ⟨_, rfl, m1, rfl, ⟨_, SqL.of (s3 _ _ hm2)⟩, ?_⟩
      refine for_it (walk_list (xs := vs)) (fun j σ H' => ∃ fr ro rs, σ = sigWd n f1 m1 (some v) (some (.ref fr)) ro ∧ Same H2 H' ∧ H' fr = some (.lst rs) ∧ AllW n (i + 1) H' rs ∧ rs.length ≤ 3 * j) ⟨r0, ro, [], rfl, s3, hr3, (fun v hv => by cases hv), Nat.le_refl _⟩ (fun _ _ _ _ ⟨_, _, _, _, s, _⟩ => SqL.of (s _ _ hm2)) ?_ ?_
      · rintro j v1 σ H4' H4 hj ⟨fr, ro, rs, rfl, s4, hfr, wr, lr⟩ ⟨rfl, hx⟩
        obtain ⟨ar, wd, rfl, har, hW, hwl⟩ := (wv.same s4) v1 (List.mem_of_getElem? hx)
        refine ⟨_, rfl, _, rfl, (n : Int), rfl, by omega, by omega, fun D hD => ?_⟩
        refine lc_acc (walk_range (lo := 0) (n := n)) (fun j us' H' => Same H4 H' ∧ us'.length ≤ j ∧ ∀ v ∈ us', ∃ a wd, v = V.ref a ∧ a ≠ D ∧ H' a = some (.lst (ivs wd)) ∧ Word n wd ∧ wd.length ≤ i + 1) (sz (by omega)) ⟨same_upd hD, Nat.le_refl _, (fun v hv => by cases hv)⟩ (fun j us' H' h => h.2.1) (fun _ _ _ _ => trivial) ?_ ?_
        · rintro a va us' H5' H5 Ky Kn ha hDu ⟨s5, l5, w5⟩ ⟨rfl, hva⟩ hy _
          replace hva : va = iv a := hva.trans (by show V.int (0 + (a : Int)) = iv a; rw [Int.zero_add])
          subst hva
          refine lc_yes rfl ?_
          refine ⟨_, rfl, _, rfl, h1, fun la hla => ?_⟩
          have s6 : Same H5 (upd H5 la (.lst [iv a])) := same_upd hla
          have hla6 : (upd H5 la (.lst [iv a])) la = some (.lst [iv a]) := upd_same
          generalize upd H5 la (.lst [iv a]) = H6 at s6 hla6 ⊢
          have har6 := s6 _ _ (s5 _ _ har)
          refine ⟨ar, la, _, _, rfl, rfl, har6, hla6, by rw [ivs_len, List.length_singleton, sizeLine_eq]; omega, fun lb hlb => ?_⟩
          have s7 : Same H6 (upd H6 lb (.lst (ivs wd ++ [iv a]))) := same_upd hlb
          have hlb7 : (upd H6 lb (.lst (ivs wd ++ [iv a]))) lb = some (.lst (ivs (wd ++ [a]))) := by rw [upd_same, ivs_app]; rfl
          generalize upd H6 lb (.lst (ivs wd ++ [iv a])) = H7 at s7 hlb7 ⊢
          have hD7 := s7 _ _ (s6 _ _ hDu)
          have nlb : lb ≠ D := fun e => by
            rw [e, s6 _ _ hDu] at hlb
            cases hlb
          refine hy _ _ hD7 ⟨((s5.trans s6).trans s7).upd0 hD, by rw [List.length_append, List.length_singleton]; omega, fun v hv => ?_⟩
          rcases List.mem_append.mp hv with e | e
          · obtain ⟨a', wd', e1, e2, e3, e4⟩ := w5 v e
            exact ⟨a', wd', e1, e2, (upd_ne e2).trans (s7 _ _ (s6 _ _ e3)), e4⟩
          · refine ⟨lb, wd ++ [a], List.mem_singleton.mp e, nlb, (upd_ne nlb).trans hlb7, Word.app.mpr ⟨hW, Word.one.mpr ha⟩, by rw [List.length_append, List.length_singleton]; omega⟩
        rintro H5 us' hDu ⟨s5, l5, w5⟩
        refine ⟨fr, D, _, _, rfl, rfl, s5 _ _ hfr, hDu, by have := sz (j := rs.length + us'.length) (by rw [List.getElem?_eq_some_iff] at hx; obtain ⟨q, _⟩ := hx; omega); omega, fun fn hfn => ?_⟩
        have s6 : Same H5 (upd H5 fn (.lst (rs ++ us'))) := same_upd hfn
        refine ⟨fn, _, _, rfl, (s4.trans s5).trans s6, upd_same, ((wr.same s5).same s6).app fun v hv => ?_, by rw [List.length_append]; omega⟩
        obtain ⟨a', wd', e1, e2, e3, e4⟩ := w5 v hv
        exact ⟨a', wd', e1, s6 _ _ e3, e4⟩
      · rintro σ H4 ⟨fr, ro, rs, rfl, s4, hfr, wr, lr⟩
        have lr' : rs.length ≤ 3 ^ (i + 1) := by rw [Nat.pow_succ]; omega
        refine ⟨_, rfl, ?_⟩
        refine ⟨_, rfl, _, rfl, f1, fr, _, _, rfl, rfl, s4 _ _ hf2, hfr, by have := sz (j := us.length + rs.length) (by omega); omega, fun fn hfn => ?_⟩
        have s6 : Same H4 (upd H4 fn (.lst (us ++ rs))) := same_upd hfn
        exact ⟨fn, fr, _, _, _, _, rs, rfl, (s2'.trans s4).trans s6, upd_same, s6 _ _ hfr, (((wu.le (Nat.le_succ i)).same s4).same s6).app (wr.same s6), wr.same s6, lr', by rw [List.length_append]; omega⟩
    · rintro σ H2 ⟨f1, m1, ko, fo, ro, us, vs, rfl, s2', hf2, hm2, wu, wv, lv, lu⟩
      exact ⟨_, rfl, k f1 H2 us s2' hf2 wu (by omega)⟩
end
end My
end

section
/-! law. -/
namespace My
open PySem PySem.Spec PyProof.Rows L2
theorem valid_acc {n : Nat} {R : Rdr} (V : Valid n R) {a' : List Nat} (h : ∀ x ∈ a', x < R.m.length) : Valid n { R with a := a' } :=
  { e := V.e, ln := V.ln, l := V.l, row := V.row, ent := V.ent, acc := h, u1 := V.u1, u2 := V.u2, as := V.as }
theorem first_rest2 {α β : Type} {P : α → β → Prop} {G : α → β → Prop} {R : Prop} (h : ∀ a b, P a b → G a b) (f : (∀ a b, P a b → G a b) → R) : R := f h
theorem tabG_drawn {P st b : Addr} {z : Nat} {H H' : Hp} (g : GxR.TabG H P) (d : Drawn st H H') (h : DrawSt H st b z) : GxR.TabG H' P := by
  obtain ⟨xs, e⟩ := h.lst
  obtain ⟨ps, q, t⟩ := id g
  exact ⟨ps, d.lst q (fun z => tab_ne g e (fun _ z => nomatch z) z.symm), t⟩
section
variable {P : Program} {w : World} {K : PySem.W.Frag} {mg : Str → Option Value} {base : Heap}
def spLaw (K : PySem.W.Frag) (Pt : Nat) : Sp := fun vs H Q _ => ∃ (a : Addr) (ns : List Int), vs = [.ref a] ∧ SqL K H a (ns.map V.int) ∧ ns.length ≤ 63 ∧ GxR.TabG H Pt ∧ ∀ H', Q (.bl true) H'
abbrev nmLaw : List Str := ["_law_script", "_law_state", "_law_count", "_law_reader_here", "_law_beside", "_law_double", "_law_other", "_law_told", "_law_x", "_law_row"]
theorem scLaw : FnScope nmLaw ["_law_script"] (defScope sLaw) := ⟨rfl, rfl, rfl, by decide +kernel, rfl, by decide +kernel, by decide +kernel⟩
theorem ok_law {f f1 f2 f3 f4 f5 f6 f7 f8 : Addr} {fd fd1 fd2 fd3 fd4 fd5 fd6 fd7 fd8 : FuncData} {Pt : Nat} (F : Fun K "law" "law" sLaw f fd) (B : Blt mg)
    (c1 : Cal K mg "_law_draw" f1 fd1 ["_law_state", "_law_limit"]) (g1 : FnOk P w K mg base CX0 1 f1 fd1 ["_law_state", "_law_limit"] spDraw)
    (c2 : Cal K mg "_law_reader" f2 fd2 ["_law_state", "_law_count"]) (g2 : FnOk P w K mg base CX0 4 f2 fd2 ["_law_state", "_law_count"] spReader)
    (c3 : Cal K mg "joint" f3 fd3 ["kind", "first", "second"]) (g3 : FnOk P w K mg base CX0 5 f3 fd3 ["kind", "first", "second"] (spJoint Pt))
    (c4 : Cal K mg "same_words" f4 fd4 ["first", "second"]) (g4 : FnOk P w K mg base CX0 7 f4 fd4 ["first", "second"] (spSame Pt))
    (c5 : Cal K mg "least" f5 fd5 ["reader"]) (g5 : FnOk P w K mg base CX0 6 f5 fd5 ["reader"] (spLeast Pt))
    (c6 : Cal K mg "_law_smallest" f6 fd6 ["_law_reader_here"]) (g6 : FnOk P w K mg base CX0 2 f6 fd6 ["_law_reader_here"] spSmallest)
    (c7 : Cal K mg "_law_words" f7 fd7 ["_law_count"]) (g7 : FnOk P w K mg base CX0 1 f7 fd7 ["_law_count"] spWords)
    (c8 : Cal K mg "_law_takes" f8 fd8 ["_law_reader_here", "_law_row"]) (g8 : FnOk P w K mg base CX0 2 f8 fd8 ["_law_reader_here", "_law_row"] spTakes) :
    FnOk P w K mg base CX0 8 f fd ["_law_script"] (spLaw K Pt) := by
  refine F.ok scLaw (fun vs H Q E h => ?_) (fun cdv A outer s H vs Q E hr h => ?_)
  · obtain ⟨a, ns, rfl, _⟩ := h; rfl
  · obtain ⟨a, ns, rfl, hS, hl, hTg, k⟩ := h
    have sz : ∀ {j : Nat}, j ≤ 1000 → j < sizeLine := fun h => by rw [sizeLine_eq]; omega
    have hu := hr.units
    refine ⟨_, (pss_cons (ps_set (i := 1) scLaw.nd rfl (.inr rfl) (pe_lst (pa_cons pe_int (pa_cons pe_int (pa_cons (pe_callTy call_list_of (by rfl) B.list (by decide +kernel) (pa_cons (pv 0) pa_nil)) (pa_cons pe_int pa_nil))))))
        (pss_cons (ps_set (i := 2) scLaw.nd rfl (.inl rfl) (pe_op op_add pe_int (pe_call g1 (hr.mono (by decide)) rfl c1.mg c1.kp c1.b .nil pass0 (pa_cons (pv 1) (pa_cons pe_int pa_nil)))))
        (pss_cons (ps_set (i := 3) scLaw.nd rfl (.inr rfl) (pe_call g2 (hr.mono (by decide)) rfl c2.mg c2.kp c2.b .nil pass0 (pa_cons (pv 1) (pa_cons (pv 2) pa_nil))))
        (pss_cons (ps_set (i := 4) scLaw.nd rfl (.inl rfl) (pe_call g2 (hr.mono (by decide)) rfl c2.mg c2.kp c2.b .nil pass0 (pa_cons (pv 1) (pa_cons (pv 2) pa_nil))))
        (pss_cons (ps_set (i := 5) scLaw.nd rfl (.inl rfl) (pe_call g3 (hr.mono (by decide)) rfl c3.mg c3.kp c3.b .nil pass0 (pa_cons pe_str (pa_cons (pv 3) (pa_cons (pe_op op_catT (pe_slice sl_tup (pv 4) po_none (po_some pe_int)) (pe_tup (pa_cons (pe_tupRg rfl (by rfl) B.tuple (prg_1 (by rfl) B.range (pe_callB call_len_seq (by rfl) B.len PySem.boot_len (pa_cons (pe_ix ix_tup (pv 4) pe_int (fun _ _ => rfl)) pa_nil)))) pa_nil))) pa_nil)))))
        (pss_cons (ps_if (PW.pt (pw_or (pt_cmpR op_notBl (pe_call g4 (hr.mono (by decide)) rfl c4.mg c4.kp c4.b .nil pass0 (pa_cons (pv 3) (pa_cons (pv 5) pa_nil))) pe_bl (nomark _)) (pw_or1 (pt_cmpR op_gt (pe_callB call_len_seq (by rfl) B.len PySem.boot_len (pa_cons (pe_ix ix_tup (pe_call g5 (hr.mono (by decide)) rfl c5.mg c5.kp c5.b .nil pass0 (pa_cons (pv 5) pa_nil)) pe_int (fun _ _ => rfl)) pa_nil)) (pe_callB call_len_seq (by rfl) B.len PySem.boot_len (pa_cons (pe_ix ix_tup (pv 3) pe_int (fun _ _ => rfl)) pa_nil)) (nomark _))))) (pss_one (ps_ret pe_bl)) pss_nil)
        (pss_cons (ps_set (i := 6) scLaw.nd rfl (.inr rfl) (pe_call g2 (hr.mono (by decide)) rfl c2.mg c2.kp c2.b .nil pass0 (pa_cons (pv 1) (pa_cons (pv 2) pa_nil))))
        (pss_cons (ps_if (pt_cmpR op_eq (pe_call g1 (hr.mono (by decide)) rfl c1.mg c1.kp c1.b .nil pass0 (pa_cons (pv 1) (pa_cons pe_int pa_nil))) pe_int (nomark _)) (pss_one (ps_set (i := 6) scLaw.nd rfl (.inr rfl) (pe_op op_catT (pe_slice sl_tup (pv 3) po_none (po_some pe_int)) (pe_tup (pa_cons (pe_callTy call_tuple_of (by rfl) B.tuple (by decide +kernel) (pa_cons (pe_lc (own := [("_law_x", 8)]) (g := gName 8)  rfl scLaw.nd (pi_tup (pe_ix ix_tup (pv 3) pe_int (fun _ _ => rfl))) (blkOk_by (N := nmLaw) (sc := defScope sLaw) (by decide +kernel)) (fun _ _ _ _ _ => pg_name (i := 8) scLaw.nd rfl (Or.inl rfl)) (fun _ _ _ _ _ => pts_one (pt_cmpR op_gt (pe_call g1 (hr.mono (by decide)) rfl c1.mg c1.kp c1.b .nil pass0 (pa_cons (pv 1) (pa_cons pe_int pa_nil))) pe_int (nomark _)))
          (fun _ _ _ _ _ => (pv 8))) pa_nil)) pa_nil))))) pss_nil)
        (pss_cons (ps_set (i := 7) scLaw.nd rfl (.inl rfl) (pe_call g4 (hr.mono (by decide)) rfl c4.mg c4.kp c4.b .nil pass0 (pa_cons (pv 3) (pa_cons (pv 6) pa_nil))))
        (pss_cons (ps_if (pt_cmpR op_ne (pv 7) (pe_cmpR (op_eqD hu) (pe_call g6 (hr.mono (by decide)) rfl c6.mg c6.kp c6.b .nil pass0 (pa_cons (pv 3) pa_nil)) (pe_call g6 (hr.mono (by decide)) rfl c6.mg c6.kp c6.b .nil pass0 (pa_cons (pv 6) pa_nil)) (nomark _)) (nomark _)) (pss_one (ps_ret pe_bl)) pss_nil)
        (pss_one (ps_ret (pe_or (pe_not (pv 7)) (pe_one (pe_callB (cr_all rfl) (by rfl) B.all (by decide +kernel) (pa_cons (pe_lc (own := [("_law_row", 9)]) (g := gName 9) (tt := tYes) rfl scLaw.nd (pi_list (pe_call g7 (hr.mono (by decide)) rfl c7.mg c7.kp c7.b .nil pass0 (pa_cons (pv 2) pa_nil))) (blkOk_by (N := nmLaw) (sc := defScope sLaw) (by decide +kernel)) (fun _ _ _ _ _ => pg_name (i := 9) scLaw.nd rfl (Or.inl rfl)) (fun _ _ _ _ _ => pts_nil)
          (fun _ _ _ _ _ => (pe_cmpR op_eq (pe_call g8 (hr.mono (by decide)) rfl c8.mg c8.kp c8.b .nil pass0 (pa_cons (pv 3) (pa_cons (pv 9) pa_nil))) (pe_call g8 (hr.mono (by decide)) rfl c8.mg c8.kp c8.b .nil pass0 (pa_cons (pv 6) (pa_cons (pv 9) pa_nil))) (nomark _)))) pa_nil)))))))))))))))), ?_⟩
    have h2s : ∀ {j : Nat}, j ≤ 16 → j ≤ sizeLine := fun h => by rw [sizeLine_eq]; omega
    refine ⟨_, rfl, a, _, rfl, .inl hS, fun b hb => ⟨h2s (by show 4 ≤ 16; decide), fun st hst => ?_⟩⟩
    have s1 : Same H (upd (upd H b (.lst (ns.map V.int))) st (.lst [.int 0, .int 0, .ref b, .int 1])) := (same_upd hb).trans (same_upd hst)
    have nbs : st ≠ b := fun e => by rw [e, upd_same] at hst; cases hst
    have d1 : DrawSt (upd (upd H b (.lst (ns.map V.int))) st (.lst [.int 0, .int 0, .ref b, .int 1])) st b 0 := ⟨0, 0, 1, ns, upd_same, (upd_ne (Ne.symm nbs)).trans upd_same, nbs, Nat.le_refl _, by decide, by decide⟩
    have t1 := tabG_same hTg s1
    generalize upd (upd H b (.lst (ns.map V.int))) st (.lst [.int 0, .int 0, .ref b, .int 1]) = H1 at s1 d1 t1 ⊢
    -- count
    refine ⟨_, rfl, st, b, 0, 3, rfl, d1, by decide, by decide, by decide, fun H2 d u2 d2 hd => ⟨1, (d : Int), rfl, rfl, ?_⟩⟩
    have t2 := tabG_drawn t1 (Drawn.of u2 d1 d2) d1
    show gName 2 (V.int ((1 : Int) + (d : Int))) _ _ _
    rw [show (1 : Int) + (d : Int) = ((1 + d : Nat) : Int) by omega]
    obtain ⟨n, hn⟩ : ∃ n, n = 1 + d := ⟨_, rfl⟩
    have hn3 : n ≤ 3 := by omega
    rw [← hn]
    clear hn hd
    -- the two readers
    refine ⟨_, rfl, _, rfl, st, b, _, n, rfl, d2, by omega, by omega, fun p1 H3 R1 D3 d3 V1 m1 a1 r1 => ?_⟩
    have t3 := tabG_drawn t2 D3 d2
    refine ⟨_, rfl, _, rfl, st, b, _, n, rfl, d3, by omega, by omega, fun p2 H4 R2 D4 d4 V2 m2 a2 r2 => ?_⟩
    have t4 := tabG_drawn t3 D4 d3
    have r14 := r1.tups D4.tu
    obtain ⟨l1, mm1, aa1, ms1, P1⟩ := r14.parts (K := K)
    obtain ⟨l2, mm2, aa2, ms2, P2⟩ := r2.parts (K := K)
    have hm2 := P2.r.len
    -- double
    refine ⟨_, rfl, _, rfl, _, rfl, p2, _, rfl, SqT.of P2.top, (by show ¬ (HT.sIx 4 0 none = 0 ∧ HT.sIx 4 4 (some 3) = 4); decide), fun qs hqs => ?_⟩
    have sS : Same H4 (upd H4 qs (.tup (cutV [iv R2.e, .ref l2, .ref mm2, .ref aa2] none (some 3)))) := same_upd hqs
    have hqs1 : (upd H4 qs (.tup (cutV [iv R2.e, .ref l2, .ref mm2, .ref aa2] none (some 3)))) qs = some (.tup [iv R2.e, .ref l2, .ref mm2]) := by rw [upd_same]; rfl
    show tTup _ _ (upd H4 qs (.tup (cutV [iv R2.e, .ref l2, .ref mm2, .ref aa2] none (some 3)))) _
    generalize upd H4 qs (.tup (cutV [iv R2.e, .ref l2, .ref mm2, .ref aa2] none (some 3))) = HS at sS hqs1 ⊢
    have PS := P2.tups sS.tups
    refine ⟨_, rfl, p2, _, 2, _, rfl, rfl, SqT.of PS.top, atI_nat (j := 2) rfl, mm2, _, rfl, .inr (SqT.of PS.m), (R2.m.length : Int), (by rw [hm2]), RgOk.of_le (by omega) (by omega) (by omega) (by omega), fun qr hqr => ⟨h2s (by show 1 ≤ 16; decide), fun qo hqo => ?_⟩⟩
    have sR : Same HS (upd (upd HS qr (.tup (rgV 0 (R2.m.length : Int)))) qo (.tup [.ref qr])) := (same_upd hqr).trans (same_upd hqo)
    have nro : qr ≠ qo := fun e => by rw [← e, upd_same] at hqo; cases hqo
    have hqr1 : (upd (upd HS qr (.tup (rgV 0 (R2.m.length : Int)))) qo (.tup [.ref qr])) qr = some (.tup (ivs (List.range R2.m.length))) := by rw [upd_ne nro, upd_same, rgV_ivs]
    have hqo1 : (upd (upd HS qr (.tup (rgV 0 (R2.m.length : Int)))) qo (.tup [.ref qr])) qo = some (.tup [.ref qr]) := upd_same
    have hqs2 := sR _ _ hqs1
    generalize upd (upd HS qr (.tup (rgV 0 (R2.m.length : Int)))) qo (.tup [.ref qr]) = HR at sR hqr1 hqo1 hqs2 ⊢
    refine ⟨qs, qo, _, _, rfl, rfl, SqT.of hqs2, SqT.of hqo1, (fun z => nomatch z), h2s (by show 3 + 1 ≤ 16; decide), (fun z => nomatch z), fun _ pq hpq => ?_⟩
    have sQ : Same HR (upd HR pq (.tup ([iv R2.e, .ref l2, .ref mm2] ++ [.ref qr]))) := same_upd hpq
    have PR := PS.tups (sR.trans sQ).tups
    have V2' : Valid n { R2 with a := List.range R2.m.length } := valid_acc V2 fun x hx => List.mem_range.mp hx
    have rB : RdAt (upd HR pq (.tup ([iv R2.e, .ref l2, .ref mm2] ++ [.ref qr]))) pq { R2 with a := List.range R2.m.length } := ⟨l2, mm2, qr, ms2, upd_same, PR.l, PR.m, PR.r, sQ _ _ hqr1⟩
    have s45 := (sS.trans sR).trans sQ
    generalize upd HR pq (.tup ([iv R2.e, .ref l2, .ref mm2] ++ [.ref qr])) = H5 at rB s45 ⊢
    have t5 := tabG_same t4 s45
    have d5 := d4.same s45
    have r15 := r14.tups s45.tups
    have hprod : R1.m.length * R2.m.length ≤ 9 * 9 := Nat.mul_le_mul m1 m2
    refine ⟨n, p1, pq, R1, { R2 with a := List.range R2.m.length }, rfl, r15, rB, V1.toShape, V2'.toShape, by omega, by show R1.m.length * R2.m.length ≤ 300; omega, t5, fun pd H6 L k6 t6 C6 rd6 => ?_⟩
    obtain ⟨VD, mD, same⟩ := joint_ok V1 V2' (fun x hx => List.mem_range.mpr hx) C6
    have mD' : (tabOf (pairTab R1 { R2 with a := List.range R2.m.length }) n L).m.length ≤ 81 := Nat.le_trans mD hprod
    generalize tabOf (pairTab R1 { R2 with a := List.range R2.m.length }) n L = Db at VD mD' same rd6
    clear mD
    have r16 := r15.tups k6.tups
    have d6 := d5.kp k6
    refine ⟨_, rfl, _, rfl, n, p1, pd, R1, Db, rfl, r16, rd6, V1, VD, by omega, by omega, by omega, t6, fun H7 M M' k7 t7 e1 e2 => ?_⟩
    have eM : M = M' := e1.canon V1 VD e2 same
    refine ⟨_, true, rfl, rfl, _, rfl, ?_⟩
    rw [decide_eq_true eM, decide_eq_true rfl]
    refine iteF ?_
    have rd7 := rd6.tups k7.tups
    have r17 := r16.tups k7.tups
    have d7 := d6.kp k7
    refine ⟨_, rfl, n, pd, Db, rfl, rd7, VD, by omega, by omega, t7, fun q8 H8 M8 k8 t8 e8 r8 => ?_⟩
    have eM8 : M = M8 := e1.canon V1 VD e8 same
    have hlen8 : M8.m.length ≤ R1.m.length := by rw [← eM8]; exact e1.len V1
    have r18 := r17.tups k8.tups
    have d8 := d7.kp k8
    obtain ⟨l8, mm8, aa8, ms8, P8⟩ := r8.parts (K := K)
    obtain ⟨l9, mm9, aa9, ms9, P9⟩ := r18.parts (K := K)
    refine ⟨q8, _, 2, _, rfl, rfl, SqT.of P8.top, atI_nat (j := 2) rfl, mm8, _, rfl, .inr (SqT.of P8.m), _, rfl, p1, _, 2, _, rfl, rfl, SqT.of P9.top, atI_nat (j := 2) rfl, mm9, _, rfl, .inr (SqT.of P9.m), _, _, rfl, rfl, _, rfl, ?_⟩
    rw [← P8.r.len, ← P9.r.len, decide_eq_false (by omega)]
    refine iteF ?_
    -- other
    refine ⟨_, rfl, _, rfl, st, b, _, n, rfl, d8, by omega, by omega, fun p3 H9 R3 D9 d9 V3 m3 a3 r3 => ?_⟩
    have t9 := tabG_drawn t8 D9 d8
    have r19 := r18.tups D9.tu
    refine ⟨_, rfl, st, b, _, 3, rfl, d9, by decide, by decide, by omega, fun H10 dd u10 d10 hdd => ⟨rfl, _, rfl, ?_⟩⟩
    have D10 := Drawn.of u10 d9 d10
    have t10 := tabG_drawn t9 D10 d9
    have r110 := r19.tups D10.tu
    have r310 := r3.tups D10.tu
    refine first_rest2 (α := Addr) (β := Hp) (P := fun q H' => ∃ O, RdAt H' q O ∧ Valid n O ∧ O.m.length ≤ 9 ∧ RdAt H' p1 R1 ∧ GxR.TabG H' Pt) (G := ?G) ?rest ?main
    case main =>
      intro rest
      refine ite2 (fun hone => ?_) (fun hone => ?_)
      · obtain ⟨l0, mm0, aa0, ms0, P0⟩ := r110.parts (K := K)
        refine ⟨_, rfl, _, rfl, p1, _, rfl, SqT.of P0.top, (by show ¬ (HT.sIx 4 0 none = 0 ∧ HT.sIx 4 4 (some 3) = 4); decide), fun qs hqs => ?_⟩
        have sS : Same H10 (upd H10 qs (.tup (cutV [iv R1.e, .ref l0, .ref mm0, .ref aa0] none (some 3)))) := same_upd hqs
        have hqs1 : (upd H10 qs (.tup (cutV [iv R1.e, .ref l0, .ref mm0, .ref aa0] none (some 3)))) qs = some (.tup [iv R1.e, .ref l0, .ref mm0]) := by rw [upd_same]; rfl
        show tTup _ _ (upd H10 qs (.tup (cutV [iv R1.e, .ref l0, .ref mm0, .ref aa0] none (some 3)))) _
        generalize upd H10 qs (.tup (cutV [iv R1.e, .ref l0, .ref mm0, .ref aa0] none (some 3))) = HS at sS hqs1 ⊢
        have PS := P0.tups sS.tups
        have dS := d10.same sS
        refine ⟨_, rfl, p1, _, 3, _, rfl, rfl, SqT.of PS.top, atI_nat (j := 3) rfl, aa0, rfl, ⟨_, SqT.of PS.a⟩, fun D hD => ?_⟩
        have n1 := dS.ne1 hD
        have n2 := dS.ne2 hD
        refine lc_acc (walk_tup (xs := ivs R1.a)) (fun j us' H' => ∃ l z, us' = ivs l ∧ l.length ≤ j ∧ (∀ x ∈ l, x < R1.m.length) ∧ Drawn st HS H' ∧ DrawSt H' st b z ∧ z ≤ 1000 + j) (by rw [ivs_len]; exact sz (by omega)) ⟨[], _, rfl, Nat.le_refl _, (by intro x hx; cases hx), (same_upd hD).drawn st, dS.same (same_upd hD), by omega⟩
          (fun j us' H' ⟨l, z, e1, e2, _⟩ => by rw [e1, ivs_len]; exact e2) (fun _ _ _ ⟨_, _, _, _, _, D, _⟩ => SqT.of (D.tu _ _ PS.a)) ?_ ?_
        · rintro j v us' H11' H11 Ky Kn hj hDu ⟨l', z, rfl, hl3, hl4, D11, d11, hz⟩ ⟨rfl, hx⟩ hy hno
          obtain ⟨x, hx1, rfl⟩ := getR_ivs hx
          rw [ivs_len] at hj
          refine ⟨rfl, ?_⟩
          refine ⟨_, rfl, st, b, z, 3, rfl, d11, by decide, by decide, by omega, fun H12 d12 u12 s12 hd12 => ?_⟩
          have D12 := Drawn.of u12 d11 s12
          have h12 := D12.lst hDu (Ne.symm n1)
          refine ⟨_, _, rfl, rfl, _, rfl, ite2 (fun h => ?_) (fun h => ?_)⟩
          · refine ⟨_, rfl, hy _ _ h12 ⟨l' ++ [x], z + 1, by rw [ivs_app]; rfl, by rw [List.length_append, List.length_singleton]; omega, ?_, (D11.trans D12).upd0 hD (by rw [h12]; exact fun _ z => nomatch z), s12.upd n1 n2, by omega⟩⟩
            intro y hy
            rcases List.mem_append.mp hy with e | e
            · exact hl4 y e
            · rw [List.mem_singleton.mp e]; exact V1.acc x (List.mem_of_getElem? hx1)
          · exact hno _ h12 ⟨l', z + 1, rfl, by omega, hl4, D11.trans D12, s12, by omega⟩
        rintro H11 as hDu ⟨l', z, rfl, hl3, hl4, D11, d11, hz⟩
        refine ⟨D, _, rfl, .inl ⟨SqL.of hDu, fun qr hqr => ⟨h2s (by show 1 ≤ 16; decide), fun qo hqo => ?_⟩⟩⟩
        have sR : Same H11 (upd (upd H11 qr (.tup (ivs l'))) qo (.tup [.ref qr])) := (same_upd hqr).trans (same_upd hqo)
        have nro : qr ≠ qo := fun e => by rw [← e, upd_same] at hqo; cases hqo
        have hqr1 : (upd (upd H11 qr (.tup (ivs l'))) qo (.tup [.ref qr])) qr = some (.tup (ivs l')) := by rw [upd_ne nro, upd_same]
        have hqo1 : (upd (upd H11 qr (.tup (ivs l'))) qo (.tup [.ref qr])) qo = some (.tup [.ref qr]) := upd_same
        have hqs2 := sR _ _ (D11.tu _ _ hqs1)
        generalize upd (upd H11 qr (.tup (ivs l'))) qo (.tup [.ref qr]) = HR at sR hqr1 hqo1 hqs2 ⊢
        refine ⟨qs, qo, _, _, rfl, rfl, SqT.of hqs2, SqT.of hqo1, (fun z => nomatch z), h2s (by show 3 + 1 ≤ 16; decide), (fun z => nomatch z), fun _ pq hpq => ?_⟩
        have sQ : Same HR (upd HR pq (.tup [iv R1.e, .ref l0, .ref mm0, .ref qr])) := same_upd hpq
        have PR := PS.tups (D11.tu.trans (sR.trans sQ).tups)
        refine rest pq _ ⟨{ R1 with a := l' }, ⟨l0, mm0, qr, ms0, upd_same, PR.l, PR.m, PR.r, sQ _ _ hqr1⟩, valid_acc V1 hl4, m1, r110.tups (sS.tups.trans (D11.tu.trans (sR.trans sQ).tups)), ?_⟩
        exact tabG_same (tabG_drawn (tabG_same t10 sS) D11 dS) (sR.trans sQ)
      · exact rest p3 H10 ⟨R3, r310, V3, m3, r110, t10⟩
    case rest =>
      rintro po HO ⟨O, rO, VO, mO, rO1, tO⟩
      refine ⟨_, rfl, _, rfl, n, p1, po, R1, O, rfl, rO1, rO, V1, VO, by omega, by omega, by omega, tO, fun HA M1 M2 kA tA eA1 eA2 => ?_⟩
      have rA1 := rO1.tups kA.tups
      have rA := rO.tups kA.tups
      refine ⟨_, rfl, _, rfl, n, p1, R1, rfl, rA1, V1, by omega, by omega, fun qB HB N1 sB eB rB1 => ?_⟩
      refine ⟨_, rfl, n, po, O, rfl, rA.tups sB.tups, VO, by omega, by omega, fun qC HC N2 sC eC rC1 => ?_⟩
      refine ⟨dRdr N1, dRdr N2, (rB1.tups sC.tups).dp, rC1.dp, dRdr_shaped _, dRdr_shaped _, rfl, _, rfl, ?_⟩
      rw [dRdr_eqv, ← eA1.uniq V1 eB, ← eA2.uniq VO eC, decide_eq_true rfl]
      refine iteF ?_
      refine ⟨_, rfl, _, rfl, ?_⟩
      by_cases told : M1 = M2
      · rw [decide_eq_true told]
        refine ⟨false, rfl, iteF ?_⟩
        subst told
        have rC1' := rA1.tups (sB.trans sC).tups
        have rCO := rA.tups (sB.trans sC).tups
        refine ⟨_, rfl, n, rfl, hn3, fun qw HD us sD hqw ww lw => ⟨qw, rfl, ⟨_, SqL.of hqw⟩, fun D hD => ?_⟩⟩
        refine lc_fill (xs := us) rfl (walk_list (xs := us)) (fun _ => true) (fun _ _ v => v = V.bl true) (fun _ _ _ _ _ h => h) hD (sz (by omega)) (fun H' s => SqL.of (s _ _ hqw)) ?_ ?_
        · rintro i z v HE' HE Ky Kn hz sE ⟨rfl, hv⟩ hy _
          obtain ⟨ar, wd, rfl, har, hW, _⟩ := (ww.same sE) v (List.mem_of_getElem? hv)
          have rE1 := rC1'.tups (sD.trans sE).tups
          have rEO := rCO.tups (sD.trans sE).tups
          have eq : takes R1.tab wd = takes O.tab wd := (eA1.takesM V1 wd hW).symm.trans (eA2.takesM VO wd hW)
          refine lc_yes rfl ?_
          refine ⟨_, rfl, _, rfl, n, p1, ar, R1, wd, rfl, rE1, V1, har, hW, _, rfl, _, rfl, n, po, ar, O, wd, rfl, rEO, VO, har, hW, rfl, hy rfl _ _ (Same.refl _) ?_⟩
          rw [decide_eq_true (by rw [eq])]
        rintro HE vs sE hvs rvs
        rw [filter_yes] at rvs
        have evs : vs = (us.map fun _ => true).map V.bl := by
          have : ∀ {xs ys : List V}, Paired (fun (_ : V) v => v = V.bl true) xs ys → ys = (xs.map fun _ => true).map V.bl := by
            intro xs ys h
            induction h with
            | nil => rfl
            | cons r _ ih => rw [r, ih]; rfl
          exact this rvs
        refine ⟨D, us.map fun _ => true, rfl, SqL.of (by rw [hvs, evs]), ?_⟩
        rw [show (us.map fun _ => true).all id = true by rw [List.all_eq_true]; intro x hx; obtain ⟨_, _, rfl⟩ := List.mem_map.mp hx; rfl]
        exact k _
      · rw [decide_eq_false told]
        exact ⟨true, rfl, iteT (k _)⟩
end
end My
end

section
/-! What the top has written; the end. -/
namespace My
open PySem PySem.Spec PyProof.Rows L2
theorem all_mk {l : PySem.W.OpenLaw} {w : World} {K : PySem.W.Frag} {h : Heap} {mg : Str → Option Value} {fa : Addr} (X : K.In h) (G : h.Ns mainGlobals mg) (hfa : mg "law" = some (.ref fa)) (own : ∀ fc, mg "collect" = some (.ref fc) → LamX.OwnTab K fc h)
    {f0 : Addr} {od0 an0 : Option Addr} {sl0 : Array (Option Value)} {oc0 kV0 dc0 pm0 ct0 : Value}
    {cC : Addr}
    {f1 : Addr} {od1 an1 : Option Addr} {sl1 : Array (Option Value)} {oc1 kV1 dc1 pm1 ct1 : Value}
    {cd1 : Value}
    {f2 : Addr} {od2 an2 : Option Addr} {sl2 : Array (Option Value)} {oc2 kV2 dc2 pm2 ct2 : Value}
    {cd2 : Value}
    {f3 : Addr} {od3 an3 : Option Addr} {sl3 : Array (Option Value)} {oc3 kV3 dc3 pm3 ct3 : Value}
    {cd3 : Value}
    {f4 : Addr} {od4 an4 : Option Addr} {sl4 : Array (Option Value)} {oc4 kV4 dc4 pm4 ct4 : Value}
    {cd4 : Value}
    {f5 : Addr} {od5 an5 : Option Addr} {sl5 : Array (Option Value)} {oc5 kV5 dc5 pm5 ct5 : Value}
    {cd5 : Value}
    {f6 : Addr} {od6 an6 : Option Addr} {sl6 : Array (Option Value)} {oc6 kV6 dc6 pm6 ct6 : Value}
    {cd6 : Value}
    {f7 : Addr} {od7 an7 : Option Addr} {sl7 : Array (Option Value)} {oc7 kV7 dc7 pm7 ct7 : Value}
    {cd7 : Value}
    {f8 : Addr} {od8 an8 : Option Addr} {sl8 : Array (Option Value)} {oc8 kV8 dc8 pm8 ct8 : Value}
    {cd8 : Value}
    {f9 : Addr} {od9 an9 : Option Addr} {sl9 : Array (Option Value)} {oc9 kV9 dc9 pm9 ct9 : Value}
    {cd9 : Value}
    {f10 : Addr} {od10 an10 : Option Addr} {sl10 : Array (Option Value)} {oc10 kV10 dc10 pm10 ct10 : Value}
    {cd10 : Value}
    {f11 : Addr} {od11 an11 : Option Addr} {sl11 : Array (Option Value)} {oc11 kV11 dc11 pm11 ct11 : Value}
    {cd11 : Value}
    {f12 : Addr} {od12 an12 : Option Addr} {sl12 : Array (Option Value)} {oc12 kV12 dc12 pm12 ct12 : Value}
    {cd12 : Value}
    {f13 : Addr} {od13 an13 : Option Addr} {sl13 : Array (Option Value)} {oc13 kV13 dc13 pm13 ct13 : Value}
    {cd13 : Value}
    {f14 : Addr} {od14 an14 : Option Addr} {sl14 : Array (Option Value)} {oc14 kV14 dc14 pm14 ct14 : Value}
    {cd14 : Value}
    {f15 : Addr} {od15 an15 : Option Addr} {sl15 : Array (Option Value)} {oc15 kV15 dc15 pm15 ct15 : Value}
    {cd15 : Value}
    {f16 : Addr} {od16 an16 : Option Addr} {sl16 : Array (Option Value)} {oc16 kV16 dc16 pm16 ct16 : Value}
    {cd16 : Value}
    {f17 : Addr} {od17 an17 : Option Addr} {sl17 : Array (Option Value)} {oc17 kV17 dc17 pm17 ct17 : Value}
    {cd17 : Value}
    {f18 : Addr} {od18 an18 : Option Addr} {sl18 : Array (Option Value)} {oc18 kV18 dc18 pm18 ct18 : Value}
    {cd18 : Value}
    {f19 : Addr} {od19 an19 : Option Addr} {sl19 : Array (Option Value)} {oc19 kV19 dc19 pm19 ct19 : Value}
    {cd19 : Value}
    {f20 : Addr} {od20 an20 : Option Addr} {sl20 : Array (Option Value)} {oc20 kV20 dc20 pm20 ct20 : Value}
    {cd20 : Value}
    {f21 : Addr} {od21 an21 : Option Addr} {sl21 : Array (Option Value)} {oc21 kV21 dc21 pm21 ct21 : Value}
    {cd21 : Value}
    {f22 : Addr} {od22 an22 : Option Addr} {sl22 : Array (Option Value)} {oc22 kV22 dc22 pm22 ct22 : Value}
    {cd22 : Value}
    {oCc : Value} {ddC : Option Addr} {vsC : Array Value} {slC : Array (Option Value)} {Pt : Addr}
    {CT : Addr}
    {CP : Addr}
    {CL : Addr}
    {fTI : Addr} {odTI anTI : Option Addr} {slTI : Array (Option Value)} {ocTI kVTI dcTI pmTI ctTI : Value}
    {cdTI : Value}
    {fTE : Addr} {odTE anTE : Option Addr} {slTE : Array (Option Value)} {ocTE kVTE dcTE pmTE ctTE : Value}
    {cdTE : Value}
    {fTL : Addr} {odTL anTL : Option Addr} {slTL : Array (Option Value)} {ocTL kVTL dcTL pmTL ctTL : Value}
    {cdTL : Value}
    {fTJ : Addr} {odTJ anTJ : Option Addr} {slTJ : Array (Option Value)} {ocTJ kVTJ dcTJ pmTJ ctTJ : Value}
    {cdTJ : Value}
    {fTA : Addr} {odTA anTA : Option Addr} {slTA : Array (Option Value)} {ocTA kVTA dcTA pmTA ctTA : Value}
    {cdTA : Value}
    {fPI : Addr} {odPI anPI : Option Addr} {slPI : Array (Option Value)} {ocPI kVPI dcPI pmPI ctPI : Value}
    {cdPI : Value}
    {fPE : Addr} {odPE anPE : Option Addr} {slPE : Array (Option Value)} {ocPE kVPE dcPE pmPE ctPE : Value}
    {cdPE : Value}
    {fPL : Addr} {odPL anPL : Option Addr} {slPL : Array (Option Value)} {ocPL kVPL dcPL pmPL ctPL : Value}
    {cdPL : Value}
    {fPJ : Addr} {odPJ anPJ : Option Addr} {slPJ : Array (Option Value)} {ocPJ kVPJ dcPJ pmPJ ctPJ : Value}
    {cdPJ : Value}
    {fPA : Addr} {odPA anPA : Option Addr} {slPA : Array (Option Value)} {ocPA kVPA dcPA pmPA ctPA : Value}
    {cdPA : Value}
    {fLI : Addr} {odLI anLI : Option Addr} {slLI : Array (Option Value)} {ocLI kVLI dcLI pmLI ctLI : Value}
    {cdaL ccL : Addr}
    {fLE : Addr} {odLE anLE : Option Addr} {slLE : Array (Option Value)} {ocLE kVLE dcLE pmLE ctLE : Value}
    {cdLE : Value}
    {fLL : Addr} {odLL anLL : Option Addr} {slLL : Array (Option Value)} {ocLL kVLL dcLL pmLL ctLL : Value}
    {cdLL : Value}
    {fLJ : Addr} {odLJ anLJ : Option Addr} {slLJ : Array (Option Value)} {ocLJ kVLJ dcLJ pmLJ ctLJ : Value}
    {cdLJ : Value}
    {sc1 sc2 : Value} {sd1 sd2 : Option Addr} {ss1 ss2 : Array (Option Value)} {svs : Array Value} {sfile : Str} {stf : Tok} {scd : PySem.ClassData}
    {tk : Nat}
    (a0 : PySem.W.nsIn K mainGlobals "collect" = some (some (.ref f0)))
    (l0 : K.lookup f0 = some ⟨oc0, od0, .func (PySem.W.fnOf "collect" "collect" (defArgs sCollect) (defBody sCollect) (defScope sCollect) .none kV0 dc0 pm0 an0 (.ref cC) ct0), sl0⟩)
    (c0 : PySem.W.codeIn K (.ref cC) "collect" = true)
    (k0 : PySem.W.keepIn K (.ref f0) = true)
    (a1 : PySem.W.nsIn K mainGlobals "tabled" = some (some (.ref f1)))
    (l1 : K.lookup f1 = some ⟨oc1, od1, .func (PySem.W.fnOf "tabled" "tabled" (defArgs sTabled) (defBody sTabled) (defScope sTabled) .none kV1 dc1 pm1 an1 cd1 ct1), sl1⟩)
    (c1 : PySem.W.codeIn K cd1 "tabled" = true)
    (k1 : PySem.W.keepIn K (.ref f1) = true)
    (a2 : PySem.W.nsIn K mainGlobals "made_reader" = some (some (.ref f2)))
    (l2 : K.lookup f2 = some ⟨oc2, od2, .func (PySem.W.fnOf "made_reader" "made_reader" (defArgs sMade) (defBody sMade) (defScope sMade) .none kV2 dc2 pm2 an2 cd2 ct2), sl2⟩)
    (c2 : PySem.W.codeIn K cd2 "made_reader" = true)
    (k2 : PySem.W.keepIn K (.ref f2) = true)
    (a3 : PySem.W.nsIn K mainGlobals "numbered" = some (some (.ref f3)))
    (l3 : K.lookup f3 = some ⟨oc3, od3, .func (PySem.W.fnOf "numbered" "numbered" (defArgs sNumbered) (defBody sNumbered) (defScope sNumbered) .none kV3 dc3 pm3 an3 cd3 ct3), sl3⟩)
    (c3 : PySem.W.codeIn K cd3 "numbered" = true)
    (k3 : PySem.W.keepIn K (.ref f3) = true)
    (a4 : PySem.W.nsIn K mainGlobals "joint" = some (some (.ref f4)))
    (l4 : K.lookup f4 = some ⟨oc4, od4, .func (PySem.W.fnOf "joint" "joint" (defArgs sJoint) (defBody sJoint) (defScope sJoint) .none kV4 dc4 pm4 an4 cd4 ct4), sl4⟩)
    (c4 : PySem.W.codeIn K cd4 "joint" = true)
    (k4 : PySem.W.keepIn K (.ref f4) = true)
    (a5 : PySem.W.nsIn K mainGlobals "split" = some (some (.ref f5)))
    (l5 : K.lookup f5 = some ⟨oc5, od5, .func (PySem.W.fnOf "split" "split" (defArgs sSplit) (defBody sSplit) (defScope sSplit) .none kV5 dc5 pm5 an5 cd5 ct5), sl5⟩)
    (c5 : PySem.W.codeIn K cd5 "split" = true)
    (k5 : PySem.W.keepIn K (.ref f5) = true)
    (a6 : PySem.W.nsIn K mainGlobals "leaders" = some (some (.ref f6)))
    (l6 : K.lookup f6 = some ⟨oc6, od6, .func (PySem.W.fnOf "leaders" "leaders" (defArgs sLeaders) (defBody sLeaders) (defScope sLeaders) .none kV6 dc6 pm6 an6 cd6 ct6), sl6⟩)
    (c6 : PySem.W.codeIn K cd6 "leaders" = true)
    (k6 : PySem.W.keepIn K (.ref f6) = true)
    (a7 : PySem.W.nsIn K mainGlobals "least" = some (some (.ref f7)))
    (l7 : K.lookup f7 = some ⟨oc7, od7, .func (PySem.W.fnOf "least" "least" (defArgs sLeast) (defBody sLeast) (defScope sLeast) .none kV7 dc7 pm7 an7 cd7 ct7), sl7⟩)
    (c7 : PySem.W.codeIn K cd7 "least" = true)
    (k7 : PySem.W.keepIn K (.ref f7) = true)
    (a8 : PySem.W.nsIn K mainGlobals "same_words" = some (some (.ref f8)))
    (l8 : K.lookup f8 = some ⟨oc8, od8, .func (PySem.W.fnOf "same_words" "same_words" (defArgs sSameWords) (defBody sSameWords) (defScope sSameWords) .none kV8 dc8 pm8 an8 cd8 ct8), sl8⟩)
    (c8 : PySem.W.codeIn K cd8 "same_words" = true)
    (k8 : PySem.W.keepIn K (.ref f8) = true)
    (a9 : PySem.W.nsIn K mainGlobals "_law_draw" = some (some (.ref f9)))
    (l9 : K.lookup f9 = some ⟨oc9, od9, .func (PySem.W.fnOf "_law_draw" "_law_draw" (defArgs sDraw) (defBody sDraw) (defScope sDraw) .none kV9 dc9 pm9 an9 cd9 ct9), sl9⟩)
    (c9 : PySem.W.codeIn K cd9 "_law_draw" = true)
    (k9 : PySem.W.keepIn K (.ref f9) = true)
    (a10 : PySem.W.nsIn K mainGlobals "_law_functions" = some (some (.ref f10)))
    (l10 : K.lookup f10 = some ⟨oc10, od10, .func (PySem.W.fnOf "_law_functions" "_law_functions" (defArgs sFunctions) (defBody sFunctions) (defScope sFunctions) .none kV10 dc10 pm10 an10 cd10 ct10), sl10⟩)
    (c10 : PySem.W.codeIn K cd10 "_law_functions" = true)
    (k10 : PySem.W.keepIn K (.ref f10) = true)
    (a11 : PySem.W.nsIn K mainGlobals "_law_product" = some (some (.ref f11)))
    (l11 : K.lookup f11 = some ⟨oc11, od11, .func (PySem.W.fnOf "_law_product" "_law_product" (defArgs sProduct) (defBody sProduct) (defScope sProduct) .none kV11 dc11 pm11 an11 cd11 ct11), sl11⟩)
    (c11 : PySem.W.codeIn K cd11 "_law_product" = true)
    (k11 : PySem.W.keepIn K (.ref f11) = true)
    (a12 : PySem.W.nsIn K mainGlobals "_law_table" = some (some (.ref f12)))
    (l12 : K.lookup f12 = some ⟨oc12, od12, .func (PySem.W.fnOf "_law_table" "_law_table" (defArgs sTable) (defBody sTable) (defScope sTable) .none kV12 dc12 pm12 an12 cd12 ct12), sl12⟩)
    (c12 : PySem.W.codeIn K cd12 "_law_table" = true)
    (k12 : PySem.W.keepIn K (.ref f12) = true)
    (a13 : PySem.W.nsIn K mainGlobals "_law_mixed" = some (some (.ref f13)))
    (l13 : K.lookup f13 = some ⟨oc13, od13, .func (PySem.W.fnOf "_law_mixed" "_law_mixed" (defArgs sMixed) (defBody sMixed) (defScope sMixed) .none kV13 dc13 pm13 an13 cd13 ct13), sl13⟩)
    (c13 : PySem.W.codeIn K cd13 "_law_mixed" = true)
    (k13 : PySem.W.keepIn K (.ref f13) = true)
    (a14 : PySem.W.nsIn K mainGlobals "_law_reader" = some (some (.ref f14)))
    (l14 : K.lookup f14 = some ⟨oc14, od14, .func (PySem.W.fnOf "_law_reader" "_law_reader" (defArgs sReader) (defBody sReader) (defScope sReader) .none kV14 dc14 pm14 an14 cd14 ct14), sl14⟩)
    (c14 : PySem.W.codeIn K cd14 "_law_reader" = true)
    (k14 : PySem.W.keepIn K (.ref f14) = true)
    (a15 : PySem.W.nsIn K mainGlobals "_law_worth" = some (some (.ref f15)))
    (l15 : K.lookup f15 = some ⟨oc15, od15, .func (PySem.W.fnOf "_law_worth" "_law_worth" (defArgs sWorth) (defBody sWorth) (defScope sWorth) .none kV15 dc15 pm15 an15 cd15 ct15), sl15⟩)
    (c15 : PySem.W.codeIn K cd15 "_law_worth" = true)
    (k15 : PySem.W.keepIn K (.ref f15) = true)
    (a16 : PySem.W.nsIn K mainGlobals "_law_takes" = some (some (.ref f16)))
    (l16 : K.lookup f16 = some ⟨oc16, od16, .func (PySem.W.fnOf "_law_takes" "_law_takes" (defArgs sTakes) (defBody sTakes) (defScope sTakes) .none kV16 dc16 pm16 an16 cd16 ct16), sl16⟩)
    (c16 : PySem.W.codeIn K cd16 "_law_takes" = true)
    (k16 : PySem.W.keepIn K (.ref f16) = true)
    (a17 : PySem.W.nsIn K mainGlobals "_law_list" = some (some (.ref f17)))
    (l17 : K.lookup f17 = some ⟨oc17, od17, .func (PySem.W.fnOf "_law_list" "_law_list" (defArgs sList) (defBody sList) (defScope sList) .none kV17 dc17 pm17 an17 cd17 ct17), sl17⟩)
    (c17 : PySem.W.codeIn K cd17 "_law_list" = true)
    (k17 : PySem.W.keepIn K (.ref f17) = true)
    (a18 : PySem.W.nsIn K mainGlobals "_law_by_number" = some (some (.ref f18)))
    (l18 : K.lookup f18 = some ⟨oc18, od18, .func (PySem.W.fnOf "_law_by_number" "_law_by_number" (defArgs sByNumber) (defBody sByNumber) (defScope sByNumber) .none kV18 dc18 pm18 an18 cd18 ct18), sl18⟩)
    (c18 : PySem.W.codeIn K cd18 "_law_by_number" = true)
    (k18 : PySem.W.keepIn K (.ref f18) = true)
    (a19 : PySem.W.nsIn K mainGlobals "_law_lead" = some (some (.ref f19)))
    (l19 : K.lookup f19 = some ⟨oc19, od19, .func (PySem.W.fnOf "_law_lead" "_law_lead" (defArgs sLead) (defBody sLead) (defScope sLead) .none kV19 dc19 pm19 an19 cd19 ct19), sl19⟩)
    (c19 : PySem.W.codeIn K cd19 "_law_lead" = true)
    (k19 : PySem.W.keepIn K (.ref f19) = true)
    (a20 : PySem.W.nsIn K mainGlobals "_law_smallest" = some (some (.ref f20)))
    (l20 : K.lookup f20 = some ⟨oc20, od20, .func (PySem.W.fnOf "_law_smallest" "_law_smallest" (defArgs sSmallest) (defBody sSmallest) (defScope sSmallest) .none kV20 dc20 pm20 an20 cd20 ct20), sl20⟩)
    (c20 : PySem.W.codeIn K cd20 "_law_smallest" = true)
    (k20 : PySem.W.keepIn K (.ref f20) = true)
    (a21 : PySem.W.nsIn K mainGlobals "_law_words" = some (some (.ref f21)))
    (l21 : K.lookup f21 = some ⟨oc21, od21, .func (PySem.W.fnOf "_law_words" "_law_words" (defArgs sWords) (defBody sWords) (defScope sWords) .none kV21 dc21 pm21 an21 cd21 ct21), sl21⟩)
    (c21 : PySem.W.codeIn K cd21 "_law_words" = true)
    (k21 : PySem.W.keepIn K (.ref f21) = true)
    (a22 : PySem.W.nsIn K mainGlobals "law" = some (some (.ref f22)))
    (l22 : K.lookup f22 = some ⟨oc22, od22, .func (PySem.W.fnOf "law" "law" (defArgs sLaw) (defBody sLaw) (defScope sLaw) .none kV22 dc22 pm22 an22 cd22 ct22), sl22⟩)
    (c22 : PySem.W.codeIn K cd22 "law" = true)
    (k22 : PySem.W.keepIn K (.ref f22) = true)
    (lC : K.lookup cC = some ⟨oCc, ddC, .fields vsC, slC⟩)
    (vC : vsC[11]? = some (.ref Pt))
    (nC : K.lookup Pt = none)
    (hC : PySem.W.codeHdIn K cC Pt = true)
    (gCT : PySem.W.nsIn K mainGlobals "Table" = some (some (.ref CT)))
    (pgCT : PySem.W.plainGet K CT Str.empty = true)
    (hdCT : PySem.W.hasDictIn K CT = true)
    (poCT : PySem.W.plainOver K CT = true)
    (saCT : PySem.W.findIn K (.ref CT) "__setattr__" = some (some (.builtin "object.__setattr__")))
    (mkCT : PySem.W.makesIn K CT = true)
    (kcCT : PySem.W.keepIn K (.ref CT) = true)
    (nCT_reader : PySem.W.findIn K (.ref CT) "reader" = some none)
    (gCP : PySem.W.nsIn K mainGlobals "Pairs" = some (some (.ref CP)))
    (pgCP : PySem.W.plainGet K CP Str.empty = true)
    (hdCP : PySem.W.hasDictIn K CP = true)
    (poCP : PySem.W.plainOver K CP = true)
    (saCP : PySem.W.findIn K (.ref CP) "__setattr__" = some (some (.builtin "object.__setattr__")))
    (mkCP : PySem.W.makesIn K CP = true)
    (kcCP : PySem.W.keepIn K (.ref CP) = true)
    (nCP_kind : PySem.W.findIn K (.ref CP) "kind" = some none)
    (nCP_first : PySem.W.findIn K (.ref CP) "first" = some none)
    (nCP_second : PySem.W.findIn K (.ref CP) "second" = some none)
    (gCL : PySem.W.nsIn K mainGlobals "Leaders" = some (some (.ref CL)))
    (pgCL : PySem.W.plainGet K CL Str.empty = true)
    (hdCL : PySem.W.hasDictIn K CL = true)
    (poCL : PySem.W.plainOver K CL = true)
    (saCL : PySem.W.findIn K (.ref CL) "__setattr__" = some (some (.builtin "object.__setattr__")))
    (mkCL : PySem.W.makesIn K CL = true)
    (kcCL : PySem.W.keepIn K (.ref CL) = true)
    (nCL_reader : PySem.W.findIn K (.ref CL) "reader" = some none)
    (nCL_leading : PySem.W.findIn K (.ref CL) "leading" = some none)
    (aTI : PySem.W.findIn K (.ref CT) "__init__" = some (some (.ref fTI)))
    (iTI : PySem.W.isFn K (.ref fTI) = true)
    (lTI : K.lookup fTI = some ⟨ocTI, odTI, .func (PySem.W.fnOf "__init__" "Table.__init__" (defArgs sTInit) (defBody sTInit) (defScope sTInit) .none kVTI dcTI pmTI anTI cdTI ctTI), slTI⟩)
    (cTI : PySem.W.codeIn K cdTI "Table.__init__" = true)
    (kTI : PySem.W.keepIn K (.ref fTI) = true)
    (aTE : PySem.W.findIn K (.ref CT) "empty" = some (some (.ref fTE)))
    (iTE : PySem.W.isFn K (.ref fTE) = true)
    (lTE : K.lookup fTE = some ⟨ocTE, odTE, .func (PySem.W.fnOf "empty" "Table.empty" (defArgs sTEmpty) (defBody sTEmpty) (defScope sTEmpty) .none kVTE dcTE pmTE anTE cdTE ctTE), slTE⟩)
    (cTE : PySem.W.codeIn K cdTE "Table.empty" = true)
    (kTE : PySem.W.keepIn K (.ref fTE) = true)
    (aTL : PySem.W.findIn K (.ref CT) "letter" = some (some (.ref fTL)))
    (iTL : PySem.W.isFn K (.ref fTL) = true)
    (lTL : K.lookup fTL = some ⟨ocTL, odTL, .func (PySem.W.fnOf "letter" "Table.letter" (defArgs sTLetter) (defBody sTLetter) (defScope sTLetter) .none kVTL dcTL pmTL anTL cdTL ctTL), slTL⟩)
    (cTL : PySem.W.codeIn K cdTL "Table.letter" = true)
    (kTL : PySem.W.keepIn K (.ref fTL) = true)
    (aTJ : PySem.W.findIn K (.ref CT) "join" = some (some (.ref fTJ)))
    (iTJ : PySem.W.isFn K (.ref fTJ) = true)
    (lTJ : K.lookup fTJ = some ⟨ocTJ, odTJ, .func (PySem.W.fnOf "join" "Table.join" (defArgs sTJoin) (defBody sTJoin) (defScope sTJoin) .none kVTJ dcTJ pmTJ anTJ cdTJ ctTJ), slTJ⟩)
    (cTJ : PySem.W.codeIn K cdTJ "Table.join" = true)
    (kTJ : PySem.W.keepIn K (.ref fTJ) = true)
    (aTA : PySem.W.findIn K (.ref CT) "is_accepted" = some (some (.ref fTA)))
    (iTA : PySem.W.isFn K (.ref fTA) = true)
    (lTA : K.lookup fTA = some ⟨ocTA, odTA, .func (PySem.W.fnOf "is_accepted" "Table.is_accepted" (defArgs sTAcc) (defBody sTAcc) (defScope sTAcc) .none kVTA dcTA pmTA anTA cdTA ctTA), slTA⟩)
    (cTA : PySem.W.codeIn K cdTA "Table.is_accepted" = true)
    (kTA : PySem.W.keepIn K (.ref fTA) = true)
    (aPI : PySem.W.findIn K (.ref CP) "__init__" = some (some (.ref fPI)))
    (iPI : PySem.W.isFn K (.ref fPI) = true)
    (lPI : K.lookup fPI = some ⟨ocPI, odPI, .func (PySem.W.fnOf "__init__" "Pairs.__init__" (defArgs sPInit) (defBody sPInit) (defScope sPInit) .none kVPI dcPI pmPI anPI cdPI ctPI), slPI⟩)
    (cPI : PySem.W.codeIn K cdPI "Pairs.__init__" = true)
    (kPI : PySem.W.keepIn K (.ref fPI) = true)
    (aPE : PySem.W.findIn K (.ref CP) "empty" = some (some (.ref fPE)))
    (iPE : PySem.W.isFn K (.ref fPE) = true)
    (lPE : K.lookup fPE = some ⟨ocPE, odPE, .func (PySem.W.fnOf "empty" "Pairs.empty" (defArgs sPEmpty) (defBody sPEmpty) (defScope sPEmpty) .none kVPE dcPE pmPE anPE cdPE ctPE), slPE⟩)
    (cPE : PySem.W.codeIn K cdPE "Pairs.empty" = true)
    (kPE : PySem.W.keepIn K (.ref fPE) = true)
    (aPL : PySem.W.findIn K (.ref CP) "letter" = some (some (.ref fPL)))
    (iPL : PySem.W.isFn K (.ref fPL) = true)
    (lPL : K.lookup fPL = some ⟨ocPL, odPL, .func (PySem.W.fnOf "letter" "Pairs.letter" (defArgs sPLetter) (defBody sPLetter) (defScope sPLetter) .none kVPL dcPL pmPL anPL cdPL ctPL), slPL⟩)
    (cPL : PySem.W.codeIn K cdPL "Pairs.letter" = true)
    (kPL : PySem.W.keepIn K (.ref fPL) = true)
    (aPJ : PySem.W.findIn K (.ref CP) "join" = some (some (.ref fPJ)))
    (iPJ : PySem.W.isFn K (.ref fPJ) = true)
    (lPJ : K.lookup fPJ = some ⟨ocPJ, odPJ, .func (PySem.W.fnOf "join" "Pairs.join" (defArgs sPJoin) (defBody sPJoin) (defScope sPJoin) .none kVPJ dcPJ pmPJ anPJ cdPJ ctPJ), slPJ⟩)
    (cPJ : PySem.W.codeIn K cdPJ "Pairs.join" = true)
    (kPJ : PySem.W.keepIn K (.ref fPJ) = true)
    (aPA : PySem.W.findIn K (.ref CP) "is_accepted" = some (some (.ref fPA)))
    (iPA : PySem.W.isFn K (.ref fPA) = true)
    (lPA : K.lookup fPA = some ⟨ocPA, odPA, .func (PySem.W.fnOf "is_accepted" "Pairs.is_accepted" (defArgs sPAcc) (defBody sPAcc) (defScope sPAcc) .none kVPA dcPA pmPA anPA cdPA ctPA), slPA⟩)
    (cPA : PySem.W.codeIn K cdPA "Pairs.is_accepted" = true)
    (kPA : PySem.W.keepIn K (.ref fPA) = true)
    (aLI : PySem.W.findIn K (.ref CL) "__init__" = some (some (.ref fLI)))
    (iLI : PySem.W.isFn K (.ref fLI) = true)
    (lLI : K.lookup fLI = some ⟨ocLI, odLI, .func (PySem.W.ksFn "__init__" "Leaders.__init__" (defArgs sLInit) (defBody sLInit) (defScope sLInit) .none kVLI dcLI pmLI anLI (.ref cdaL) ctLI ccL), slLI⟩)
    (cLI : PySem.W.codeIn K (.ref cdaL) "Leaders.__init__" = true)
    (kLI : PySem.W.keepIn K (.ref fLI) = true)
    (aLE : PySem.W.findIn K (.ref CL) "empty" = some (some (.ref fLE)))
    (iLE : PySem.W.isFn K (.ref fLE) = true)
    (lLE : K.lookup fLE = some ⟨ocLE, odLE, .func (PySem.W.fnOf "empty" "Leaders.empty" (defArgs sLEmpty) (defBody sLEmpty) (defScope sLEmpty) .none kVLE dcLE pmLE anLE cdLE ctLE), slLE⟩)
    (cLE : PySem.W.codeIn K cdLE "Leaders.empty" = true)
    (kLE : PySem.W.keepIn K (.ref fLE) = true)
    (aLL : PySem.W.findIn K (.ref CL) "letter" = some (some (.ref fLL)))
    (iLL : PySem.W.isFn K (.ref fLL) = true)
    (lLL : K.lookup fLL = some ⟨ocLL, odLL, .func (PySem.W.fnOf "letter" "Leaders.letter" (defArgs sLLetter) (defBody sLLetter) (defScope sLLetter) .none kVLL dcLL pmLL anLL cdLL ctLL), slLL⟩)
    (cLL : PySem.W.codeIn K cdLL "Leaders.letter" = true)
    (kLL : PySem.W.keepIn K (.ref fLL) = true)
    (aLJ : PySem.W.findIn K (.ref CL) "join" = some (some (.ref fLJ)))
    (iLJ : PySem.W.isFn K (.ref fLJ) = true)
    (lLJ : K.lookup fLJ = some ⟨ocLJ, odLJ, .func (PySem.W.fnOf "join" "Leaders.join" (defArgs sLJoin) (defBody sLJoin) (defScope sLJoin) .none kVLJ dcLJ pmLJ anLJ cdLJ ctLJ), slLJ⟩)
    (cLJ : PySem.W.codeIn K cdLJ "Leaders.join" = true)
    (kLJ : PySem.W.keepIn K (.ref fLJ) = true)
    (aLA : PySem.W.findIn K (.ref CL) "is_accepted" = some (some (.ref fTA)))
    (s1 : K.lookup ccL = some ⟨sc1, sd1, .cell (some (.ref CL)), ss1⟩)
    (s2 : K.lookup cdaL = some ⟨sc2, sd2, .fields svs, ss2⟩)
    (s3 : svs[2]? = some (.str sfile stf))
    (s4 : ((l.prog.main.file : Str) == sfile) = true)
    (s5 : PySem.W.clsIn K CL = some scd)
    (s6 : PySem.W.mroIn K CL (.ref CL) = some true)
    (s7 : PySem.W.nsIn K mainGlobals "super" = some none)
    (s8 : PySem.W.nsIn K cStatics "thirdparty.any" = some none)
    (s9 : PySem.W.ks_superIn K CL CL "__init__" = some (some (.ref fTI)))
    (s10 : PySem.W.typeIn K (.ref fTI) = some (.type "function"))
    (s11 : PySem.W.fnIn K fTI = true)
    (s12 : (l.prog.main.scope.names.lookup ("super" : Str)).isSome = false)
    (mN : PySem.W.nsIn K mainGlobals "MOST_VALUES" = some (some (.int 300 tk)))
    (z_range : PySem.W.nsIn K mainGlobals "range" = some none)
    (z_len : PySem.W.nsIn K mainGlobals "len" = some none)
    (z_list : PySem.W.nsIn K mainGlobals "list" = some none)
    (z_enumerate : PySem.W.nsIn K mainGlobals "enumerate" = some none)
    (z_any : PySem.W.nsIn K mainGlobals "any" = some none)
    (z_tuple : PySem.W.nsIn K mainGlobals "tuple" = some none)
    (z_sorted : PySem.W.nsIn K mainGlobals "sorted" = some none)
    (z_set : PySem.W.nsIn K mainGlobals "set" = some none)
    (z_int : PySem.W.nsIn K mainGlobals "int" = some none)
    (z_max : PySem.W.nsIn K mainGlobals "max" = some none)
    (z_min : PySem.W.nsIn K mainGlobals "min" = some none)
    (z_all : PySem.W.nsIn K mainGlobals "all" = some none)
    : LamX.LawAtS l w K CX0 8 63 "_law_script" mg fa h := by
  have e := hfa.symm.trans (PySem.W.mg_of X G a22)
  cases e
  have B : Blt mg := ⟨PySem.W.mg_none_of X G z_range, PySem.W.mg_none_of X G z_len, PySem.W.mg_none_of X G z_list, PySem.W.mg_none_of X G z_enumerate, PySem.W.mg_none_of X G z_any, PySem.W.mg_none_of X G z_tuple, PySem.W.mg_none_of X G z_sorted, PySem.W.mg_none_of X G z_set, PySem.W.mg_none_of X G z_int, PySem.W.mg_none_of X G z_max, PySem.W.mg_none_of X G z_min, PySem.W.mg_none_of X G z_all⟩
  have F0 := fun_mk (st := sCollect) l0 c0 k0
  have b0 := F0.binds (ps := ["table", "count", "most"]) fun _ _ _ _ _ _ us hl => match us, hl with | [_, _, _], _ => rfl
  have C0 : Cal K mg "collect" f0 _ ["table", "count", "most"] := ⟨PySem.W.mg_of X G a0, k0, b0⟩
  have F1 := fun_mk (st := sTabled) l1 c1 k1
  have b1 := F1.binds (ps := ["table", "count", "found"]) fun _ _ _ _ _ _ us hl => match us, hl with | [_, _, _], _ => rfl
  have C1 : Cal K mg "tabled" f1 _ ["table", "count", "found"] := ⟨PySem.W.mg_of X G a1, k1, b1⟩
  have F2 := fun_mk (st := sMade) l2 c2 k2
  have b2 := F2.binds (ps := ["table", "count"]) fun _ _ _ _ _ _ us hl => match us, hl with | [_, _], _ => rfl
  have C2 : Cal K mg "made_reader" f2 _ ["table", "count"] := ⟨PySem.W.mg_of X G a2, k2, b2⟩
  have F3 := fun_mk (st := sNumbered) l3 c3 k3
  have b3 := F3.binds (ps := ["reader"]) fun _ _ _ _ _ _ us hl => match us, hl with | [_], _ => rfl
  have C3 : Cal K mg "numbered" f3 _ ["reader"] := ⟨PySem.W.mg_of X G a3, k3, b3⟩
  have F4 := fun_mk (st := sJoint) l4 c4 k4
  have b4 := F4.binds (ps := ["kind", "first", "second"]) fun _ _ _ _ _ _ us hl => match us, hl with | [_, _, _], _ => rfl
  have C4 : Cal K mg "joint" f4 _ ["kind", "first", "second"] := ⟨PySem.W.mg_of X G a4, k4, b4⟩
  have F5 := fun_mk (st := sSplit) l5 c5 k5
  have b5 := F5.binds (ps := ["reader", "classes"]) fun _ _ _ _ _ _ us hl => match us, hl with | [_, _], _ => rfl
  have C5 : Cal K mg "split" f5 _ ["reader", "classes"] := ⟨PySem.W.mg_of X G a5, k5, b5⟩
  have F6 := fun_mk (st := sLeaders) l6 c6 k6
  have b6 := F6.binds (ps := ["reader", "keys"]) fun _ _ _ _ _ _ us hl => match us, hl with | [_, _], _ => rfl
  have C6 : Cal K mg "leaders" f6 _ ["reader", "keys"] := ⟨PySem.W.mg_of X G a6, k6, b6⟩
  have F7 := fun_mk (st := sLeast) l7 c7 k7
  have b7 := F7.binds (ps := ["reader"]) fun _ _ _ _ _ _ us hl => match us, hl with | [_], _ => rfl
  have C7 : Cal K mg "least" f7 _ ["reader"] := ⟨PySem.W.mg_of X G a7, k7, b7⟩
  have F8 := fun_mk (st := sSameWords) l8 c8 k8
  have b8 := F8.binds (ps := ["first", "second"]) fun _ _ _ _ _ _ us hl => match us, hl with | [_, _], _ => rfl
  have C8 : Cal K mg "same_words" f8 _ ["first", "second"] := ⟨PySem.W.mg_of X G a8, k8, b8⟩
  have F9 := fun_mk (st := sDraw) l9 c9 k9
  have b9 := F9.binds (ps := ["_law_state", "_law_limit"]) fun _ _ _ _ _ _ us hl => match us, hl with | [_, _], _ => rfl
  have C9 : Cal K mg "_law_draw" f9 _ ["_law_state", "_law_limit"] := ⟨PySem.W.mg_of X G a9, k9, b9⟩
  have F10 := fun_mk (st := sFunctions) l10 c10 k10
  have b10 := F10.binds (ps := ["_law_state"]) fun _ _ _ _ _ _ us hl => match us, hl with | [_], _ => rfl
  have C10 : Cal K mg "_law_functions" f10 _ ["_law_state"] := ⟨PySem.W.mg_of X G a10, k10, b10⟩
  have F11 := fun_mk (st := sProduct) l11 c11 k11
  have b11 := F11.binds (ps := ["_law_kind", "_law_count", "_law_x", "_law_y"]) fun _ _ _ _ _ _ us hl => match us, hl with | [_, _, _, _], _ => rfl
  have C11 : Cal K mg "_law_product" f11 _ ["_law_kind", "_law_count", "_law_x", "_law_y"] := ⟨PySem.W.mg_of X G a11, k11, b11⟩
  have F12 := fun_mk (st := sTable) l12 c12 k12
  have b12 := F12.binds (ps := ["_law_state"]) fun _ _ _ _ _ _ us hl => match us, hl with | [_], _ => rfl
  have C12 : Cal K mg "_law_table" f12 _ ["_law_state"] := ⟨PySem.W.mg_of X G a12, k12, b12⟩
  have F13 := fun_mk (st := sMixed) l13 c13 k13
  have b13 := F13.binds (ps := ["_law_state", "_law_count"]) fun _ _ _ _ _ _ us hl => match us, hl with | [_, _], _ => rfl
  have C13 : Cal K mg "_law_mixed" f13 _ ["_law_state", "_law_count"] := ⟨PySem.W.mg_of X G a13, k13, b13⟩
  have F14 := fun_mk (st := sReader) l14 c14 k14
  have b14 := F14.binds (ps := ["_law_state", "_law_count"]) fun _ _ _ _ _ _ us hl => match us, hl with | [_, _], _ => rfl
  have C14 : Cal K mg "_law_reader" f14 _ ["_law_state", "_law_count"] := ⟨PySem.W.mg_of X G a14, k14, b14⟩
  have F15 := fun_mk (st := sWorth) l15 c15 k15
  have b15 := F15.binds (ps := ["_law_reader_here", "_law_row"]) fun _ _ _ _ _ _ us hl => match us, hl with | [_, _], _ => rfl
  have C15 : Cal K mg "_law_worth" f15 _ ["_law_reader_here", "_law_row"] := ⟨PySem.W.mg_of X G a15, k15, b15⟩
  have F16 := fun_mk (st := sTakes) l16 c16 k16
  have b16 := F16.binds (ps := ["_law_reader_here", "_law_row"]) fun _ _ _ _ _ _ us hl => match us, hl with | [_, _], _ => rfl
  have C16 : Cal K mg "_law_takes" f16 _ ["_law_reader_here", "_law_row"] := ⟨PySem.W.mg_of X G a16, k16, b16⟩
  have F17 := fun_mk (st := sList) l17 c17 k17
  have b17 := F17.binds (ps := ["_law_reader_here", "_law_most"]) fun _ _ _ _ _ _ us hl => match us, hl with | [_, _], _ => rfl
  have C17 : Cal K mg "_law_list" f17 _ ["_law_reader_here", "_law_most"] := ⟨PySem.W.mg_of X G a17, k17, b17⟩
  have F18 := fun_mk (st := sByNumber) l18 c18 k18
  have b18 := F18.binds (ps := ["_law_reader_here", "_law_found"]) fun _ _ _ _ _ _ us hl => match us, hl with | [_, _], _ => rfl
  have C18 : Cal K mg "_law_by_number" f18 _ ["_law_reader_here", "_law_found"] := ⟨PySem.W.mg_of X G a18, k18, b18⟩
  have F19 := fun_mk (st := sLead) l19 c19 k19
  have b19 := F19.binds (ps := ["_law_reader_here"]) fun _ _ _ _ _ _ us hl => match us, hl with | [_], _ => rfl
  have C19 : Cal K mg "_law_lead" f19 _ ["_law_reader_here"] := ⟨PySem.W.mg_of X G a19, k19, b19⟩
  have F20 := fun_mk (st := sSmallest) l20 c20 k20
  have b20 := F20.binds (ps := ["_law_reader_here"]) fun _ _ _ _ _ _ us hl => match us, hl with | [_], _ => rfl
  have C20 : Cal K mg "_law_smallest" f20 _ ["_law_reader_here"] := ⟨PySem.W.mg_of X G a20, k20, b20⟩
  have F21 := fun_mk (st := sWords) l21 c21 k21
  have b21 := F21.binds (ps := ["_law_count"]) fun _ _ _ _ _ _ us hl => match us, hl with | [_], _ => rfl
  have C21 : Cal K mg "_law_words" f21 _ ["_law_count"] := ⟨PySem.W.mg_of X G a21, k21, b21⟩
  have F22 := fun_mk (st := sLaw) l22 c22 k22
  have b22 := F22.binds (ps := ["_law_script"]) fun _ _ _ _ _ _ us hl => match us, hl with | [_], _ => rfl
  have FTI := fun_mk (st := sTInit) lTI cTI kTI
  have bTI := FTI.binds (ps := ["self", "reader"]) fun _ _ _ _ _ _ us hl => match us, hl with | [_, _], _ => rfl
  have FTE := fun_mk (st := sTEmpty) lTE cTE kTE
  have bTE := FTE.binds (ps := ["self"]) fun _ _ _ _ _ _ us hl => match us, hl with | [_], _ => rfl
  have FTL := fun_mk (st := sTLetter) lTL cTL kTL
  have bTL := FTL.binds (ps := ["self", "a"]) fun _ _ _ _ _ _ us hl => match us, hl with | [_, _], _ => rfl
  have FTJ := fun_mk (st := sTJoin) lTJ cTJ kTJ
  have bTJ := FTJ.binds (ps := ["self", "x", "y"]) fun _ _ _ _ _ _ us hl => match us, hl with | [_, _, _], _ => rfl
  have FTA := fun_mk (st := sTAcc) lTA cTA kTA
  have bTA := FTA.binds (ps := ["self", "x"]) fun _ _ _ _ _ _ us hl => match us, hl with | [_, _], _ => rfl
  have FPI := fun_mk (st := sPInit) lPI cPI kPI
  have bPI := FPI.binds (ps := ["self", "kind", "first", "second"]) fun _ _ _ _ _ _ us hl => match us, hl with | [_, _, _, _], _ => rfl
  have FPE := fun_mk (st := sPEmpty) lPE cPE kPE
  have bPE := FPE.binds (ps := ["self"]) fun _ _ _ _ _ _ us hl => match us, hl with | [_], _ => rfl
  have FPL := fun_mk (st := sPLetter) lPL cPL kPL
  have bPL := FPL.binds (ps := ["self", "a"]) fun _ _ _ _ _ _ us hl => match us, hl with | [_, _], _ => rfl
  have FPJ := fun_mk (st := sPJoin) lPJ cPJ kPJ
  have bPJ := FPJ.binds (ps := ["self", "x", "y"]) fun _ _ _ _ _ _ us hl => match us, hl with | [_, _, _], _ => rfl
  have FPA := fun_mk (st := sPAcc) lPA cPA kPA
  have bPA := FPA.binds (ps := ["self", "x"]) fun _ _ _ _ _ _ us hl => match us, hl with | [_, _], _ => rfl
  have bLI : Binds K (PySem.W.ksFn "__init__" "Leaders.__init__" (defArgs sLInit) (defBody sLInit) (defScope sLInit) .none kVLI dcLI pmLI anLI (.ref cdaL) ctLI ccL) ["self", "reader", "leading"] [] := .all fun us hl => match us, hl with | [_, _, _], _ => rfl
  have FLE := fun_mk (st := sLEmpty) lLE cLE kLE
  have bLE := FLE.binds (ps := ["self"]) fun _ _ _ _ _ _ us hl => match us, hl with | [_], _ => rfl
  have FLL := fun_mk (st := sLLetter) lLL cLL kLL
  have bLL := FLL.binds (ps := ["self", "a"]) fun _ _ _ _ _ _ us hl => match us, hl with | [_, _], _ => rfl
  have FLJ := fun_mk (st := sLJoin) lLJ cLJ kLJ
  have bLJ := FLJ.binds (ps := ["self", "x", "y"]) fun _ _ _ _ _ _ us hl => match us, hl with | [_, _, _], _ => rfl
  have clCT : Cls K CT := ⟨pgCT, hdCT, poCT, saCT⟩
  have clCP : Cls K CP := ⟨pgCP, hdCP, poCP, saCP⟩
  have clCL : Cls K CL := ⟨pgCL, hdCL, poCL, saCL⟩
  have pkl : PKl K CP := ⟨clCP, nCP_kind, nCP_first, nCP_second⟩
  have lkl : LKl K CL := ⟨clCL, nCL_reader, nCL_leading⟩
  have sup : SupK l.prog K mg CL ccL cdaL fTI := ⟨⟨_, _, _, s1⟩, ⟨_, _, _, _, _, _, s2, s3, s4⟩, ⟨_, s5⟩, s6, PySem.W.mg_none_of X G s7, s8, s9, s10, s11, s12⟩
  have hT : h.get? Pt = some { cls := .none, data := .fields #[] } := own f0 (PySem.W.mg_of X G a0) cC Pt _ _ _ _ _ _ l0 rfl rfl lC vC
  have CH : PySem.W.CodeHd h cC Pt := PySem.W.codeHd_of_K X hC
  refine ⟨PySem.W.fnOf "law" "law" (defArgs sLaw) (defBody sLaw) (defScope sLaw) .none kV22 dc22 pm22 an22 cd22 ct22, [(cC, Pt)], spLaw K Pt, fun p hp => ?_, fun p hp => ?_, fun p hp => ?_, fun s u => .of_eq rfl, fun H a ns hl _ ht hS => ⟨a, ns, rfl, hS, hl, ⟨#[], ht (cC, Pt) (List.mem_singleton.mpr rfl), True.intro⟩, fun _ => rfl⟩, fun base KB GB TB => ?_⟩
  · rw [List.mem_singleton.mp hp]; exact hT
  · rw [List.mem_singleton.mp hp]; exact nC
  · rw [List.mem_singleton.mp hp]; exact CH
  have t := TB (cC, Pt) (List.mem_singleton.mpr rfl)
  have TBx : GxR.TabB base mg cC Pt := ⟨t.code, t.bm, t.gP⟩
  let T : TT l.prog w K mg base := {
    C := CT, fI := fTI, fE := fTE, fL := fTL, fJ := fTJ, fA := fTA, dI := _, dE := _, dL := _, dJ := _, dA := _, cl := clCT, nR := nCT_reader, mgC := PySem.W.mg_of X G gCT, M := ⟨mkCT, aTI, iTI, kcCT⟩,
    gI := ok_tinit FTI, bI := bTI, mE := ⟨aTE, iTE, kTE⟩, gE := ok_tempty FTE, bE := bTE, mL := ⟨aTL, iTL, kTL⟩, gL := ok_tletter FTL, bL := bTL, mJ := ⟨aTJ, iTJ, kTJ⟩, gJ := ok_tjoin FTJ, bJ := bTJ, mA := ⟨aTA, iTA, kTA⟩, gA := ok_tacc FTA, bA := bTA }
  let PP_ : PP l.prog w K mg base T := {
    C := CP, fI := fPI, fE := fPE, fL := fPL, fJ := fPJ, fA := fPA, dI := _, dE := _, dL := _, dJ := _, dA := _, k := pkl, mgC := PySem.W.mg_of X G gCP, M := ⟨mkCP, aPI, iPI, kcCP⟩,
    gI := ok_pinit T FPI pkl, bI := bPI, mE := ⟨aPE, iPE, kPE⟩, gE := ok_pempty T FPE pkl, bE := bPE, mL := ⟨aPL, iPL, kPL⟩, gL := ok_pletter T FPL pkl, bL := bPL, mJ := ⟨aPJ, iPJ, kPJ⟩, gJ := ok_pjoin T FPJ pkl, bJ := bPJ, mA := ⟨aPA, iPA, kPA⟩, gA := ok_pacc T FPA pkl, bA := bPA }
  let LL_ : LL l.prog w K mg base T := {
    C := CL, fI := fLI, fE := fLE, fL := fLL, fJ := fLJ, dI := _, dE := _, dL := _, dJ := _, k := lkl, mgC := PySem.W.mg_of X G gCL, M := ⟨mkCL, aLI, iLI, kcCL⟩,
    gI := ok_linit T lLI cLI sup lkl, bI := bLI, mE := ⟨aLE, iLE, kLE⟩, gE := ok_lempty FLE lkl, bE := bLE, mL := ⟨aLL, iLL, kLL⟩, gL := ok_lletter FLL lkl, bL := bLL, mJ := ⟨aLJ, iLJ, kLJ⟩, gJ := ok_ljoin FLJ lkl, bJ := bLJ, mA := ⟨aLA, iTA, kTA⟩ }
  have g0 : CollOk l.prog w K mg base Pt f0 _ := ⟨C0, fun kd T n N D M hn hN h3 => ok_collect l0 c0 TBx B M hn hN h3⟩
  have g1 : TabdOk l.prog w K mg base f1 _ := ⟨C1, fun kd T n D M hn => ok_tabled F1 B M hn⟩
  have g2 : MadeOk l.prog w K mg base Pt f2 _ := ⟨C2, fun kd T n N D M hn hN h3 => ok_made F2 g0 g1 (PySem.W.mg_of X G mN) M hn hN h3⟩
  have g3 := ok_numbered (base := base) (Pt := Pt) F3 B T g2
  have g4 := ok_joint (base := base) (Pt := Pt) F4 B T PP_ g2
  have g5 := ok_split (P := l.prog) (w := w) (mg := mg) (base := base) F5 B
  have g6 := ok_leaders (base := base) F6 B C5 g5
  have g7 := ok_least (base := base) F7 B T LL_ C3 g3 C6 g6 g2
  have g8 := ok_same (base := base) F8 C7 g7
  have g9 := ok_draw (P := l.prog) (w := w) (base := base) F9 B
  have g10 := ok_functions (base := base) F10 B C9 g9
  have g11 := ok_product (P := l.prog) (w := w) (base := base) F11 B
  have g12 := ok_table (base := base) F12 B C9 g9 C11 g11 C10 g10
  have g13 := ok_mixed (base := base) F13 B C9 g9
  have g14 := ok_reader (base := base) F14 B C9 g9 C13 g13 C12 g12
  have g15 := ok_worth (P := l.prog) (w := w) (mg := mg) (base := base) F15
  have g16 := ok_takes (base := base) F16 C15 g15
  have g17 := ok_list (P := l.prog) (w := w) (base := base) F17 B
  have g18 := ok_bynum (P := l.prog) (w := w) (base := base) F18 B
  have g19 := ok_lead (P := l.prog) (w := w) (base := base) F19 B
  have g20 := ok_smallest (base := base) F20 B C17 g17 C18 g18 C19 g19
  have g21 := ok_words (P := l.prog) (w := w) (base := base) F21 B
  exact ok_law F22 B C9 g9 C14 g14 C4 g4 C8 g8 C7 g7 C20 g20 C21 g21 C16 g16
/-- a def of the program at the law's call: its code object's table is empty -/
theorem table_of {q : Program} {loose : List Str} {mean : ExcName → Option Value} {mg mb : Str → Option Value} {h : Heap} {K : PySem.W.Frag} {y : Str} {fc : Addr} (T : Top q loose mean mg mb h) (inK : K.In h) (isDef : ((recsOf q).any fun e => e.name == y) = true) (at_ : mg y = some (.ref fc)) : LamX.OwnTab K fc h := by
  intro c P o fd e dd vs sl atF isF isC atC atP
  obtain ⟨def_, among, named⟩ := List.any_eq_true.mp isDef
  have table := T.tab def_ among
  rw [beq_iff_eq.mp named] at table
  obtain ⟨f2, o2, fd2, c2, P2, m1, m2, m3, m4, _, ⟨_, _, m5, _, m6, m7⟩, m8⟩ := table
  obtain rfl : f2 = fc := by rw [at_] at m1; injection m1 with m1; injection m1 with m1; exact m1.symm
  obtain rfl : o = o2 := Option.some.inj ((inK _ _ atF).symm.trans m2)
  obtain rfl : fd = fd2 := by rw [isF] at m3; injection m3
  obtain rfl : c = c2 := by rw [isC] at m4; injection m4
  have obj := Option.some.inj ((inK _ _ atC).symm.trans m5)
  subst obj
  injection m6 with m6
  subst m6
  rw [atP] at m7
  injection m7 with m7
  injection m7 with m7
  rw [m7]
  exact m8
/-- the end where a def y of the program, not the law, holds a generator expression -/
theorem walk_at {l : PySem.W.OpenLaw} {n k : Nat} {q : Program} {loose : List Str} {XP : (Str → Option Value) → Heap → Prop} {YP : World → Heap → Prop} {d : DefRec} {K : Params → PySem.W.Frag} {x : Str} (y : Str)
    (most : l.most = some n) (few : n ≤ sizeLine) (bare : d.params.defaults = []) (room : Room k callerA) (isDef : ((recsOf q).any fun e => e.name == y) = true) (inK : ∀ (w : World) (h : Heap), YP w h → (K w.params).In h)
    (F : ∀ (w : World) (mg : Str → Option Value) (fa : Addr) (h : Heap), (K w.params).In h → h.Ns mainGlobals mg → mg d.name = some (.ref fa) → (∀ fc, mg y = some (.ref fc) → LamX.OwnTab (K w.params) fc h) → LamX.LawAtS l w (K w.params) CX0 k n x mg fa h) :
    PySem.W.WalkO q loose XP YP l.row.toRowW d [] fun f vs => PySem.call f vs := by
  refine Att.attach_callB most bare ?_
  intro w _ s1 mg mb fa _ _ _ _ a vs ns G Y _ _ _ atL lst whole few2 low noGen
  have KX := inK w _ Y
  obtain ⟨fd, cs, sp, empty, away, heads, binds, sure, does⟩ := F w mg fa _ KX G.T.g atL fun fc at_ => table_of G.T KX isDef at_
  exact LamX.law_callTs KX G.T.g G.T.b G.T.builtins G.T.nolimit noGen empty away heads G.T.bmain lst whole (Nat.le_trans few2 few) room does binds (fun H hH hS => sure H a ns few2 low hH hS) fun _ _ _ z => z
end My
end

open PySem PySem.W PyProof.Rows in
set_option maxRecDepth 100000 in
set_option maxHeartbeats 0 in
theorem PySem.Challenge.cw_twoways_k12_whole_readers_of_the_same_wo_holds : PySem.Challenge.rw_twoways_k12_whole_readers_of_the_same_wo.Holds := by
  w_on; o_law; k_head; (case hw => w_witness2)
  k_fill
  refine My.walk_at (l := PySem.Challenge.rw_twoways_k12_whole_readers_of_the_same_wo) (k := 8) (n := 63) (x := "_law_script") "collect" rfl (by decide) rfl ⟨rfl, by decide, by decide⟩ (by decide +kernel) (fun w h Y => PySem.W.kIn_of Y) ?F
  case F =>
    intro w mg fa h KX G hmg own
    refine' My.all_mk KX G hmg own ?a0 ?l0 ?c0 ?k0 ?a1 ?l1 ?c1 ?k1 ?a2 ?l2 ?c2 ?k2 ?a3 ?l3 ?c3 ?k3 ?a4 ?l4 ?c4 ?k4 ?a5 ?l5 ?c5 ?k5 ?a6 ?l6 ?c6 ?k6 ?a7 ?l7 ?c7 ?k7 ?a8 ?l8 ?c8 ?k8 ?a9 ?l9 ?c9 ?k9 ?a10 ?l10 ?c10 ?k10 ?a11 ?l11 ?c11 ?k11 ?a12 ?l12 ?c12 ?k12 ?a13 ?l13 ?c13 ?k13 ?a14 ?l14 ?c14 ?k14 ?a15 ?l15 ?c15 ?k15 ?a16 ?l16 ?c16 ?k16 ?a17 ?l17 ?c17 ?k17 ?a18 ?l18 ?c18 ?k18 ?a19 ?l19 ?c19 ?k19 ?a20 ?l20 ?c20 ?k20 ?a21 ?l21 ?c21 ?k21 ?a22 ?l22 ?c22 ?k22 ?lC ?vC ?nC ?hC ?gCT ?pgCT ?hdCT ?poCT ?saCT ?mkCT ?kcCT ?nCT_reader ?gCP ?pgCP ?hdCP ?poCP ?saCP ?mkCP ?kcCP ?nCP_kind ?nCP_first ?nCP_second ?gCL ?pgCL ?hdCL ?poCL ?saCL ?mkCL ?kcCL ?nCL_reader ?nCL_leading ?aTI ?iTI ?lTI ?cTI ?kTI ?aTE ?iTE ?lTE ?cTE ?kTE ?aTL ?iTL ?lTL ?cTL ?kTL ?aTJ ?iTJ ?lTJ ?cTJ ?kTJ ?aTA ?iTA ?lTA ?cTA ?kTA ?aPI ?iPI ?lPI ?cPI ?kPI ?aPE ?iPE ?lPE ?cPE ?kPE ?aPL ?iPL ?lPL ?cPL ?kPL ?aPJ ?iPJ ?lPJ ?cPJ ?kPJ ?aPA ?iPA ?lPA ?cPA ?kPA ?aLI ?iLI ?lLI ?cLI ?kLI ?aLE ?iLE ?lLE ?cLE ?kLE ?aLL ?iLL ?lLL ?cLL ?kLL ?aLJ ?iLJ ?lLJ ?cLJ ?kLJ ?aLA ?s1 ?s2 ?s3 ?s4 ?s5 ?s6 ?s7 ?s8 ?s9 ?s10 ?s11 ?s12 ?mN ?z_range ?z_len ?z_list ?z_enumerate ?z_any ?z_tuple ?z_sorted ?z_set ?z_int ?z_max ?z_min ?z_all
    (case a0 => k_is)
    (case l0 => k_is)
    (case c0 => k_is)
    (case k0 => k_is)
    (case a1 => k_is)
    (case l1 => k_is)
    (case c1 => k_is)
    (case k1 => k_is)
    (case a2 => k_is)
    (case l2 => k_is)
    (case c2 => k_is)
    (case k2 => k_is)
    (case a3 => k_is)
    (case l3 => k_is)
    (case c3 => k_is)
    (case k3 => k_is)
    (case a4 => k_is)
    (case l4 => k_is)
    (case c4 => k_is)
    (case k4 => k_is)
    (case a5 => k_is)
    (case l5 => k_is)
    (case c5 => k_is)
    (case k5 => k_is)
    (case a6 => k_is)
    (case l6 => k_is)
    (case c6 => k_is)
    (case k6 => k_is)
    (case a7 => k_is)
    (case l7 => k_is)
    (case c7 => k_is)
    (case k7 => k_is)
    (case a8 => k_is)
    (case l8 => k_is)
    (case c8 => k_is)
    (case k8 => k_is)
    (case a9 => k_is)
    (case l9 => k_is)
    (case c9 => k_is)
    (case k9 => k_is)
    (case a10 => k_is)
    (case l10 => k_is)
    (case c10 => k_is)
    (case k10 => k_is)
    (case a11 => k_is)
    (case l11 => k_is)
    (case c11 => k_is)
    (case k11 => k_is)
    (case a12 => k_is)
    (case l12 => k_is)
    (case c12 => k_is)
    (case k12 => k_is)
    (case a13 => k_is)
    (case l13 => k_is)
    (case c13 => k_is)
    (case k13 => k_is)
    (case a14 => k_is)
    (case l14 => k_is)
    (case c14 => k_is)
    (case k14 => k_is)
    (case a15 => k_is)
    (case l15 => k_is)
    (case c15 => k_is)
    (case k15 => k_is)
    (case a16 => k_is)
    (case l16 => k_is)
    (case c16 => k_is)
    (case k16 => k_is)
    (case a17 => k_is)
    (case l17 => k_is)
    (case c17 => k_is)
    (case k17 => k_is)
    (case a18 => k_is)
    (case l18 => k_is)
    (case c18 => k_is)
    (case k18 => k_is)
    (case a19 => k_is)
    (case l19 => k_is)
    (case c19 => k_is)
    (case k19 => k_is)
    (case a20 => k_is)
    (case l20 => k_is)
    (case c20 => k_is)
    (case k20 => k_is)
    (case a21 => k_is)
    (case l21 => k_is)
    (case c21 => k_is)
    (case k21 => k_is)
    (case a22 => k_is)
    (case l22 => k_is)
    (case c22 => k_is)
    (case k22 => k_is)
    (case lC => k_is)
    (case vC => rfl)
    (case nC => kernel_rfl)
    (case hC => kernel_rfl)
    (case gCT => k_is)
    (case pgCT => k_is)
    (case hdCT => k_is)
    (case poCT => k_is)
    (case saCT => k_is)
    (case mkCT => k_is)
    (case kcCT => k_is)
    (case nCT_reader => k_is)
    (case gCP => k_is)
    (case pgCP => k_is)
    (case hdCP => k_is)
    (case poCP => k_is)
    (case saCP => k_is)
    (case mkCP => k_is)
    (case kcCP => k_is)
    (case nCP_kind => k_is)
    (case nCP_first => k_is)
    (case nCP_second => k_is)
    (case gCL => k_is)
    (case pgCL => k_is)
    (case hdCL => k_is)
    (case poCL => k_is)
    (case saCL => k_is)
    (case mkCL => k_is)
    (case kcCL => k_is)
    (case nCL_reader => k_is)
    (case nCL_leading => k_is)
    (case aTI => k_is)
    (case iTI => k_is)
    (case lTI => k_is)
    (case cTI => k_is)
    (case kTI => k_is)
    (case aTE => k_is)
    (case iTE => k_is)
    (case lTE => k_is)
    (case cTE => k_is)
    (case kTE => k_is)
    (case aTL => k_is)
    (case iTL => k_is)
    (case lTL => k_is)
    (case cTL => k_is)
    (case kTL => k_is)
    (case aTJ => k_is)
    (case iTJ => k_is)
    (case lTJ => k_is)
    (case cTJ => k_is)
    (case kTJ => k_is)
    (case aTA => k_is)
    (case iTA => k_is)
    (case lTA => k_is)
    (case cTA => k_is)
    (case kTA => k_is)
    (case aPI => k_is)
    (case iPI => k_is)
    (case lPI => k_is)
    (case cPI => k_is)
    (case kPI => k_is)
    (case aPE => k_is)
    (case iPE => k_is)
    (case lPE => k_is)
    (case cPE => k_is)
    (case kPE => k_is)
    (case aPL => k_is)
    (case iPL => k_is)
    (case lPL => k_is)
    (case cPL => k_is)
    (case kPL => k_is)
    (case aPJ => k_is)
    (case iPJ => k_is)
    (case lPJ => k_is)
    (case cPJ => k_is)
    (case kPJ => k_is)
    (case aPA => k_is)
    (case iPA => k_is)
    (case lPA => k_is)
    (case cPA => k_is)
    (case kPA => k_is)
    (case aLI => k_is)
    (case iLI => k_is)
    (case lLI => k_is)
    (case cLI => k_is)
    (case kLI => k_is)
    (case aLE => k_is)
    (case iLE => k_is)
    (case lLE => k_is)
    (case cLE => k_is)
    (case kLE => k_is)
    (case aLL => k_is)
    (case iLL => k_is)
    (case lLL => k_is)
    (case cLL => k_is)
    (case kLL => k_is)
    (case aLJ => k_is)
    (case iLJ => k_is)
    (case lLJ => k_is)
    (case cLJ => k_is)
    (case kLJ => k_is)
    (case aLA => k_is)
    (case s1 => k_is)
    (case s2 => k_is)
    (case s3 => rfl)
    (case s4 => rfl)
    (case s5 => k_is)
    (case s6 => k_is)
    (case s7 => k_is)
    (case s8 => k_is)
    (case s9 => kernel_rfl)
    (case s10 => k_is)
    (case s11 => k_is)
    (case s12 => rfl)
    (case mN => k_is)
    (case z_range => k_is)
    (case z_len => k_is)
    (case z_list => k_is)
    (case z_enumerate => k_is)
    (case z_any => k_is)
    (case z_tuple => k_is)
    (case z_sorted => k_is)
    (case z_set => k_is)
    (case z_int => k_is)
    (case z_max => k_is)
    (case z_min => k_is)
    (case z_all => k_is)
