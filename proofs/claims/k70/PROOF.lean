import PyProof.Rows.All
import Wide.All
import OpenK.AllK
import Wide.FinOn
import HandS.TupSets
import PyProof.Rows.InDataRows
import KE.GoesMore
import HandS.Exc
import HandS.ExcOwn
import HandS.ExcInit
import HandS.TryOnly
import HandS.Lambda
import HandS.Evl
import KE.KExcIs
import HandS.Codes
import HandS.ForMost
import HandS.Zip
import HandS.TupAny
import HandS.IsInst
import HandS.Walk
import HandS.Wide
import HandS.Conv
import HandS.SortInts
import HandS.Dict
import HandS.EndTab
import HandS.EndOwn
import PySem.Challenge.RW_tiewebs_k70_midst_and_whole_webs
set_option Elab.async false
set_option linter.all false
set_option maxRecDepth 100000
set_option maxHeartbeats 4000000
/-! Plain mathematics of webs: no program in sight. -/
namespace Wm
abbrev Tie := Nat × Nat
/-- lexicographic order -/
def ltT (p q : Tie) : Prop := p.1 < q.1 ∨ (p.1 = q.1 ∧ p.2 < q.2)
instance (p q : Tie) : Decidable (ltT p q) := by unfold ltT; infer_instance
theorem ltT_trans {a b c : Tie} (h : ltT a b) (k : ltT b c) : ltT a c := by
  unfold ltT at *
  omega
theorem ltT_irrefl (a : Tie) : ¬ ltT a a := by
  unfold ltT
  omega
theorem ltT_asymm {a b : Tie} (h : ltT a b) (k : ltT b a) : False := ltT_irrefl a (ltT_trans h k)
theorem ltT_ne {a b : Tie} (h : ltT a b) : a ≠ b := fun e => by
  rw [e] at h
  exact ltT_irrefl _ h
theorem ltT_total {a b : Tie} (h : a ≠ b) : ltT a b ∨ ltT b a := by
  obtain ⟨a1, a2⟩ := a
  obtain ⟨b1, b2⟩ := b
  unfold ltT
  dsimp only
  by_cases e : a1 = b1
  · by_cases e2 : a2 = b2
    · exact absurd (by rw [e, e2]) h
    · omega
  · omega

/-- n places and rising ties of two of them, the lesser one first -/
structure Wv (n : Nat) (ts : List Tie) : Prop where
  most : n ≤ 14
  ok : ∀ t ∈ ts, t.1 < t.2 ∧ t.2 < n
  up : ts.Pairwise ltT

theorem up_nodup {ts : List Tie} (h : ts.Pairwise ltT) : ts.Nodup := h.imp fun h => ltT_ne h

/-! ### all pairs a < b < N that f takes, row by row -/
def rowOf (N : Nat) (f : Nat → Nat → Bool) (a : Nat) : List Tie := ((List.range' (a + 1) (N - (a + 1))).filter (f a)).map fun b => (a, b)
def grid (N : Nat) (f : Nat → Nat → Bool) : List Tie := (List.range N).flatMap (rowOf N f)
theorem mem_rowOf {N : Nat} {f : Nat → Nat → Bool} {a : Nat} {t : Tie} : t ∈ rowOf N f a ↔ t.1 = a ∧ a < t.2 ∧ t.2 < N ∧ f a t.2 = true := by
  unfold rowOf
  simp only [List.mem_map, List.mem_filter, List.mem_range'_1]
  constructor
  · rintro ⟨b, ⟨⟨h1, h2⟩, h3⟩, rfl⟩
    exact ⟨rfl, by dsimp only; omega, by dsimp only; omega, h3⟩
  · rintro ⟨rfl, h1, h2, h3⟩
    exact ⟨t.2, ⟨⟨by omega, by omega⟩, h3⟩, rfl⟩
theorem mem_grid {N : Nat} {f : Nat → Nat → Bool} {t : Tie} : t ∈ grid N f ↔ t.1 < t.2 ∧ t.2 < N ∧ f t.1 t.2 = true := by
  unfold grid
  simp only [List.mem_flatMap, List.mem_range, mem_rowOf]
  constructor
  · rintro ⟨a, h0, rfl, h1, h2, h3⟩
    exact ⟨h1, h2, h3⟩
  · rintro ⟨h1, h2, h3⟩
    exact ⟨t.1, by omega, rfl, h1, h2, h3⟩
theorem rowOf_up (N : Nat) (f : Nat → Nat → Bool) (a : Nat) : (rowOf N f a).Pairwise ltT := by
  unfold rowOf
  rw [List.pairwise_map]
  refine List.Pairwise.imp (R := fun x y => x < y) (fun h => .inr ⟨rfl, h⟩) ?_
  exact List.Pairwise.filter _ (List.pairwise_lt_range' ..)
theorem flat_up {N : Nat} {f : Nat → Nat → Bool} : ∀ {l : List Nat}, l.Pairwise (· < ·) → (l.flatMap (rowOf N f)).Pairwise ltT
  | [], _ => by simp
  | a :: l, h => by
    rw [List.flatMap_cons, List.pairwise_append]
    have h2 := List.pairwise_cons.mp h
    refine ⟨rowOf_up N f a, flat_up h2.2, fun x hx y hy => ?_⟩
    obtain ⟨b, hb, hy⟩ := List.mem_flatMap.mp hy
    have e1 := (mem_rowOf.mp hx).1
    have e2 := (mem_rowOf.mp hy).1
    have := h2.1 b hb
    exact .inl (by omega)
theorem grid_up (N : Nat) (f : Nat → Nat → Bool) : (grid N f).Pairwise ltT := flat_up List.pairwise_lt_range
theorem grid_wv {N : Nat} (h : N ≤ 14) (f : Nat → Nat → Bool) : Wv N (grid N f) := ⟨h, fun t ht => by
  have := mem_grid.mp ht
  exact ⟨this.1, this.2.1⟩, grid_up N f⟩
theorem grid_take (N : Nat) (f : Nat → Nat → Bool) (a : Nat) (h : a < N) : ((List.range (a + 1)).flatMap (rowOf N f)) = ((List.range a).flatMap (rowOf N f)) ++ rowOf N f a := by
  rw [List.range_succ, List.flatMap_append]
  simp
theorem rowOf_len (N : Nat) (f : Nat → Nat → Bool) (a : Nat) : (rowOf N f a).length ≤ N := by
  unfold rowOf
  rw [List.length_map]
  refine Nat.le_trans (List.length_filter_le ..) ?_
  rw [List.length_range']
  omega
theorem rows_len (N : Nat) (f : Nat → Nat → Bool) : ∀ l : List Nat, (l.flatMap (rowOf N f)).length ≤ l.length * N
  | [] => by simp
  | a :: l => by
    rw [List.flatMap_cons, List.length_append, List.length_cons]
    have := rowOf_len N f a
    have := rows_len N f l
    rw [Nat.succ_mul]
    omega
theorem grid_len (N : Nat) (f : Nat → Nat → Bool) : (grid N f).length ≤ N * N := by
  have := rows_len N f (List.range N)
  rw [List.length_range] at this
  exact this

/-! ### a sorted list is one -/
theorem sorted_one {l m : List Tie} (p : l.Perm m) (h : l.Pairwise fun x y => ¬ ltT y x) (k : m.Pairwise ltT) : l = m :=
  List.Perm.eq_of_pairwise (le := fun x y => ¬ ltT y x) (fun a b _ _ h1 h2 => Classical.byContradiction fun ne => (ltT_total ne).elim h2 h1) h (k.imp fun q r => ltT_asymm q r) p
theorem perm_of {l m : List Tie} (h : l.Nodup) (k : m.Nodup) (e : ∀ t, t ∈ l ↔ t ∈ m) : l.Perm m := (List.perm_ext_iff_of_nodup h k).mpr e
/-- sorted without doubles is rising -/
theorem sorted_up {l : List Tie} (h : l.Pairwise fun x y => ¬ ltT y x) (k : l.Nodup) : l.Pairwise ltT := by
  refine List.Pairwise.imp (fun {a b} (q : ¬ ltT b a ∧ a ≠ b) => ?_) (List.Pairwise.and h k)
  rcases ltT_total q.2 with r | r
  · exact r
  · exact absurd r q.1

/-! ### the midst web's ties as the program makes them -/
def midstT (n : Nat) : Nat → List Tie → List Tie
  | _, [] => []
  | k, t :: r => (t.1, n + k) :: (t.2, n + k) :: midstT n (k + 1) r
theorem mem_midstT {n : Nat} : ∀ {ts : List Tie} {k : Nat} {x : Tie}, x ∈ midstT n k ts ↔ ∃ j t, ts[j]? = some t ∧ x.2 = n + (k + j) ∧ (x.1 = t.1 ∨ x.1 = t.2)
  | [], k, x => by simp [midstT]
  | t :: r, k, x => by
    unfold midstT
    rw [List.mem_cons, List.mem_cons, mem_midstT]
    constructor
    · rintro (rfl | rfl | ⟨j, u, h1, h2, h3⟩)
      · exact ⟨0, t, rfl, rfl, .inl rfl⟩
      · exact ⟨0, t, rfl, rfl, .inr rfl⟩
      · exact ⟨j + 1, u, by simpa using h1, by omega, h3⟩
    · rintro ⟨j, u, h1, h2, h3⟩
      cases j with
      | zero =>
        have e : t = u := by simpa using h1
        subst e
        obtain ⟨x1, x2⟩ := x
        dsimp only at h2 h3
        rcases h3 with rfl | rfl
        · left; rw [h2]; rfl
        · right; left; rw [h2]; rfl
      | succ j => exact .inr (.inr ⟨j, u, by simpa using h1, by omega, h3⟩)
theorem midstT_nodup {n : Nat} : ∀ {ts : List Tie} {k : Nat}, (∀ t ∈ ts, t.1 < t.2) → (midstT n k ts).Nodup
  | [], k, _ => by simp [midstT]
  | t :: r, k, h => by
    unfold midstT
    have h0 := h t List.mem_cons_self
    have ih := midstT_nodup (n := n) (ts := r) (k := k + 1) fun u hu => h u (List.mem_cons_of_mem _ hu)
    have far : ∀ a, (a, n + k) ∉ midstT n (k + 1) r := fun a hm => by
      obtain ⟨j, u, _, h2, _⟩ := mem_midstT.mp hm
      dsimp only at h2
      omega
    rw [List.nodup_cons, List.nodup_cons]
    refine ⟨fun hm => ?_, far _, ih⟩
    rcases List.mem_cons.mp hm with e | hm
    · injection e with e1 _
      omega
    · exact far _ hm
theorem midstT_len {n : Nat} : ∀ (ts : List Tie) (k : Nat), (midstT n k ts).length = 2 * ts.length
  | [], k => rfl
  | t :: r, k => by
    unfold midstT
    rw [List.length_cons, List.length_cons, List.length_cons, midstT_len r]
    omega
theorem midstT_snoc {n : Nat} (t : Tie) : ∀ (ts : List Tie) (k : Nat), midstT n k (ts ++ [t]) = midstT n k ts ++ [(t.1, n + (k + ts.length)), (t.2, n + (k + ts.length))]
  | [], k => by simp [midstT]
  | u :: r, k => by
    rw [List.cons_append]
    unfold midstT
    rw [midstT_snoc t r (k + 1)]
    have e : k + 1 + r.length = k + (u :: r).length := by
      rw [List.length_cons]
      omega
    rw [e]
    rfl
def meetB (t u : Tie) : Bool := (t.1 == u.1 || t.1 == u.2) || (t.2 == u.1 || t.2 == u.2)
/-- ties of a list by their numbers -/
def tieAt (ts : List Tie) (k : Nat) : Tie := ts.getD k (0, 0)
theorem tieAt_of {ts : List Tie} {k : Nat} (h : k < ts.length) : ts[k]? = some (tieAt ts k) := by
  unfold tieAt
  rw [List.getD_eq_getElem?_getD, List.getElem?_eq_getElem h]
  rfl
def meetF (ts : List Tie) (a b : Nat) : Bool := meetB (tieAt ts a) (tieAt ts b)
/-- the tie web's ties -/
def madeT (ts : List Tie) : List Tie := grid ts.length (meetF ts)
/-- what the law asks of two places -/
def goesF (n : Nat) (ts : List Tie) (whole : Bool) (a b : Nat) : Bool :=
  if b < n then whole && decide ((a, b) ∈ ts) else if a < n then (a == (tieAt ts (b - n)).1 || a == (tieAt ts (b - n)).2) else whole && meetF ts (a - n) (b - n)
def dueT (n : Nat) (ts : List Tie) (whole : Bool) : List Tie := grid (n + ts.length) (goesF n ts whole)
def shiftT (n : Nat) (ts : List Tie) : List Tie := ts.map fun t => (n + t.1, n + t.2)
theorem mem_shiftT {n : Nat} {ts : List Tie} {x : Tie} : x ∈ shiftT n ts ↔ n ≤ x.1 ∧ n ≤ x.2 ∧ (x.1 - n, x.2 - n) ∈ ts := by
  unfold shiftT
  rw [List.mem_map]
  constructor
  · rintro ⟨t, ht, rfl⟩
    refine ⟨Nat.le_add_right .., Nat.le_add_right .., ?_⟩
    dsimp only
    rw [Nat.add_sub_cancel_left, Nat.add_sub_cancel_left]
    exact ht
  · rintro ⟨h1, h2, h3⟩
    refine ⟨_, h3, ?_⟩
    obtain ⟨x1, x2⟩ := x
    dsimp only at *
    rw [show n + (x1 - n) = x1 by omega, show n + (x2 - n) = x2 by omega]
theorem shiftT_nodup {n : Nat} {ts : List Tie} (h : ts.Nodup) : (shiftT n ts).Nodup := by
  unfold shiftT
  refine List.Pairwise.map _ (fun a b hab e => hab ?_) h
  obtain ⟨a1, a2⟩ := a
  obtain ⟨b1, b2⟩ := b
  dsimp only at e
  injection e with e1 e2
  rw [show a1 = b1 by omega, show a2 = b2 by omega]
/-- a midst tie, told by its greater place -/
theorem mem_mid {n : Nat} {ts : List Tie} {x : Tie} : x ∈ midstT n 0 ts ↔ n ≤ x.2 ∧ x.2 < n + ts.length ∧ (x.1 = (tieAt ts (x.2 - n)).1 ∨ x.1 = (tieAt ts (x.2 - n)).2) := by
  rw [mem_midstT]
  constructor
  · rintro ⟨j, t, h1, h2, h3⟩
    obtain ⟨hj, _⟩ := List.getElem?_eq_some_iff.mp h1
    have e : x.2 - n = j := by omega
    have et : tieAt ts j = t := Option.some.inj ((tieAt_of hj).symm.trans h1)
    rw [e, et]
    exact ⟨by omega, by omega, h3⟩
  · rintro ⟨h1, h2, h3⟩
    exact ⟨x.2 - n, _, tieAt_of (by omega), by omega, h3⟩
theorem tieAt_mem {ts : List Tie} {k : Nat} (h : k < ts.length) : tieAt ts k ∈ ts := List.mem_of_getElem? (tieAt_of h)
theorem midst_perm {n : Nat} {ts : List Tie} (W : Wv n ts) : (midstT n 0 ts).Perm (dueT n ts false) := by
  refine perm_of (midstT_nodup fun t ht => (W.ok t ht).1) (up_nodup (grid_up ..)) fun x => ?_
  rw [mem_mid]
  unfold dueT
  rw [mem_grid]
  unfold goesF
  constructor
  · rintro ⟨h1, h2, h3⟩
    have q := W.ok _ (tieAt_mem (ts := ts) (k := x.2 - n) (by omega))
    rw [if_neg (by omega), if_pos (by omega)]
    refine ⟨by omega, h2, ?_⟩
    simp only [Bool.or_eq_true, beq_iff_eq]
    exact h3
  · rintro ⟨h1, h2, h3⟩
    by_cases hb : x.2 < n
    · rw [if_pos hb] at h3
      simp at h3
    · rw [if_neg hb] at h3
      by_cases ha : x.1 < n
      · rw [if_pos ha] at h3
        simp only [Bool.or_eq_true, beq_iff_eq] at h3
        exact ⟨by omega, h2, h3⟩
      · rw [if_neg ha] at h3
        simp at h3
def wholeT (n : Nat) (ts : List Tie) : List Tie := ts ++ midstT n 0 ts ++ shiftT n (madeT ts)
theorem whole_perm {n : Nat} {ts : List Tie} (W : Wv n ts) : (wholeT n ts).Perm (dueT n ts true) := by
  have mid_lt : ∀ x, x ∈ midstT n 0 ts → n ≤ x.2 ∧ x.1 < n := fun x hx => by
    obtain ⟨h1, h2, h3⟩ := mem_mid.mp hx
    have q := W.ok _ (tieAt_mem (ts := ts) (k := x.2 - n) (by omega))
    exact ⟨h1, by omega⟩
  have nd : (wholeT n ts).Nodup := by
    unfold wholeT
    rw [List.nodup_append, List.nodup_append]
    refine ⟨⟨up_nodup W.up, midstT_nodup fun t ht => (W.ok t ht).1, fun x hx y hy e => ?_⟩, shiftT_nodup (up_nodup (grid_up ..)), fun x hx y hy e => ?_⟩
    · have := W.ok x hx
      have := mid_lt y hy
      rw [e] at *
      omega
    · have h2 := mem_shiftT.mp hy
      rcases List.mem_append.mp hx with hx | hx
      · have := W.ok x hx
        rw [e] at *
        omega
      · have := mid_lt x hx
        rw [e] at *
        omega
  refine perm_of nd (up_nodup (grid_up ..)) fun x => ?_
  unfold dueT wholeT
  rw [mem_grid, List.mem_append, List.mem_append, mem_mid, mem_shiftT]
  unfold madeT goesF
  rw [mem_grid]
  constructor
  · rintro ((h | ⟨h1, h2, h3⟩) | ⟨h1, h2, h3, h4, h5⟩)
    · have q := W.ok x h
      rw [if_pos q.2]
      refine ⟨q.1, by omega, ?_⟩
      simp only [Bool.true_and, decide_eq_true_eq]
      exact h
    · have q := W.ok _ (tieAt_mem (ts := ts) (k := x.2 - n) (by omega))
      rw [if_neg (by omega), if_pos (by omega)]
      refine ⟨by omega, h2, ?_⟩
      simp only [Bool.or_eq_true, beq_iff_eq]
      exact h3
    · dsimp only at h3 h4 h5
      rw [if_neg (by omega), if_neg (by omega)]
      exact ⟨by omega, by omega, h5⟩
  · rintro ⟨h1, h2, h3⟩
    by_cases hb : x.2 < n
    · rw [if_pos hb] at h3
      simp only [Bool.true_and, decide_eq_true_eq] at h3
      exact .inl (.inl h3)
    · rw [if_neg hb] at h3
      by_cases ha : x.1 < n
      · rw [if_pos ha] at h3
        simp only [Bool.or_eq_true, beq_iff_eq] at h3
        exact .inl (.inr ⟨by omega, h2, h3⟩)
      · rw [if_neg ha] at h3
        exact .inr ⟨by omega, by omega, by dsimp only; omega, by dsimp only; omega, h3⟩
theorem midst_sorted {n : Nat} {ts l : List Tie} (W : Wv n ts) (p : l.Perm (midstT n 0 ts)) (h : l.Pairwise fun x y => ¬ ltT y x) : l = dueT n ts false := sorted_one (p.trans (midst_perm W)) h (grid_up ..)
theorem whole_sorted {n : Nat} {ts l : List Tie} (W : Wv n ts) (p : l.Perm (wholeT n ts)) (h : l.Pairwise fun x y => ¬ ltT y x) : l = dueT n ts true := sorted_one (p.trans (whole_perm W)) h (grid_up ..)
/-! ### sizes -/
theorem up_len {n : Nat} {ts : List Tie} (W : Wv n ts) : ts.length ≤ (grid n fun _ _ => true).length := by
  refine List.Nodup.length_le_of_subset (up_nodup W.up) fun t ht => ?_
  have := W.ok t ht
  exact mem_grid.mpr ⟨this.1, this.2, rfl⟩
theorem few_grid : ∀ n, n ≤ 14 → (grid n fun _ _ => true).length ≤ 91 ∧ (n ≤ 4 → (grid n fun _ _ => true).length ≤ 6) := by decide
theorem up_len91 {n : Nat} {ts : List Tie} (W : Wv n ts) : ts.length ≤ 91 := Nat.le_trans (up_len W) (few_grid n W.most).1
theorem fit_nine {n : Nat} {ts : List Tie} (W : Wv n ts) (h : n + ts.length ≤ 14) : ts.length ≤ 9 := by
  have h1 := up_len W
  have h2 := (few_grid n W.most).2
  by_cases q : n ≤ 4
  · have := h2 q
    omega
  · omega
theorem made_le {ts : List Tie} : (madeT ts).length ≤ (grid ts.length fun _ _ => true).length := by
  refine List.Nodup.length_le_of_subset (up_nodup (grid_up ..)) fun t ht => ?_
  have := mem_grid.mp ht
  exact mem_grid.mpr ⟨this.1, this.2.1, rfl⟩
theorem nine_grid : ∀ n, n ≤ 9 → (grid n fun _ _ => true).length ≤ 36 := by decide
theorem whole_few {n : Nat} {ts : List Tie} (W : Wv n ts) (h : n + ts.length ≤ 14) : (wholeT n ts).length < 64 := by
  have h9 := fit_nine W h
  have h1 := made_le (ts := ts)
  have h2 := nine_grid ts.length h9
  unfold wholeT
  rw [List.length_append, List.length_append, midstT_len]
  unfold shiftT
  rw [List.length_map]
  omega
end Wm
/-! rules: enumerate of a tuple -/
namespace Wb
open PySem PySem.Spec PyProof.Rows L2
open AutoSeq1 (wpAny_loadPart')

theorem meets_enumT (l : Addr) (items : Array Value) (n : Nat) (dct : Option Addr) (sl : Array (Option Value)) :
    Meets (Builtin.«enumerate.__new__» ⟨[.type "enumerate", .ref l], []⟩) (fun _ R s => s.heap.get? l = some { cls := .type "tuple", dict := dct, data := .seq items n, slots := sl } ∧
      R (.ok (.ret (.ref (s.heap.push { cls := .type "tuple_iterator", data := .fields #[.ref l, .int 0 0] }).objs.size)))
        { s with heap := (s.heap.push { cls := .type "tuple_iterator", data := .fields #[.ref l, .int 0 0] }).push { cls := .type "enumerate", data := .fields #[.none, .bool false, .ref s.heap.objs.size, rawInt 0, .none, .none] } }) :=
  .of_wp fun prog w A R s h => by
    obtain ⟨hp, g, d, tk, os⟩ := s
    obtain ⟨hl, h⟩ := h
    have hsub := sub_enumerate
    have hT : Heap.IsTuple (Shared.heap ⟨hp, g, d, tk, os⟩) l items := ⟨_, hl, rfl, n, rfl⟩
    wp_walk using wpAny_loadPart' hl
    refine wpAny_stack_any fun st => wpAny_pure ?_
    split
    · rename_i c _ _ _ _ _
      cases (c == Value.type "enumerate")
      · wp_walk using wpAny_loadPart' hl, wpAny_pyIter_tuple hT
        exact ⟨_, rfl, h⟩
      · wp_walk using wpAny_loadPart' hl, wpAny_pyIter_tuple hT
        exact ⟨_, rfl, h⟩
    · wp_walk using wpAny_loadPart' hl, wpAny_pyIter_tuple hT
      exact ⟨_, rfl, h⟩
theorem call_enumT {prog : Program} {w : World} {A : Around} {E : Value → Shared → Prop} {s : Shared} {l : Addr} {items : Array Value} {Q : Value → Shared → Prop} (hL : s.heap.IsTuple l items)
    (h : ∀ h', IsEnum h' (s.heap.objs.size + 1) s.heap.objs.size 0 .none → h'.IsTupleIter s.heap.objs.size l 0 → h'.objs.size = s.heap.objs.size + 2 →
      (∀ b o, s.heap.get? b = some o → h'.get? b = some o) → Q (.ref (s.heap.objs.size + 1)) { s with heap := h' }) :
    wpAny (model prog w) A (call (.type "enumerate") [.ref l]) Q E s := by
  obtain ⟨⟨c, dct, dt, sl⟩, hl, hc, n, hd⟩ := hL
  replace hc : c = .type "tuple" := hc
  replace hd : dt = .seq items n := hd
  subst hc hd
  refine callType_new F.called_enumerate (by decide) (F.typeCall_enumerate_1 _) (F.newCall_enumerate_1 _) (fun obj => F.args_object_init_2 obj _) F.entry_enumerate_new
    (meets_enumT l items n dct sl) ⟨hl, ?_⟩
  have hz : (s.heap.push { cls := .type "tuple_iterator", data := .fields #[.ref l, .int 0 0] }).objs.size = s.heap.objs.size + 1 := Heap.size_push ..
  show _ ∧ _
  rw [hz]
  have he : IsEnum ((s.heap.push { cls := .type "tuple_iterator", data := .fields #[.ref l, .int 0 0] }).push
      { cls := .type "enumerate", data := .fields #[.none, .bool false, .ref s.heap.objs.size, rawInt 0, .none, .none] }) (s.heap.objs.size + 1) s.heap.objs.size 0 .none := by
    have q := Heap.get?_push_size (s.heap.push { cls := .type "tuple_iterator", data := .fields #[.ref l, .int 0 0] })
      (o := { cls := .type "enumerate", data := .fields #[.none, .bool false, .ref s.heap.objs.size, rawInt 0, .none, .none] }) rfl
    rw [hz] at q
    exact q
  refine ⟨⟨_, he, rfl⟩, h _ he ⟨_, Heap.get?_push_of_some _ (Heap.get?_push_size _ rfl), rfl, rfl⟩ (by rw [Heap.size_push, hz]) fun b o x => Heap.get?_push_of_some _ (Heap.get?_push_of_some _ x)⟩

/-- the tuple at a, each item in a new pair with its number -/
def IteT (K : PySem.W.Frag) (a : Addr) : It :=
  ⟨fun i H => ∃ (xs : List V) (x : V), SqT K H a xs ∧ xs[i]? = some x, fun i H v H' => ∃ T x, v = .ref T ∧ H T = none ∧ H' = upd H T (.tup [.int (i : Nat), x]) ∧ ∀ xs, SqT K H a xs → xs[i]? = some x, fun i H => ∃ xs : List V, SqT K H a xs ∧ xs.length = i⟩
theorem turn_enumT {P : Program} {w : World} {K : PySem.W.Frag} {elts : List Expr} {kk : Nat} {tpos : Pos} (a e it : Addr) (hai : a ≠ it) :
    Turn P w K (.Tuple elts kk tpos) (IteT K a) [e, it] e (fun i h => (∃ old, IsEnum h e it ((i : Nat) : Int) old) ∧ h.IsTupleIter it a i ∧ e ≠ it ∧ e ≠ a) where
  mem := by simp
  obj := fun i h st b hb => by
    obtain ⟨⟨old, he⟩, ⟨o, ho, hc, hd⟩, _⟩ := st
    have e' : b = e ∨ b = it := by simpa using hb
    rcases e' with z | z
    · rw [z]; exact ⟨_, he, fun v q => nomatch q⟩
    · rw [z]; exact ⟨o, ho, fun v q => by rw [hd] at q; cases q⟩
  keep := fun i h h' st k => let ⟨⟨old, he⟩, hi, hne⟩ := st; ⟨⟨old, k e (by simp) _ he⟩, hi.at fun o q => k it (by simp) o q, hne⟩
  item := by
    intro X hP hw hK hc i pins s σ H E I hf st hg
    subst hP hw hK
    obtain ⟨⟨old, he⟩, hit, hne, hea⟩ := st
    obtain ⟨xs, x, hq, hx⟩ := hg
    obtain ⟨its, rv, p, hz⟩ := I.tuple hq
    obtain ⟨u, hu, ru⟩ := rv.get hx
    have hel : e < s.heap.objs.size := Heap.lt_size he
    have hil : it < s.heap.objs.size := by obtain ⟨_, q, _⟩ := hit; exact Heap.lt_size q
    have hlt : i < its.toArray.size := by
      rw [List.size_toArray]
      exact (List.getElem?_eq_some_iff.mp hu).1
    have D := Draws.tuple (prog := X.prog) (w := X.w) (A := X.A.in1) (I.ok.hd hc) it a hai its.toArray
    refine wpAny_pyNext_enum_itemD D he ⟨hit, p⟩ hlt hne (by simp [hne, hea]) fun x' h' tk hx' ho hit' hT hsz hk => ?_
    have ex : x' = u := by
      have q : its[i]? = some x' := by simpa using hx'
      rw [hu] at q
      exact (Option.some.inj q).symm
    subst ex
    refine ⟨_, rfl, wpAny_letOwnedTupleGo_enum (s := { s with heap := h', toks := tk + 1 }) ho fun h'' he' sb => ?_⟩
    have hT2 : h''.get? s.heap.objs.size = some { cls := .type "tuple", data := .seq #[.int i tk, x'] } := (sb.2 _ (Nat.ne_of_gt hel)).trans hT
    have new : ObjOk X.prog X.w (upd H s.heap.objs.size (.tup [.int (i : Nat), x])) h'' s.heap.objs.size (.tup [.int (i : Nat), x]) :=
      ⟨by show 2 ≤ sizeLine; decide, [.int i tk, x'], .cons ⟨_, rfl⟩ (.cons ru .nil), ⟨_, hT2, rfl, _, rfl⟩⟩
    have I1 : Inv X pins σ (upd H s.heap.objs.size (.tup [.int (i : Nat), x])) { s with heap := h'', toks := tk + 1 } :=
      I.turnedNew (ch := [e, it]) (fun b ob hb q => (sb.2 b (fun z => hb (by simp [z]))).trans (hk b ob (fun z => hb (by simp [z])) (fun z => hb (by simp [z])) q)) hf (Nat.le_refl _) new
    refine ⟨.ref s.heap.objs.size, _, I1, rfl, ⟨_, x, rfl, I.hok.fresh (Nat.le_refl _), rfl, fun ys hy => by rw [I.tuple_inj hy hq]; exact hx⟩, ⟨⟨x', ?_⟩, hit'.1.at fun o q => (sb.2 it (Ne.symm hne)).trans q, hne, hea⟩, fun b hb => ?_⟩
    · have e1 : ((i + 1 : Nat) : Int) = (i : Int) + 1 := by omega
      rw [e1]; exact he'
    · have hb' : b < s.heap.objs.size := by
        have e' : b = e ∨ b = it := by simpa using hb
        rcases e' with z | z
        · rw [z]; exact hel
        · rw [z]; exact hil
      rw [upd_ne (Nat.ne_of_lt hb')]
      exact (hf b hb).1
  done := by
    intro X hP hw hK hc i pins s σ H E I hf st hg
    subst hP hw hK
    obtain ⟨⟨old, he⟩, hit, hne, hea⟩ := st
    obtain ⟨xs, hq, hx⟩ := hg
    obtain ⟨its, rv, p, hz⟩ := I.tuple hq
    obtain ⟨f0, f1, f2, f3, f4, f5⟩ := hf it (by simp)
    have hl := rv.length
    have en : its.toArray.size = i := by
      rw [List.size_toArray]
      omega
    have D := Draws.tuple (prog := X.prog) (w := X.w) (A := X.A.in1) (I.ok.hd hc) it a hai its.toArray
    exact wpAny_pyNext_enum_endD D he (by rw [en]; exact ⟨hit, p⟩) fun h' eb => ⟨rfl, I.turned (t' := s.toks) (fun b o hb q => eb b o hb q) f0 f1 f3 f4 f5⟩
  self := fun A i s Q E st h => let ⟨⟨_, he⟩, _⟩ := st; wpAny_pyIter_enum he h
def iEnumT (K : PySem.W.Frag) (ta : TA) : TI := fun σ H R => ta σ H fun vs H1 => ∃ a xs, vs = [.ref a] ∧ SqT K H1 a xs ∧ R (IteT K a) H1
/-- for k, x in enumerate(t), t a tuple -/
theorem pi_enumT {X : Cx} {e : Expr} {ta : TA} {p pos tpos : Pos} {elts : List Expr} {kk : Nat} (hg : Gl X "enumerate") (hm : X.mg "enumerate" = none) (ha : PA X [e] ta) (hs : starEach [e] X.env = [(false, eval e X.env)] := by rfl) :
    PI X (.Tuple elts kk tpos) (.Call (.Name "enumerate" p) [e] [] pos) (iEnumT X.K ta) := by
  refine ⟨fun pins s σ H R I h => ?_⟩
  refine Call_ (ld_blt I hg hm boot_enumerate (PyProof.Rows.callWith_type1 (thn (ha.run pos pins s σ H _ I h) fun us s1 ⟨vs, H1, I1, r1, q1⟩ => ?_) hs rfl))
  obtain ⟨a, xs, ex, hq, q⟩ := q1
  subst ex
  cases r1 with
  | cons r rr =>
    cases rr
    cases r
    obtain ⟨its, rv, p', hz⟩ := I1.tuple hq
    have hal : a < s1.heap.objs.size := p'.lt
    refine call_enumT (show s1.heap.IsTuple a its.toArray from p') fun h' he hit hsz hk => wpAny_pyIter_enum he ?_
    have I2 : Inv X pins σ H1 { s1 with heap := h' } := I1.kept (t' := s1.toks) hk
    refine ⟨s1.heap.objs.size + 1, [s1.heap.objs.size + 1, s1.heap.objs.size], _, _, H1, rfl, I2, turn_enumT a (s1.heap.objs.size + 1) s1.heap.objs.size (Nat.ne_of_lt hal), ⟨⟨.none, he⟩, hit, Nat.succ_ne_self _, Nat.ne_of_gt (Nat.lt_succ_of_lt hal)⟩, fun b hb => ?_, q⟩
    have e' : b = s1.heap.objs.size + 1 ∨ b = s1.heap.objs.size := by simpa using hb
    have hle : s1.heap.objs.size ≤ b := by
      rcases e' with z | z
      · rw [z]; exact Nat.le_add_right _ _
      · rw [z]; exact Nat.le_refl _
    exact I1.fpOk hle (I1.hok.fresh hle)
/-- x in t, t a tuple of data of any depth -/
def rInDT (K : PySem.W.Frag) : R2 := fun x y H Q => ∃ d ds, Dp K H x d ∧ Dp K H y (.tuple ds) ∧ SeqAt.shaped d = true ∧ SeqAt.shaped (.tuple ds) = true ∧ Q (.bl (ds.any fun z => PyData.eqv z d)) H
theorem op_inDT {X : Cx} (hu : X.A.units + 65 < cLine) : OpR X (compareOp .In) (rInDT X.K) := by
  intro pins s σ H x y v u Q I rx ry h
  obtain ⟨d, ds, hd, he, sd, se, q⟩ := h
  obtain ⟨as, r1⟩ := Dp.reads I d x v hd rx
  obtain ⟨bs, r2⟩ := Dp.reads I (.tuple ds) y u he ry
  exact SeqAt.in_tuple_reads r2 r1 (SeqAt.canLay_of_shaped se) (SeqAt.canLay_of_shaped sd) (room_in_shaped sd hu) ⟨.bl _, H, I, rfl, q⟩
end Wb
/-! an exception that is kept behind its except suite -/
namespace Wb
open PySem PySem.Spec PyProof.Rows L2
/-- an exception object of the class cls at a, its dict at d -/
def ExcK (a : Addr) (cls : Value) (d : Option Addr) : HO := .ext fun h => ∃ oe vs, h.get? a = some oe ∧ Zc cls d oe ∧ oe.data = .fields vs
theorem excK_ok {P : Program} {w : World} {H : Hp} {h : Heap} {a : Addr} {cls : Value} {d : Option Addr} {oe : Obj} {vs : Array Value} (e : h.get? a = some oe) (z : Zc cls d oe) (dd : oe.data = .fields vs) : ObjOk P w H h a (ExcK a cls d) :=
  ⟨⟨oe, vs, e, z, dd⟩, ⟨oe, e⟩, fun _ _ ⟨o, v, q, r⟩ k => ⟨o, v, k o q, r⟩⟩
section
variable {X : Cx} {pins : List (Addr × Obj)} {σ : L2.St} {H : Hp} {s : Shared}
/-- from now on it is tracked -/
theorem Inv_keep {a : Addr} {cls : Value} {d : Option Addr} {oe : Obj} {vs : Array Value} (I : Inv X pins σ H s) (hn : H a = none) (ha : s.heap.get? a = some oe) (hz : Zc cls d oe) (hd : oe.data = .fields vs)
    (h0 : X.s_0.heap.get? a = none) (hL : a ≠ X.env.locals) (hp : ∀ p ∈ X.pn ++ pins, p.1 ≠ a) : Inv X pins σ (upd H a (ExcK a cls d)) s := by
  have ne0 : ∀ b o, X.s_0.heap.get? b = some o → b ≠ a := fun b o e z => by
    rw [z, h0] at e
    cases e
  have nc : ∀ x c, X.env.cells.lookup x = some c → c ≠ a := fun x c e z => by
    obtain ⟨v, o, ho, hdd⟩ := I.cell x c e
    rw [z, ha] at ho
    cases ho
    rw [hd] at hdd
    cases hdd
  refine ⟨I.ok, I.os, I.bare, ⟨I.base.keep, I.base.slot, fun b o e n hx => ?_, I.base.there, fun b xs e => ?_, fun b o xs e => ?_, fun b ps e => ?_⟩, I.loc, I.cell, ?_, fun x c e => ?_, fun p hpp => ?_, fun b o e => ?_, I.len⟩
  · rw [upd_ne (ne0 b o e)]
    exact I.base.free b o e n hx
  · have z := I.base.tups b xs e
    rw [upd_ne (ne_of_none z hn)]
    exact z
  · have z := I.base.frzs b o xs e
    rw [upd_ne (ne_of_none z hn)]
    exact z
  · obtain ⟨m, z⟩ := I.base.tbls b ps e
    exact ⟨m, by rw [upd_ne (ne_of_none z hn)]; exact z⟩
  · rw [upd_ne (Ne.symm hL)]
    exact I.free
  · rw [upd_ne (nc x c e)]
    exact I.freeC x c e
  · obtain ⟨e, n, r⟩ := I.pin p hpp
    exact ⟨e, by rw [upd_ne (hp p hpp)]; exact n, r⟩
  · by_cases hb : b = a
    · subst hb
      rw [upd_same] at e
      cases e
      exact excK_ok ha hz hd
    · rw [upd_ne hb] at e
      exact (I.hok b o e).stay (fun _ _ _ q => q) (fun c q => by rw [upd_ne (ne_of_none q hn)]; exact q) fun c xs q => by rw [upd_ne (ne_of_none q hn)]; exact q
end
/-- what 'except x as n: m = n' wishes of an exception of the body: slot i is n's, slot j is m's; behind it the exception is tracked -/
def wKeep (K : PySem.W.Frag) (c : Value) (i j : Nat) (Wout : WX) (D : Ends) : WX := fun cls d σ H =>
  ∃ b, PySem.W.exmOne K cls c = some b ∧ (b = true → ∀ a, H a = none → D.nx (((σ.set i (some (.ref a))).set j (some (.ref a))).set i none) (upd H a (ExcK a cls d))) ∧ (b = false → Wout cls d σ H)
section
variable {X : Cx} {x n m : Str} {c : Value} {i j : Nat} {body : List Stmt} {np pos pos' q1 q2 q3 : Pos} {tb : WX → TS} {Wout : WX}
theorem ps_try_keep (hex : X.ex = []) (hs : X.stack = X.env :: X.outer) (hf : X.env.frame = some X.env.locals) (hN : X.N.Nodup) (hi : X.N[i]? = some n) (hln : X.env.kindOf n = some .local) (hj : X.N[j]? = some m) (hlm : X.env.kindOf m = some .local) (hij : i < X.N.length) (hc : Names X x c) (tk : Takes X Wout)
    (hb : ∀ (W : WX) (pn : List (Addr × Obj)) (xe : Value → Shared → Prop), Takes (X.tr pn xe) W → PassesOwn (model X.prog X.w) X.A X.env xe → PSs (X.tr pn xe) body (tb W)) (hdn : (n == ("__debug__" : Str)) = false := by decide) (hcn : (n == ("__classdict__" : Str)) = false := by decide)
    (hsw : swapsWith (.Name n q2) (some (.Name m q1)) q3.line X.env = pure false := by rfl) :
    PS X (.Try body [.ExceptHandler (some (.Name x np)) (some n) [.Assign [.Name m q1] (.Name n q2) q3] pos'] [] [] pos) (fun D σ H => tb (wKeep X.K c i j Wout D) D σ H) := by
  refine ⟨fun pins s σ H D I h => ?_⟩
  have ok := I.ok
  have hfr : X.A.frames = some (X.env :: X.outer) := by rw [ok.frames, hs]
  have hloc : Loc X.env.scope n := .inl hln
  refine wpAny_Try_except ?_
  refine wpAny_mono ((hb (wKeep X.K c i j Wout D) (X.pn ++ pins) (fun e s₁ => wpAny (model X.prog X.w) X.A (noteFrame e X.env) (fun _ s₂ => wpAny (model X.prog X.w) X.A (setFlight e none) (fun _ s₃ =>
    wpAny (model X.prog X.w) X.A (handleBy e X.env [.ExceptHandler (some (.Name x np)) (some n) [.Assign [.Name m q1] (.Name n q2) q3] pos']) (SP X pins D) X.xe s₃) X.xe s₂) X.xe s₁) (fun u s' xx => ?_) PassesOwn.looking).run [] s σ H D (I.toTry _) h) (fun f s1 hsp => ?_) (fun e s1 he => he)
  · obtain ⟨a, B, sI, pins', σ', H', cls, d, rfl, J', nb, up, sky, na, os, ag, b, hb1, hyes, hno⟩ := xx
    have J : Inv X pins σ' H' sI := J'.ofTry ok
    have sky' : Sky B (X.env :: X.outer) a (Zc cls d) X.env.locals s'.heap := by
      rw [← hs]
      exact sky
    show wpAny (model X.prog X.w) X.A (noteFrame (.ref a) X.env) _ _ _
    refine Sky.land Zc.steady hfr hf sky' fun h3 fl3 up3 => ?_
    have J3 : Inv X pins σ' H' { s' with heap := h3 } := J.landed nb fl3.1 (up.trans up3) os ag
    obtain ⟨oe3, vs3, he3, hz3, hd3⟩ := fl3.there
    have notFr : ∀ {h : Heap} {o : Obj} {vs : Array Value}, h.FunFrames B (X.env :: X.outer) → h.get? a = some o → o.data = .fields vs → a ∉ frs (X.env :: X.outer) := fun {h o vs} ff e dd hm => by
      obtain ⟨_, o', e', hnf⟩ := ff.mem hm
      rw [e] at e'
      cases e'
      exact hnf _ dd
    have nfr := notFr fl3.2.2.1 he3 hd3
    have nL : a ≠ X.env.locals := fun z => nfr (List.mem_filterMap.mpr ⟨X.env, List.mem_cons_self, by rw [hf, z]⟩)
    have nF : a ∉ X.fs := fun hm => by
      obtain ⟨e, he, q⟩ := List.mem_filterMap.mp hm
      exact nfr (List.mem_filterMap.mpr ⟨e, List.mem_cons_of_mem _ he, q⟩)
    -- it is new to the state at the raise, so to the entry, and no pin
    have newI : sI.heap.get? a = none := by
      cases q : sI.heap.get? a with
      | none => rfl
      | some o =>
        have z := nb a o q (by rw [hs]; exact nfr)
        rw [fl3.2.1] at z
        cases z
    have new0 : X.s_0.heap.get? a = none := by
      cases q : X.s_0.heap.get? a with
      | none => rfl
      | some o =>
        obtain ⟨o', z⟩ := J.base.there a o q (by rw [hex]; exact fun z => nomatch z)
        rw [newI] at z
        cases z
    have newP : ∀ p ∈ X.pn ++ pins, p.1 ≠ a := fun p hp z => by
      obtain ⟨e, _⟩ := J.pin p hp
      rw [z, newI] at e
      cases e
    have S3 := J3.suite he3 hd3 na nL nF
    refine wpAny_handleBy_cons (codeAny_handlers_test ?_) (by intro q; cases q)
    have LT : PySem.W.Looks (model X.prog X.w) h3 (typeOf (.ref a)) cls := fun A Q E s k q => wpAny_typeOf_ref (k _ _ he3) (by rw [hz3.1]; exact q)
    have LM := PySem.W.exm_one (M := model X.prog X.w) (J3.kIn) LT hb1
    have test : ∀ {Q : Value → Shared → Prop} {E : Value → Shared → Prop}, Q c { s' with heap := h3 } → wpAny (model X.prog X.w) (X.A.mark (some (.ref a))) (eval (.Name x np) X.env) Q E { s' with heap := h3 } := fun {Q E} q => by
      obtain ⟨hg, hdbg, hm | ⟨hm, hv, hnn⟩⟩ := hc
      · exact ld_glob (X := X.suite a ((a, oe3) :: (X.pn ++ pins))) S3 hg hm q hdbg
      · exact ld_blt (X := X.suite a ((a, oe3) :: (X.pn ++ pins))) S3 hg hm hv q hnn hdbg
    refine test (LM.here ?_)
    cases b with
    | true =>
      refine codeAny_handlers_suite_as ?_
      refine HandSPX.lands_againZ fl3 fun h4 fl4 up4 => ?_
      have J4 : Inv X pins σ' H' { s' with heap := h4 } := J.landed nb fl4.1 ((up.trans up3).trans up4) os ag
      obtain ⟨oe4, vs4, he4, hz4, hd4⟩ := fl4.there
      have S4 := J4.suite he4 hd4 na nL nF
      refine store_ok (X := X.suite a ((a, oe4) :: (X.pn ++ pins))) (v := .ref a) S4 hN hi hloc rfl (fun s5 S5 => ?_) (.inr hln)
      have sui : PSs (X.suite a ((a, oe4) :: (X.pn ++ pins))) [.Assign [.Name m q1] (.Name n q2) q3] (tAsg (tVar i) (gName j)) :=
        pss_one (ps_set (X := X.suite a ((a, oe4) :: (X.pn ++ pins))) (i := j) hN hj (.inl hlm) (pe_var hi (.inl hln) hdn hcn) hsw (.inr hlm))
      have hlen : i < σ'.length := by
        rw [J.len]
        exact hij
      refine wpAny_mono (sui.run [] s5 _ H' { nx := fun σ6 H6 => σ6 = (σ'.set i (some (.ref a))).set j (some (.ref a)) ∧ H6 = H', rt := fun _ _ => False } S5 ⟨.ref a, by rw [List.getElem?_set_self hlen], rfl, rfl⟩) (fun f s6 hsp => ?_) (fun _ _ z => False.elim z)
      cases f with
      | next =>
        obtain ⟨σ6, H6, S6, e6, eH⟩ := hsp
        subst e6
        subst eH
        obtain ⟨g1, g2, _⟩ := S6.pin (a, oe4) (List.mem_append_left _ List.mem_cons_self)
        have K6 := Inv_keep (S6.unsuite ok) g2 g1 hz4 hd4 new0 nL newP
        exact gone_ok K6 hN hi hln fun s7 J7 => ⟨_, _, J7, hyes rfl a na⟩
      | brk =>
        obtain ⟨_, _, _, z⟩ := hsp
        exact False.elim z
      | cont =>
        obtain ⟨_, _, _, z⟩ := hsp
        exact False.elim z
      | ret u =>
        obtain ⟨_, _, _, _, _, z⟩ := hsp
        exact False.elim z
    | false =>
      show wpAny _ X.A (handleBy (.ref a) X.env []) _ _ _
      refine wpAny_handleBy_nil ?_
      obtain ⟨k1, k2, k3, oe, vs, T, oT, ts', he, hz, hd, h1, hr⟩ := id fl3
      unfold PySem.passOn
      refine wpAny_bind (wpAny_field he hd h1 ?_)
      rw [if_neg (show ¬ ((Value.ref T == Value.none) = true) from by simp)]
      have fin : wpAny (model X.prog X.w) X.A (setFlight (.ref a) X.env.frame) (fun _ s4 => wpAny (model X.prog X.w) X.A (throw (.ref a) : Sem Flow) (SP X pins D) X.xe s4) X.xe { s' with heap := h3 } := by
        rw [hf]
        refine HandSPX.setFlight_upZ fl3 fun h4 hh4 up4 => wpAny_throw (tk _ _ ?_)
        exact ⟨a, B, sI, pins, σ', H', cls, d, rfl, J, nb, (up.trans up3).trans up4, .inr (.inr (by rw [hs]; exact hh4)), na, os, ag, hno rfl⟩
      first
        | exact wpAny_bind (wpAny_pure (wpAny_bind fin))
        | exact wpAny_bind fin
  · cases f with
    | next =>
      obtain ⟨σ', H', J', q⟩ := hsp
      exact wpAny_execs_nil ⟨σ', H', J'.ofTry ok, q⟩
    | brk =>
      obtain ⟨σ', H', J', q⟩ := hsp
      exact ⟨σ', H', J'.ofTry ok, q⟩
    | cont =>
      obtain ⟨σ', H', J', q⟩ := hsp
      exact ⟨σ', H', J'.ofTry ok, q⟩
    | ret u =>
      obtain ⟨v, σ', H', J', r, q⟩ := hsp
      exact ⟨v, σ', H', J'.ofTry ok, r, q⟩
end
/-! ### a kept exception: isinstance, a field -/
structure ExcD (K : PySem.W.Frag) (D : Addr) : Prop where
  hg : PySem.W.findIn K (.ref D) "__getattribute__" = some (some (.builtin "BaseException.__getattribute__"))
  hk : PySem.W.findIn K (.ref D) "__getattr__" = some none
  hs : PySem.W.subIn K (.ref D) (.type "BaseException") = some true
  hd : PySem.W.hasDictIn K D = true
  ha : PySem.W.findIn K (.ref D) "__class__" = some (some (.builtin "object.__class__"))
  hn : PySem.W.specialIn K (.builtin "object.__class__") "__get__" = some (some (.builtin "getset_descriptor.__get__"))
  ht : PySem.W.takesIn K (.builtin "object.__class__") = some true
  hm : PySem.W.mroIn K D (.type "object") = some true
/-- where its dict is known -/
def DictAt (H : Hp) (d : Option Addr) : Prop := d = none ∨ ∃ dd fs, d = some dd ∧ H dd = some (.xd fs)
theorem cls_some {K : PySem.W.Frag} {D : Addr} (h : PySem.W.hasDictIn K D = true) : (PySem.W.clsIn K D).isSome = true := by
  obtain ⟨cd, hc, _⟩ := PySem.W.any_some h
  rw [hc]
  rfl
section
variable {X : Cx} {pins : List (Addr × Obj)} {σ : L2.St} {H : Hp} {s : Shared}
theorem inst_kept {a D : Addr} {d : Option Addr} (I : Inv X pins σ H s) (ha : H a = some (ExcK a (.ref D) d)) (hd : DictAt H d) : ∃ oe od, PySem.W.InstAt s.heap a oe D od := by
  have x : ObjOk X.prog X.w H s.heap a (.ext fun h => ∃ oe vs, h.get? a = some oe ∧ Zc (.ref D) d oe ∧ oe.data = .fields vs) := I.hok a _ ha
  obtain ⟨⟨oe, vs, e, ⟨z1, z2⟩, dd⟩, _⟩ := x
  have no : PySem.W.notCls oe = true := by
    unfold PySem.W.notCls
    rw [dd] <;> rfl
  rcases hd with rfl | ⟨q, fs, rfl, hq⟩
  · exact ⟨oe, none, e, z1, no, by rw [z2] <;> trivial⟩
  · have y : ObjOk X.prog X.w H s.heap q (.xd fs) := I.hok q _ hq
    obtain ⟨mA, hns, _⟩ := y
    obtain ⟨od, ho, _⟩ := lookIn_ns hns
    exact ⟨oe, some od, e, z1, no, by rw [z2]; exact ho⟩
/-- isinstance(e, C), e a kept exception of the class D -/
def rIsK (K : PySem.W.Frag) : List V → Hp → VK → Prop := fun xs H Q => ∃ (a D : Addr) (d : Option Addr) (c : V) (cv : Value) (b : Bool), xs = [.ref a, c] ∧ H a = some (ExcK a (.ref D) d) ∧ DictAt H d ∧ ExcD K D ∧ (∀ u, RelV c u → u = cv) ∧ PySem.W.kitOne K (.ref D) cv = some b ∧ Q (.bl b) H
theorem call_isK : CallR X (.builtin "isinstance") (rIsK X.K) := by
  intro pins s σ H xs us Q I r h
  obtain ⟨a, D, d, c, cv, b, rfl, ha, hd, C, hcv, e, q⟩ := h
  obtain ⟨u1, u2, rfl, r1, r2⟩ := vals2 r
  have ec := hcv _ r2
  subst ec
  cases (show u1 = Value.ref a from r1)
  obtain ⟨oe, od, J⟩ := inst_kept I ha hd
  exact PySem.W.kia_one (PySem.W.kitx_exc (cls_some C.hd) C.hg C.hk C.hs C.ha C.hn C.ht C.hm) I.kIn J e (fun z => nomatch z) fun tk => ⟨.bl b, H, I.kept (t' := tk) fun _ _ z => z, rfl, q⟩
/-- e.f, e a kept exception -/
def tXk (K : PySem.W.Frag) (f : Str) (te : TE) : TE := fun σ H Q => te σ H fun x H1 => ∃ (a D dd : Addr) (fs : List (Str × V)) (v : V), x = .ref a ∧ H1 a = some (ExcK a (.ref D) (some dd)) ∧ H1 dd = some (.xd fs) ∧ ExcD K D ∧ PySem.W.findIn K (.ref D) f = some none ∧ fs.lookup f = some v ∧ Q v H1
theorem pe_xk {e : Expr} {te : TE} {pos : Pos} {n : Str} (he : PE X e te) (hb : attributeBase e n X.env (eval e X.env) = eval e X.env := by rfl) : PE X (.Attribute e n pos) (tXk X.K n te) := by
  refine ⟨fun pins s σ H Q I h => ?_⟩
  refine attr_of hb (thn (he.run pins s σ H _ I h) fun u s1 hh => ?_)
  obtain ⟨x, H1, I1, rx, a, D, dd, fs, v, ex, ha, hq, C, hno, l, q⟩ := hh
  subst ex
  obtain rfl : u = Value.ref a := rx
  have x : ObjOk X.prog X.w H1 s1.heap a (.ext fun h => ∃ oe vs, h.get? a = some oe ∧ Zc (.ref D) (some dd) oe ∧ oe.data = .fields vs) := I1.hok a _ ha
  obtain ⟨⟨oe, vs, e, ⟨z1, z2⟩, hdat⟩, _⟩ := x
  have y : ObjOk X.prog X.w H1 s1.heap dd (.xd fs) := I1.hok dd _ hq
  obtain ⟨mA, hns, hr⟩ := y
  obtain ⟨od, ho, hl⟩ := lookIn_ns hns
  obtain ⟨u, hu, ru⟩ := RelO.some_of (v := v) (o := mA n) (by rw [← l]; exact hr n)
  have J : PySem.W.InstAt s1.heap a oe D (some od) := ⟨e, z1, by unfold PySem.W.notCls; rw [hdat] <;> rfl, by rw [z2]; exact ho⟩
  exact HandSPX.exc_get I1.kIn J C.hg C.hk C.hs (PySem.W.findObj_own C.hd hno rfl (by rw [hl, hu])) (handed_of ru) ⟨v, H1, I1.tok _, ru, q⟩
end
end Wb
/-! a lambda without parameters, handed to defs that call it and hand it on -/
namespace Wb
open PySem PySem.Spec PyProof.Rows L2 LamX
/-- a lambda's reading by what is wanted of its exceptions -/
abbrev TLam := XK → Hp → VK → Prop
/-- at f stands a lambda, made ahead of s (the frames of stack may have turned since): called with nothing, in any state that keeps what was there, it does what tl says -/
structure SemLam (P : Program) (w : World) (K : PySem.W.Frag) (mg : Str → Option Value) (base : Heap) (s : Shared) (H : Hp) (stack : List Env) (f : Addr) (kk : Nat) (tl : TLam) : Prop where
  isF : ∀ (s1 : Shared) (H1 : Hp), Un (frs stack) [] H H1 s.heap s1.heap → PySem.W.FnAt f s1.heap
  run : ∀ (A : Around) (outer' : List Env) (s1 : Shared) (H1 : Hp) (Q : VK) (E : XK), Room kk A → Env0 P w K mg base A outer' s1 H1 → Un (frs stack) [] H H1 s.heap s1.heap → tl E H1 Q →
    codeAny (model P w) A (.call (.ref f) ⟨[], []⟩) (CR (L2.CX P w) outer' P w H1 s1 Q E) s1
theorem un_more {fs fs' : List Addr} {H H1 H2 : Hp} {h h1 h2 : Heap} (a : Un fs [] H H1 h h1) (b : Un fs' [] H1 H2 h1 h2) (hf : ∀ c ∈ fs', c ∈ fs ∨ h.get? c = none) : Un fs [] H H2 h h2 where
  keep := fun c o e n hc hx => b.keep c o (a.keep c o e n hc hx) (a.free c o e n hx) (fun z => by
    rcases hf c z with q | q
    · exact hc q
    · rw [q] at e
      cases e) hx
  slot := fun c o e n hc hx => by
    obtain ⟨sl, e1⟩ := a.slot c o e n hc hx
    obtain ⟨sl', e2⟩ := b.any e1 (a.free c o e n hx) hx
    exact ⟨sl', e2⟩
  free := fun c o e n hx => by
    obtain ⟨o', e1⟩ := a.there c o e hx
    exact b.free c o' e1 (a.free c o e n hx) hx
  there := fun c o e hx => by
    obtain ⟨o', e1⟩ := a.there c o e hx
    exact b.there c o' e1 hx
  tups := fun c xs e => b.tups c xs (a.tups c xs e)
  frzs := fun c o xs e => b.frzs c o xs (a.frzs c o xs e)
  tbls := fun c ps e => by
    obtain ⟨m1, e1⟩ := a.tbls c ps e
    obtain ⟨m2, e2⟩ := b.tbls c _ e1
    exact ⟨m1 ++ m2, by rw [e2, Array.append_assoc]⟩
section
variable {X : Cx} {pins : List (Addr × Obj)} {σ : L2.St} {H : Hp} {s : Shared}
/-- from a def's entry to a state in its body -/
theorem SemLam.inner {f : Addr} {kk : Nat} {tl : TLam} (I : Inv X pins σ H s) (hex : X.ex = []) (L : SemLam X.prog X.w X.K X.mg X.base X.s_0 X.H_0 X.outer f kk tl) : SemLam X.prog X.w X.K X.mg X.base s H X.stack f kk tl := by
  have up : ∀ (s1 : Shared) (H1 : Hp), Un (frs X.stack) [] H H1 s.heap s1.heap → Un (frs X.outer) [] X.H_0 H1 X.s_0.heap s1.heap := fun s1 H1 u => by
    have b := I.base
    rw [hex] at b
    refine un_more b u fun c hc => ?_
    rcases List.mem_cons.mp (I.stkSub c hc) with z | z
    · refine .inr ?_
      rw [z]
      exact Heap.get?_none_of_le I.ok.above
    · exact .inl z
  exact ⟨fun s1 H1 u => L.isF s1 H1 (up s1 H1 u), fun A o' s1 H1 Q E hr e0 u t => L.run A o' s1 H1 Q E hr e0 (up s1 H1 u) t⟩
/-- a(), a the name that holds the lambda -/
def tLamCall (i : Nat) (f : Addr) (tl : TLam) (W : WX) : TE := fun σ H Q => σ[i]? = some (some (.ref f)) ∧ tl (fun cls d H' => W cls d σ H') H Q
theorem pe_lam {f : Addr} {kk i : Nat} {tl : TLam} {W : WX} {a : Str} {p1 p2 : Pos} (hex : X.ex = []) (L : SemLam X.prog X.w X.K X.mg X.base X.s_0 X.H_0 X.outer f kk tl) (hr : Room kk X.A) (tk : Takes X W) (hN : X.N[i]? = some a) (hv : Vis X.env.scope a)
    (hd : (a == ("__debug__" : Str)) = false := by decide) (hcd : (a == ("__classdict__" : Str)) = false := by decide) : PE X (.Call (.Name a p1) [] [] p2) (tLamCall i f tl W) := by
  refine ⟨fun pins s σ H Q I h => ?_⟩
  obtain ⟨hs, ht⟩ := h
  refine wpAny_Call_Name_kw (thn ((pe_var (pos := p1) (i := i) hN hv hd hcd).run pins s σ H (fun v H1 => v = .ref f ∧ H1 = H) I ⟨.ref f, hs, rfl, rfl⟩) fun u s1 ⟨v, H1, I1, r1, q1⟩ => ?_)
  obtain ⟨ev, eH⟩ := q1
  subst ev
  rw [eH] at I1
  obtain rfl : u = Value.ref f := r1
  have S := SemLam.inner I1 hex L
  refine PySem.W.callWith_F0 (S.isF s1 H Un.refl) ?_
  refine wpAny_call (codeAny_mono (S.run X.A X.stack s1 H Q (fun cls d H' => W cls d σ H') hr I1.env0 Un.refl ht) fun r s' hq => ?_)
  cases r with
  | error e => exact tk e s' (XE.of_call I1 (fun _ _ _ h => h) hq)
  | ok fl =>
    cases fl with
    | ret u => exact I1.after hq
    | next => exact False.elim hq
    | brk => exact False.elim hq
    | cont => exact False.elim hq
end
/-- a def whose first parameter is such a lambda -/
def LamFn (P : Program) (w : World) (K : PySem.W.Frag) (mg : Str → Option Value) (base : Heap) (g : Addr) (k kk : Nat) (TT : TLam → List V → Hp → VK → Prop) : Prop :=
  ∀ (A : Around) (outer : List Env) (s : Shared) (H : Hp) (f : Addr) (us : List Value) (vs : List V) (Q : VK) (tl : TLam), Room k A → Env0 P w K mg base A outer s H → SemLam P w K mg base s H outer f kk tl → Vals vs us → TT tl vs H Q →
    codeAny (model P w) A (.call (.ref g) ⟨.ref f :: us, []⟩) (CR C8.CX0 outer P w H s Q C8.E0) s
/-- .. by its body -/
theorem lamFn_of {P : Program} {w : World} {K : PySem.W.Frag} {mg : Str → Option Value} {base : Heap} {x : Str} {st : Stmt} {g : Addr} {fd : FuncData} {N ps : List Str} {k kk : Nat} {TT : TLam → List V → Hp → VK → Prop} (F : C8.Fun K x x st g fd) (b : Binds K fd ps []) (S : FnScope N ps (C8.fnScope st))
    (len : ∀ tl vs H Q, TT tl vs H Q → vs.length + 1 = ps.length)
    (hbody : ∀ (cdv : Value) (A : Around) (outer : List Env) (s : Shared) (H : Hp) (f : Addr) (vs : List V) (Q : VK) (tl : TLam), Room k (A.deeper (envOfC x (C8.fnScope st) s.heap.objs.size g cdv)) → SemLam P w K mg base s H outer f kk tl → TT tl vs H Q →
      ∃ t, PSs (cxOf C8.CX0 P w K mg base N x (C8.fnScope st) g cdv A outer s H C8.E0).nox (C8.fnBody st) t ∧ t { nx := fun _ H' => Q .non H', rt := Q } (L2.start N (.ref f :: vs)) H) : LamFn P w K mg base g (k + 1) kk TT := by
  obtain ⟨oc, od, dV, kV, doc, pm, an, cdv, ct, osl, rfl, lk, hcd⟩ := F.ex
  intro A outer s H f us vs Q tl hr e0 SL r ht
  have KX : K.In s.heap := e0.mod.kin.keeps fun b o e => (e0.bs b o e).1
  have hl : (Value.ref f :: us).length = ps.length := by
    rw [List.length_cons, ← Paired.length r]
    exact len _ _ _ _ ht
  have bb := b s (.ref f :: us) KX (by rw [List.append_nil]; exact hl)
  rw [List.append_nil] at bb
  refine run_ofS (N := N) (ps := ps) (us := .ref f :: us) (vs := .ref f :: vs) lk hcd S hr e0 bb (.cons rfl r) (by rw [List.length_cons]; exact len _ _ _ _ ht) fun hr' => ?_
  obtain ⟨t, h1, h2⟩ := hbody cdv A outer s H f vs Q tl hr' SL ht
  exact ⟨t, h1.nox, h2⟩
section
variable {X : Cx}
/-- g(a, ..), a the name that holds the lambda, handed on -/
def tHandOn (i : Nat) (f : Addr) (tl : TLam) (TT : TLam → List V → Hp → VK → Prop) (t : TA) : TE := fun σ H Q => σ[i]? = some (some (.ref f)) ∧ t σ H fun vs H1 => TT tl vs H1 Q
theorem pe_handOn {x a : Str} {g f : Addr} {k kk i : Nat} {tl : TLam} {TT : TLam → List V → Hp → VK → Prop} {es : List Expr} {t : TA} {p p1 pos : Pos} (hex : X.ex = []) (hg : Gl X x) (hm : X.mg x = some (.ref g)) (hk : PySem.W.keepIn X.K (.ref g) = true) (G : LamFn X.prog X.w X.K X.mg X.base g k kk TT) (hr : Room k X.A)
    (L : SemLam X.prog X.w X.K X.mg X.base X.s_0 X.H_0 X.outer f kk tl) (hN : X.N[i]? = some a) (hv : Vis X.env.scope a) (ha : PA X es t)
    (hs : starEach (.Name a p1 :: es) X.env = (false, eval (.Name a p1) X.env) :: starEach es X.env := by rfl) (hpl : (backTo pos (starEach es X.env)).any (·.1) = false := by rfl)
    (hdb : (x == ("__debug__" : Str)) = false := by decide) (hd : (a == ("__debug__" : Str)) = false := by decide) (hcd : (a == ("__classdict__" : Str)) = false := by decide) :
    PE X (.Call (.Name x p) (.Name a p1 :: es) [] pos) (tHandOn i f tl TT t) := by
  refine ⟨fun pins s σ H Q I h => ?_⟩
  obtain ⟨h1, h2⟩ := h
  refine wpAny_Call_Name_kw (ld_glob I hg hm ?_ hdb)
  refine PySem.W.callWith_K (h₀ := X.base) I.ok.mod.kin hk ?_ hs hpl
  rw [hs]
  show wpAny _ _ (spliced ((false, eval (.Name a p1) X.env) :: backTo pos (starEach es X.env))) _ _ s
  refine Calls.spliced_cons (thn ((pe_var (pos := p1) (i := i) hN hv hd hcd).run pins s σ H (fun v H1 => v = .ref f ∧ H1 = H) I ⟨.ref f, h1, rfl, rfl⟩) fun u s1 ⟨v, H1, I1, r1, ev, eH⟩ => ?_)
  subst ev
  rw [eH] at I1
  obtain rfl : u = Value.ref f := r1
  refine thn (ha.run pos pins s1 σ H (fun vs H1 => TT tl vs H1 Q) I1 h2) fun ur s2 ⟨vs, H2, I2, rr, q⟩ => ⟨I2.kIn, ?_⟩
  refine wpAny_call (codeAny_mono (G X.A X.stack s2 H2 f ur vs Q tl hr I2.env0 (SemLam.inner I2 hex L) rr q) fun r s' hq => ?_)
  cases r with
  | error e => exact (show False from hq).elim
  | ok fl =>
    cases fl with
    | ret u => exact I2.after hq
    | next => exact False.elim hq
    | brk => exact False.elim hq
    | cont => exact False.elim hq
/-- g(lambda: body, ..) -/
def tLamMake (T : List (Addr × Str)) (q : Str) (tb : XK → TE) (TT : TLam → List V → Hp → VK → Prop) (t : TA) : TE := fun σ H Q => Tabs T H ∧ ∀ (c' : Addr) (H1 : Hp), ExtN H H1 → Tabs T H1 → H1 c' = some (CodeO c' q) →
  t σ H1 fun vs H2 => TT (fun E H' Q' => H' c' = some (CodeO c' q) ∧ tb E σ H' Q') vs H2 Q
theorem pe_lamMake {T : List (Addr × Str)} {x : Str} {g c P : Addr} {k kk : Nat} {TT : TLam → List V → Hp → VK → Prop} {params : Arguments} {body : Expr} {scope : Scope} {tb : XK → TE} {es : List Expr} {t : TA} {p lpos pos : Pos} (hg : Gl X x) (hm : X.mg x = some (.ref g)) (hk : PySem.W.keepIn X.K (.ref g) = true)
    (G : LamFn X.prog X.w X.K X.mg X.base g k (kk + 1) TT) (TB : TabB X.base X.mg c P) (hcode : X.env.code = .ref c) (hmT : (P, X.env.qual ++ "<lambda>") ∈ T) (hu : ∀ p ∈ T, p.1 = P → p.2 = X.env.qual ++ "<lambda>") (hr : Room k X.A) (L : LamS X.env.scope scope) (hdef : defaultsOf params X.env = ([], []))
    (hbind : ∀ (q : Str) (cl : List (Str × Addr)) (pm cv ctv : Value), bindArgs (PySem.W.kla_fn "<lambda>" q params body scope cl pm cv ctv) ⟨[], []⟩ = pure [])
    (hbody : ∀ (A : Around) (outer : List Env) (s : Shared) (H : Hp) (E : XK) (f c' : Addr), Room kk (A.deeper (lamEnv X scope s.heap.objs.size f c')) → PE (lamCx X A outer s H E scope f c') body (tb E)) (ha : PA X es t)
    (hs : starEach (.Lambda params body scope lpos :: es) X.env = (false, eval (.Lambda params body scope lpos) X.env) :: starEach es X.env := by rfl) (hpl : (backTo pos (starEach es X.env)).any (·.1) = false := by rfl) (hdb : (x == ("__debug__" : Str)) = false := by decide) :
    PE X (.Call (.Name x p) (.Lambda params body scope lpos :: es) [] pos) (tLamMake T (X.env.qual ++ "<lambda>") tb TT t) := by
  refine ⟨fun pins s σ H Q I h => ?_⟩
  obtain ⟨hT, h⟩ := h
  refine wpAny_Call_Name_kw (ld_glob I hg hm ?_ hdb)
  refine PySem.W.callWith_K (h₀ := X.base) I.ok.mod.kin hk ?_ hs hpl
  rw [hs]
  show wpAny _ _ (spliced ((false, eval (.Lambda params body scope lpos) X.env) :: backTo pos (starEach es X.env))) _ _ s
  refine Calls.spliced_cons (lam_make2 I TB hcode hmT hu hT hdef (L.has I.ok) fun f c' pm' ctv H1 s' I1 eN T1 hf hfn hfr hco => ?_)
  -- the lambda is pinned while the further arguments are reckoned
  have nL : f ≠ X.env.locals := fun z => by
    obtain ⟨m, ⟨o, es, ep, ho, hd, _⟩, _⟩ := I1.loc
    rw [← z, hf] at ho
    have z2 := Option.some.inj ho
    subst z2
    cases hd
  have nF : f ∉ X.fs := fun z => by
    obtain ⟨_, o, ho, hdd⟩ := I1.funs.mem z
    rcases I1.ok.stk with e | ⟨e, _⟩
    · exact hfr (by rw [e]; exact z)
    · refine hfr ?_
      rw [e]
      obtain ⟨en, he, q⟩ := List.mem_filterMap.mp z
      exact List.mem_filterMap.mpr ⟨en, List.mem_cons_of_mem _ he, q⟩
  have I1p : Inv X (pins ++ [(f, PySem.W.kla_obj "<lambda>" (X.env.qual ++ "<lambda>") params body scope (cloFrom X.env.cells scope.names []) pm' c' ctv)]) σ H1 s' := I1.pins_of fun p hp => by
    rcases List.mem_append.mp hp with hp | hp
    · exact I1.pin p (List.mem_append_right _ hp)
    · have e : p = _ := List.mem_singleton.mp hp
      subst e
      exact ⟨hf, hfn, nL, nF, fun v z => by cases z⟩
  refine thn (ha.run pos _ s' σ H1 (fun vs H2 => TT (fun E H' Q' => H' c' = some (CodeO c' (X.env.qual ++ "<lambda>")) ∧ tb E σ H' Q') vs H2 Q) I1p (h c' H1 eN T1 hco)) fun ur s2 ⟨vs, H2, I2, rr, q⟩ => ⟨I2.kIn, ?_⟩
  obtain ⟨hf2, hfn2, _⟩ := I2.pin (f, PySem.W.kla_obj "<lambda>" (X.env.qual ++ "<lambda>") params body scope (cloFrom X.env.cells scope.names []) pm' c' ctv) (List.mem_append_right _ (List.mem_append_right _ (List.mem_singleton.mpr rfl)))
  have I3 : Inv X pins σ H2 s2 := I2.pins_of fun p hp => I2.pin p (List.mem_append_right _ (List.mem_append_left _ hp))
  have S : SemLam X.prog X.w X.K X.mg X.base s2 H2 X.stack f (kk + 1) (fun E H' Q' => H' c' = some (CodeO c' (X.env.qual ++ "<lambda>")) ∧ tb E σ H' Q') := by
    have at1 : ∀ (s3 : Shared) (H3 : Hp), Un (frs X.stack) [] H2 H3 s2.heap s3.heap → s3.heap.get? f = some (PySem.W.kla_obj "<lambda>" (X.env.qual ++ "<lambda>") params body scope (cloFrom X.env.cells scope.names []) pm' c' ctv) := fun s3 H3 u => u.keep f _ hf2 hfn2 hfr (fun z => nomatch z)
    refine ⟨fun s3 H3 u => ⟨_, _, _, _, at1 s3 H3 u⟩, fun A outer' s3 H3 Q3 E3 hr3 e3 u t3 => ?_⟩
    obtain ⟨hc3, ht3⟩ := t3
    obtain ⟨⟨oc, vs3, tq, hoc, hdc, hvc⟩, _, _⟩ := e3.hok c' _ hc3
    have KX : X.K.In s3.heap := e3.mod.kin.keeps fun b o e => (e3.bs b o e).1
    have lim : s3.heap.NoLimit := e3.mod.nolimit.keeps fun b o e => (e3.bs b o e).1
    refine PySem.W.kla_callFunE hr3.depth (at1 s3 H3 u) rfl L.co L.gen rfl ⟨c', oc, vs3, tq, rfl, hoc, hdc, hvc⟩ ?_
    rw [hbind]
    refine wpAny_pure (wpAny_newFunctionEnv (fun y hy => (L.own y hy).2) (fun y hy => absurd hy (by simp)) (fun h₁ hns hsb => ⟨lim.fresh _ hsb, ?_⟩) L.kind)
    show codeAny _ _ (.expr body (lamEnv X scope s3.heap.objs.size f c')) _ _
    have kp : ∀ b o, s3.heap.get? b = some o → h₁.get? b = some o := fun b o e => hsb.extBut b o (Nat.ne_of_lt (Heap.lt_size e)) (Heap.get?_push_of_some _ e)
    have J : Inv (lamCx X A outer' s3 H3 E3 scope f c') [] σ H3 { s3 with heap := h₁, toks := s3.toks + ([] : List (Str × Value)).length } := lam_start2 I3 L e3 hr3.hd u hns kp
    refine PySem.W.kla_codeExpr (wpAny_mono ((hbody A outer' s3 H3 E3 f c' (hr3.deeper _)).run [] _ _ H3 Q3 J ht3) (fun v s4 hq => ?_) fun e s4 hq => hq)
    obtain ⟨w', H', J', rv, q⟩ := hq
    exact ⟨w', H', J'.os, J'.bare, J'.base, J'.hok, rv, q⟩
  refine wpAny_call (codeAny_mono (G X.A X.stack s2 H2 f ur vs Q _ hr I3.env0 S rr q) fun r s' hq => ?_)
  cases r with
  | error e => exact (show False from hq).elim
  | ok fl =>
    cases fl with
    | ret u => exact I3.after hq
    | next => exact False.elim hq
    | brk => exact False.elim hq
    | cont => exact False.elim hq
end
end Wb
/-! data in the heap, what evaluates to which data; is_whole .. need_web -/
namespace Wb
open PySem PySem.Spec PyProof.Rows L2 Evl Wm
abbrev St := L2.St
def topS (i : Nat) : Stmt := PySem.Challenge.pw_tiewebs_k70_midst_and_whole_webs.main.body.getD i (.Pass ⟨0, 0, 0, 0⟩)
/-- the built-in names that the text leaves as they are -/
structure Blt (mg : Str → Option Value) : Prop where
  isi : mg "isinstance" = none
  len : mg "len" = none
  all : mg "all" = none
  zip : mg "zip" = none
  tup : mg "tuple" = none
  int : mg "int" = none
  boo : mg "bool" = none
  lst : mg "list" = none
  ran : mg "range" = none
  enu : mg "enumerate" = none
  srt : mg "sorted" = none
  max : mg "max" = none
  min : mg "min" = none
  set : mg "set" = none
  val : mg "ValueError" = none
/-! ### data grows with the heap -/
section
variable {K : PySem.W.Frag} {H H' : Hp}
mutual
theorem dp_ex (e : Ex H H') : ∀ (d : PyData) (v : V), Dp K H v d → Dp K H' v d
  | .none, _, h => by
    cases h
    exact .non
  | .bool b, _, h => by
    cases h
    exact .bl b
  | .int i, _, h => by
    cases h
    exact .int i
  | .str x, _, h => by
    cases h
    exact .str x
  | .list ds, _, h => by
    cases h with
    | lst hs ha => exact .lst (ex_l e hs) (dpAll_ex e ds _ ha)
  | .tuple ds, _, h => by
    cases h with
    | tup hs ha => exact .tup (ex_t e hs) (dpAll_ex e ds _ ha)
  | .dict _, _, h => by cases h
theorem dpAll_ex (e : Ex H H') : ∀ (ds : List PyData) (vs : List V), DpAll K H vs ds → DpAll K H' vs ds
  | [], _, h => by
    cases h
    exact .nil
  | d :: ds, _, h => by
    cases h with
    | cons h1 h2 => exact .cons (dp_ex e d _ h1) (dpAll_ex e ds _ h2)
end
/-! ### data without lists stands while lists change -/
/-- all but the lists stay -/
def ExT (H H' : Hp) : Prop := ∀ b o, H b = some o → (∀ xs, o ≠ .lst xs) → H' b = some o
theorem ExT.of (e : Ex H H') : ExT H H' := fun b o h _ => e b o h
theorem ExT.trans {H1 H2 : Hp} (a : ExT H H1) (b : ExT H1 H2) : ExT H H2 := fun c o h n => b c o (a c o h n) n
theorem ExT.lst {a : Addr} {xs : List V} {u : HO} (h : H a = some (.lst xs)) : ExT H (upd H a u) := fun b o e n => by
  by_cases hb : b = a
  · rw [hb, h] at e
    exact absurd (Option.some.inj e).symm (n xs)
  · rw [upd_ne hb]
    exact e
mutual
def noL : PyData → Bool
  | .list _ => false
  | .tuple ds => noLs ds
  | .none => true
  | .bool _ => true
  | .int _ => true
  | .str _ => true
  | .dict _ => true
def noLs : List PyData → Bool
  | [] => true
  | d :: ds => noL d && noLs ds
end
theorem noLs_mem : ∀ {ds : List PyData}, noLs ds = true → ∀ d ∈ ds, noL d = true
  | [], _, _, h => by cases h
  | d :: ds, e, x, h => by
    unfold noLs at e
    rw [Bool.and_eq_true] at e
    rcases List.mem_cons.mp h with q | q
    · rw [q]
      exact e.1
    · exact noLs_mem e.2 x q
theorem noLs_of : ∀ {ds : List PyData}, (∀ d ∈ ds, noL d = true) → noLs ds = true
  | [], _ => rfl
  | d :: ds, h => by
    unfold noLs
    rw [h d List.mem_cons_self, noLs_of fun x hx => h x (List.mem_cons_of_mem _ hx)]
    rfl
theorem noLs_take {ds : List PyData} (h : noLs ds = true) (i : Nat) : noLs (ds.take i) = true := noLs_of fun d hd => noLs_mem h d (List.mem_of_mem_take hd)
theorem sqT_exT (e : ExT H H') {a : Addr} {xs : List V} (h : SqT K H a xs) : SqT K H' a xs := by
  rcases h with (h | ⟨o, h⟩) | h
  · exact .inl (.inl (e a _ h fun xs z => nomatch z))
  · exact .inl (.inr ⟨o, e a _ h fun xs z => nomatch z⟩)
  · exact .inr h
mutual
theorem dp_exT (e : ExT H H') : ∀ (d : PyData) (v : V), noL d = true → Dp K H v d → Dp K H' v d
  | .none, _, _, h => by
    cases h
    exact .non
  | .bool b, _, _, h => by
    cases h
    exact .bl b
  | .int i, _, _, h => by
    cases h
    exact .int i
  | .str x, _, _, h => by
    cases h
    exact .str x
  | .list ds, _, n, _ => by
    unfold noL at n
    cases n
  | .tuple ds, _, n, h => by
    cases h with
    | tup hs ha => exact .tup (sqT_exT e hs) (dpAll_exT e ds _ (by unfold noL at n; exact n) ha)
  | .dict _, _, _, h => by cases h
theorem dpAll_exT (e : ExT H H') : ∀ (ds : List PyData) (vs : List V), noLs ds = true → DpAll K H vs ds → DpAll K H' vs ds
  | [], _, _, h => by
    cases h
    exact .nil
  | d :: ds, _, n, h => by
    cases h with
    | cons h1 h2 =>
      unfold noLs at n
      rw [Bool.and_eq_true] at n
      exact .cons (dp_exT e d _ n.1 h1) (dpAll_exT e ds _ n.2 h2)
end
theorem dpAll_len : ∀ {vs : List V} {ds : List PyData}, DpAll K H vs ds → vs.length = ds.length
  | _, _, .nil => rfl
  | _, _, .cons _ t => by rw [List.length_cons, List.length_cons, dpAll_len t]
theorem dpAll_get : ∀ {vs : List V} {ds : List PyData} {i : Nat} {v : V}, DpAll K H vs ds → vs[i]? = some v → ∃ d, ds[i]? = some d ∧ Dp K H v d
  | _, _, _, _, .nil, e => by simp at e
  | _, _, 0, _, .cons r _, e => by
    simp at e
    subst e
    exact ⟨_, rfl, r⟩
  | _, _, i + 1, v, .cons _ t, e => by
    obtain ⟨d, h1, h2⟩ := dpAll_get (i := i) (v := v) t (by simpa using e)
    exact ⟨d, by simpa using h1, h2⟩
theorem dpAll_at : ∀ {vs : List V} {ds : List PyData} {i : Nat} {d : PyData}, DpAll K H vs ds → ds[i]? = some d → ∃ v, vs[i]? = some v ∧ Dp K H v d
  | _, _, _, _, .nil, e => by simp at e
  | _, _, 0, _, .cons r _, e => by
    simp at e
    subst e
    exact ⟨_, rfl, r⟩
  | _, _, i + 1, d, .cons _ t, e => by
    obtain ⟨v, h1, h2⟩ := dpAll_at (i := i) (d := d) t (by simpa using e)
    exact ⟨v, by simpa using h1, h2⟩
theorem dpAll_app : ∀ {vs ws : List V} {ds es : List PyData}, DpAll K H vs ds → DpAll K H ws es → DpAll K H (vs ++ ws) (ds ++ es)
  | _, _, _, _, .nil, s => s
  | _, _, _, _, .cons r t, s => .cons r (dpAll_app t s)
theorem dpAll_ints : ∀ {vs : List V} {ns : List Int}, DpAll K H vs (ns.map PyData.int) → vs = ns.map V.int
  | _, [], h => by
    cases h
    rfl
  | _, n :: ns, h => by
    cases h with
    | cons h1 h2 =>
      cases h1
      rw [dpAll_ints h2]
      rfl
end
/-! ### a tie, a web as data -/
def tieD (t : Tie) : PyData := .tuple [.int (t.1 : Int), .int (t.2 : Int)]
def tiesD (ts : List Tie) : PyData := .tuple (ts.map tieD)
def webD (n : Nat) (ts : List Tie) : PyData := .tuple [.int (n : Int), tiesD ts]
theorem noL_tie (t : Tie) : noL (tieD t) = true := rfl
theorem noL_ties (ts : List Tie) : noLs (ts.map tieD) = true := noLs_of fun d hd => by
  obtain ⟨t, _, rfl⟩ := List.mem_map.mp hd
  rfl
theorem noL_web (n : Nat) (ts : List Tie) : noL (webD n ts) = true := by
  unfold webD tiesD noL noLs noLs
  rw [show noL (.tuple (ts.map tieD)) = noLs (ts.map tieD) by rw [noL], noL_ties]
  rfl
section
variable {K : PySem.W.Frag} {H : Hp} {v : V}
theorem tup_inv {ds : List PyData} (h : Dp K H v (.tuple ds)) : ∃ a xs, v = .ref a ∧ SqT K H a xs ∧ DpAll K H xs ds := by
  cases h with
  | tup hs ha => exact ⟨_, _, rfl, hs, ha⟩
theorem lst_inv {ds : List PyData} (h : Dp K H v (.list ds)) : ∃ a xs, v = .ref a ∧ SqL K H a xs ∧ DpAll K H xs ds := by
  cases h with
  | lst hs ha => exact ⟨_, _, rfl, hs, ha⟩
theorem tie_inv {t : Tie} (h : Dp K H v (tieD t)) : ∃ a, v = .ref a ∧ SqT K H a [.int (t.1 : Int), .int (t.2 : Int)] := by
  obtain ⟨a, xs, e, hs, ha⟩ := tup_inv h
  cases ha with
  | cons h1 h2 =>
    cases h2 with
    | cons h2 h3 =>
      cases h3
      cases h1
      cases h2
      exact ⟨a, e, hs⟩
theorem web_inv {n : Nat} {ts : List Tie} (h : Dp K H v (webD n ts)) : ∃ a q, v = .ref a ∧ SqT K H a [.int (n : Int), .ref q] ∧ Dp K H (.ref q) (tiesD ts) := by
  obtain ⟨a, xs, e, hs, ha⟩ := tup_inv h
  cases ha with
  | cons h1 h2 =>
    cases h2 with
    | cons h2 h3 =>
      cases h3
      cases h1
      obtain ⟨q, _, e2, _⟩ := tup_inv h2
      subst e2
      exact ⟨a, q, e, hs, h2⟩
theorem ties_inv {ts : List Tie} {q : Addr} (h : Dp K H (.ref q) (tiesD ts)) : ∃ xs, SqT K H q xs ∧ DpAll K H xs (ts.map tieD) ∧ xs.length = ts.length := by
  obtain ⟨a, xs, e, hs, ha⟩ := tup_inv h
  cases e
  exact ⟨xs, hs, ha, by rw [dpAll_len ha, List.length_map]⟩
theorem ties_at {ts : List Tie} {xs : List V} {i : Nat} {x : V} (h : DpAll K H xs (ts.map tieD)) (e : xs[i]? = some x) : ∃ t, ts[i]? = some t ∧ Dp K H x (tieD t) := by
  obtain ⟨d, h1, h2⟩ := dpAll_get h e
  rw [List.getElem?_map] at h1
  cases q : ts[i]? with
  | none =>
    rw [q] at h1
    cases h1
  | some t =>
    rw [q] at h1
    cases h1
    exact ⟨t, rfl, h2⟩
theorem dp_tie {t : Tie} {a : Addr} (h : SqT K H a [.int (t.1 : Int), .int (t.2 : Int)]) : Dp K H (.ref a) (tieD t) := .tup h (.cons (.int _) (.cons (.int _) .nil))
theorem dp_web {n : Nat} {ts : List Tie} {a q : Addr} (h : SqT K H a [.int (n : Int), .ref q]) (hq : Dp K H (.ref q) (tiesD ts)) : Dp K H (.ref a) (webD n ts) := .tup h (.cons (.int _) (.cons hq .nil))
/-- the built-in type of data -/
def tyN : PyData → String
  | .none => "NoneType"
  | .bool _ => "bool"
  | .int _ => "int"
  | .str _ => "str"
  | .list _ => "list"
  | .tuple _ => "tuple"
  | .dict _ => "dict"
theorem dp_ty : ∀ {d : PyData}, Dp K H v d → TyX K H v (.type (tyN d))
  | _, .non => .base .non
  | _, .bl b => .base (.bl b)
  | _, .int i => .base (.int i)
  | _, .str x => .base (.str x)
  | _, .lst hs _ => by
    rcases hs with (h | ⟨o, h⟩) | ⟨o, its, n, h, c, _⟩
    · exact .base (.lst h)
    · exact .base (.frz h)
    · exact .kList h c
  | _, .tup hs _ => by
    rcases hs with (h | ⟨o, h⟩) | ⟨o, its, n, h, c, _⟩
    · exact .base (.tup h)
    · exact .fTuple h
    · exact .kTuple h c
end
/-! ### what evaluates to which data -/
def EvD (K : PySem.W.Frag) (te : TE) (σ : St) (H : Hp) (d : PyData) : Prop := ∀ H1, Ex H H1 → ∀ Q : VK, (∀ v H2, Ex H1 H2 → Dp K H2 v d → Q v H2) → te σ H1 Q
/-- a new list of such -/
def EvDL (K : PySem.W.Frag) (te : TE) (σ : St) (H : Hp) (ds : List PyData) : Prop := ∀ H1, Ex H H1 → ∀ Q : VK, (∀ p xs H2, H1 p = none → Ex H1 H2 → H2 p = some (.lst xs) → DpAll K H2 xs ds → Q (.ref p) H2) → te σ H1 Q
def EvDA (K : PySem.W.Frag) (ta : TA) (σ : St) (H : Hp) (ds : List PyData) : Prop := ∀ H1, Ex H H1 → ∀ Q : List V → Hp → Prop, (∀ vs H2, Ex H1 H2 → DpAll K H2 vs ds → Q vs H2) → ta σ H1 Q
section
variable {K : PySem.W.Frag} {σ : St} {H H' : Hp} {ta tb te tx : TE} {t u : TT} {x y z v : V} {d : PyData} {ds : List PyData}
theorem evd_of (h : Ev te σ H v) (hd : Dp K H v d) : EvD K te σ H d := fun H1 e Q q => h H1 e Q fun H2 e2 => q v H2 e2 (dp_ex (e.trans e2) d v hd)
theorem evd_int {i : Int} (h : Ev te σ H (.int i)) : EvD K te σ H (.int i) := evd_of h (.int i)
theorem ev_of_int {i : Int} (h : EvD K te σ H (.int i)) : Ev te σ H (.int i) := fun H1 e Q q => h H1 e Q fun v H2 e2 hd => by
  cases hd
  exact q H2 e2
theorem EvD.mono (e : Ex H H') (h : EvD K te σ H d) : EvD K te σ H' d := fun H1 a Q q => h H1 (e.trans a) Q q
theorem eda_nil : EvDA K tNil σ H [] := fun H1 _ _ q => q [] H1 (Ex.refl H1) .nil
theorem eda_cons {tr : TA} (h : EvD K te σ H d) (hr : EvDA K tr σ H ds) : EvDA K (tCons te tr) σ H (d :: ds) := fun H1 e _ q =>
  h H1 e _ fun v H2 e2 hd => hr H2 (e.trans e2) _ fun vs H3 e3 hds => q (v :: vs) H3 (e2.trans e3) (.cons (dp_ex e3 d v hd) hds)
theorem evd_tup {ta : TA} (h : EvDA K ta σ H ds) (hl : ds.length ≤ 100000) : EvD K (tTup ta) σ H (.tuple ds) := fun H1 e _ q =>
  h H1 e _ fun vs H2 e2 hds => ⟨by rw [dpAll_len hds]; exact sz_of hl, fun p hp => q _ _ (e2.trans (Ex.new hp)) (.tup (st_of upd_same) (dpAll_ex (Ex.new hp) ds vs hds))⟩
theorem evd_lst {ta : TA} (h : EvDA K ta σ H ds) (hl : ds.length ≤ 100000) : EvDL K (tLst ta) σ H ds := fun H1 e _ q =>
  h H1 e _ fun vs H2 e2 hds => ⟨by rw [dpAll_len hds]; exact sz_of hl, fun p hp => q p vs _ (fresh_back e2 hp) (e2.trans (Ex.new hp)) upd_same (dpAll_ex (Ex.new hp) ds vs hds)⟩
theorem evd_pair {a b : Nat} (ha : Ev ta σ H (.int (a : Int))) (hb : Ev tb σ H (.int (b : Int))) : EvD K (tTup (tCons ta (tCons tb tNil))) σ H (tieD (a, b)) := evd_tup (eda_cons (evd_int ha) (eda_cons (evd_int hb) eda_nil)) (by show 2 ≤ 100000; decide)
/-- len of a tuple -/
theorem ev_lenT {p : Addr} {xs : List V} (ha : Ev ta σ H (.ref p)) (h : SqT K H p xs) : Ev (tCB (rLenS K) (tCons ta tNil)) σ H (.int (xs.length : Int)) := fun H1 e Q q =>
  ha H1 e _ fun H2 e2 => ⟨p, xs, rfl, Or.inr (ex_t (e.trans e2) h), q H2 e2⟩
/-- t[i] of a tuple -/
theorem ev_ixT {p : Addr} {xs : List V} {j : Nat} (ha : Ev ta σ H (.ref p)) (h : SqT K H p xs) (hb : Ev tb σ H (.int (j : Int))) (hv : xs[j]? = some v) : Ev (tOp (rIxT K) ta tb) σ H v := ev_op ha hb (rv_ixT h (atI_nat hv))
theorem ev_ixL {p : Addr} {xs : List V} {j : Nat} (ha : Ev ta σ H (.ref p)) (h : SqL K H p xs) (hb : Ev tb σ H (.int (j : Int))) (hv : xs[j]? = some v) : Ev (tOp (rIxL K) ta tb) σ H v := ev_op ha hb (rv_ixL h (atI_nat hv))
/-- isinstance(x, T), T a built-in type -/
theorem ev_isi {T : String} {b : Bool} (ha : Ev ta σ H v) (hd : Dp K H v d) (hb : kitB (tyN d) T = some b) : Ev (tCB (rIsi K) (tCons ta (tCons (tC (.ty T)) tNil))) σ H (.bl b) := fun H1 e Q q =>
  ha H1 e _ fun H2 e2 => ⟨v, .ty T, _, _, b, rfl, .ty T, dp_ty (dp_ex (e.trans e2) d v hd), kit_ty hb, q H2 e2⟩
theorem bl_inj {a b : Bool} (h : V.bl a = V.bl b) : a = b := by
  injection h
theorem int_inj {a b : Int} (h : V.int a = V.int b) : a = b := by
  injection h
theorem dec_ne {a b : Int} : (!decide (V.int a = V.int b)) = !decide (a = b) := by
  by_cases h : a = b
  · rw [h]
    simp
  · rw [decide_eq_false h, decide_eq_false fun e => h (int_inj e)]
theorem dec_eq {a b : Int} : decide (V.int a = V.int b) = decide (a = b) := by
  by_cases h : a = b
  · rw [h]
    simp
  · rw [decide_eq_false h, decide_eq_false fun e => h (int_inj e)]
theorem yes_if {A B : Hp → Prop} (h : A H) : tYes σ H (fun b H3 => if b = true then A H3 else B H3) := by
  show if true = true then A H else B H
  rw [if_pos rfl]
  exact h
/-- [.. for x in t], t a tuple: the i-th is told by ys -/
theorem el_lcT {a : Addr} {xs ys : List V} {tl : TE} {j : Nat} {vs : List Nat} (h : Ev tl σ H (.ref a)) (hx : SqT K H a xs) (hz : xs.length ≤ 40000) (hy : ys.length = xs.length) (hw : ∀ x, wipe ((wipe σ vs).set j (some x)) vs = wipe σ vs)
    (he : ∀ (i : Nat) (x y : V) H1, Ex H H1 → xs[i]? = some x → ys[i]? = some y → Ev te ((wipe σ vs).set j (some x)) H1 y) : EvL (tLc (iTup K tl) (gName j) tYes te vs) σ H ys := fun H0 e Q q => h H0 e _ fun H1 e1 => ⟨a, rfl, ⟨xs, ex_t (e.trans e1) hx⟩, fun Dl hD =>
  lc_tup (xs := xs) (fun i H' => Ex H1 H' ∧ H' Dl = some (.lst (ys.take i))) ⟨Ex.new hD, upd_same⟩ (fun i H' _ p => ex_t ((e.trans e1).trans p.1) hx) (fun i x H' hi p => ⟨hw x, by
    have hlt := (List.getElem?_eq_some_iff.mp hi).1
    have hyi : ys[i]? = some (ys[i]'(by omega)) := List.getElem?_eq_getElem (by omega)
    refine yes_if ?_
    refine he i x _ H1 (e.trans e1) hi hyi H' p.1 _ fun H4 e4 => ⟨ys.take i, e4 Dl _ p.2, sz_lt (by rw [List.length_take]; omega), Ex.mut (p.1.trans e4) hD, ?_⟩
    rw [upd_same, List.take_add_one, hyi]
    rfl⟩) (fun H' p => q Dl H' (fresh_back e1 hD) (e1.trans p.1) (by rw [p.2, ← hy, List.take_length]))⟩
/-- .. data without lists -/
theorem edl_lcT {a : Addr} {xs : List V} {tl : TE} {j : Nat} {vs : List Nat} (h : Ev tl σ H (.ref a)) (hx : SqT K H a xs) (hz : xs.length ≤ 40000) (hy : ds.length = xs.length) (hno : noLs ds = true) (hw : ∀ x, wipe ((wipe σ vs).set j (some x)) vs = wipe σ vs)
    (he : ∀ (i : Nat) (x : V) (d : PyData) H1, Ex H H1 → xs[i]? = some x → ds[i]? = some d → EvD K te ((wipe σ vs).set j (some x)) H1 d) : EvDL K (tLc (iTup K tl) (gName j) tYes te vs) σ H ds := fun H0 e Q q => h H0 e _ fun H1 e1 => ⟨a, rfl, ⟨xs, ex_t (e.trans e1) hx⟩, fun Dl hD =>
  lc_tup (xs := xs) (fun i H' => Ex H1 H' ∧ ∃ ys, H' Dl = some (.lst ys) ∧ DpAll K H' ys (ds.take i)) ⟨Ex.new hD, [], upd_same, .nil⟩ (fun i H' _ p => ex_t ((e.trans e1).trans p.1) hx) (fun i x H' hi p => ⟨hw x, by
    have hlt := (List.getElem?_eq_some_iff.mp hi).1
    have hyi : ds[i]? = some (ds[i]'(by omega)) := List.getElem?_eq_getElem (by omega)
    obtain ⟨p1, ys, p2, p3⟩ := p
    refine yes_if ?_
    refine he i x _ H1 (e.trans e1) hi hyi H' p1 _ fun v H4 e4 hv => ?_
    have hl : (ds.take i).length = i := by
      rw [List.length_take]
      omega
    refine ⟨ys, e4 Dl _ p2, sz_lt (by rw [dpAll_len p3, hl]; omega), Ex.mut (p1.trans e4) hD, ys ++ [v], upd_same, ?_⟩
    have xt : ExT H4 (upd H4 Dl (.lst (ys ++ [v]))) := ExT.lst (e4 Dl _ p2)
    rw [List.take_add_one, hyi]
    refine dpAll_app (dpAll_exT xt _ _ (noLs_take hno i) (dpAll_ex e4 _ _ p3)) (.cons (dp_exT xt _ _ (noLs_mem hno _ (List.getElem_mem _)) hv) .nil)⟩) (fun H' p => by
      obtain ⟨p1, ys, p2, p3⟩ := p
      exact q Dl ys H' (fresh_back e1 hD) (e1.trans p1) p2 (by rw [← hy, List.take_length] at p3; exact p3))⟩
end
end Wb
/-! is_whole .. need_web -/
namespace Wb
open PySem PySem.Spec PyProof.Rows L2 Evl Wm
/-! ### built-ins by name -/
theorem bt_isi : bootBuiltins "isinstance" = some (.builtin "isinstance") := by decide +kernel
theorem bt_len : bootBuiltins "len" = some (.builtin "len") := by decide +kernel
theorem bt_all : bootBuiltins "all" = some (.builtin "all") := by decide +kernel
theorem bt_tup : bootBuiltins "tuple" = some (.type "tuple") := by decide +kernel
theorem bt_int : bootBuiltins "int" = some (.type "int") := by decide +kernel
theorem bt_boo : bootBuiltins "bool" = some (.type "bool") := by decide +kernel
theorem bt_lst : bootBuiltins "list" = some (.type "list") := by decide +kernel
theorem bt_srt : bootBuiltins "sorted" = some (.builtin "sorted") := by decide +kernel
theorem bt_max : bootBuiltins "max" = some (.builtin "max") := by decide +kernel
theorem bt_min : bootBuiltins "min" = some (.builtin "min") := by decide +kernel
theorem bt_set : bootBuiltins "set" = some (.type "set") := by decide +kernel
theorem bt_val : bootBuiltins "ValueError" = some (.type "ValueError") := by decide +kernel
section
variable {X : Cx} {e : Expr} {te : TE} {p p2 pos : Pos}
theorem pe_len (Z : Blt X.mg) (he : PE X e te) (hg : Gl X "len" := by rfl) (hs : starEach (e :: []) X.env = (false, eval e X.env) :: starEach [] X.env := by rfl) : PE X (.Call (.Name "len" p) [e] [] pos) (tCB (rLenS X.K) (tCons te tNil)) :=
  pe_callB call_len_seq hg Z.len bt_len (pa_cons he pa_nil hs) (by decide) (by decide) hs
theorem pe_tyn {n : Str} {T : String} (hm : X.mg n = none) (hb : bootBuiltins n = some (.type T)) (hg : Gl X n := by rfl) (hn : n ≠ "__name__" := by decide) (hd : (n == ("__debug__" : Str)) = false := by decide) : PE X (.Name n pos) (tC (.ty T)) := pe_bltn hg hm hb rfl hn hd
theorem pe_isi {n : Str} {T : String} (Z : Blt X.mg) (he : PE X e te) (ht : PE X (.Name n p2) (tC (.ty T))) (hg : Gl X "isinstance" := by rfl) (hs : starEach (e :: [.Name n p2]) X.env = (false, eval e X.env) :: starEach [.Name n p2] X.env := by rfl)
    (hs2 : starEach (.Name n p2 :: []) X.env = (false, eval (.Name n p2) X.env) :: starEach [] X.env := by rfl) (hpl : (backTo pos (starEach [.Name n p2] X.env)).any (·.1) = false := by rfl) :
    PE X (.Call (.Name "isinstance" p) [e, .Name n p2] [] pos) (tCB (rIsi X.K) (tCons te (tCons (tC (.ty T)) tNil))) :=
  pe_callB call_isi hg Z.isi bt_isi (pa_cons he (pa_cons ht pa_nil hs2) hs) (by decide) (by decide) hs hpl
end
/-! ### a def of the text, its arguments bound -/
structure DefOk (K : PySem.W.Frag) (mg : Str → Option Value) (x : Str) (st : Stmt) (ps : List Str) : Prop where
  ex : ∃ f fd, C8.Def K mg x st f fd ∧ Binds K fd ps []
section
variable {P : Program} {w : World} {K : PySem.W.Frag} {mg : Str → Option Value} {base : Heap}
theorem cal_of {x : Str} {st : Stmt} {N ps : List Str} {k : Nat} {sp : Sp} (D : DefOk K mg x st ps) (S : FnScope N ps (C8.fnScope st)) (len : ∀ vs H Q E, sp vs H Q E → vs.length = ps.length)
    (hbody : ∀ (f : Addr) (cdv : Value) (A : Around) (outer : List Env) (s : Shared) (H : Hp) (vs : List V) (Q : VK) (E : XK), Room k (A.deeper (envOfC x (C8.fnScope st) s.heap.objs.size f cdv)) → sp vs H Q E →
      ∃ t, PSs (cxOf C8.CX0 P w K mg base N x (C8.fnScope st) f cdv A outer s H E).nox (C8.fnBody st) t ∧ t { nx := fun _ H' => Q .non H', rt := Q } (L2.start N vs) H) : C8.Cal P w K mg base (k + 1) x sp [] := by
  obtain ⟨f, fd, F, b⟩ := D.ex
  exact C8.cal0 F b .nil S len (hbody f)
end
/-! ### is_whole, is_place -/
def isIntN : PyData → Bool
  | .int _ => true
  | .bool _ => true
  | _ => false
def isBoolN : PyData → Bool
  | .bool _ => true
  | _ => false
def isTupN : PyData → Bool
  | .tuple _ => true
  | _ => false
def isWholeD : PyData → Bool
  | .int _ => true
  | _ => false
theorem kit_int : ∀ d, kitB (tyN d) "int" = some (isIntN d)
  | .none => (by decide +kernel : kitB "NoneType" "int" = some false)
  | .bool _ => (by decide +kernel : kitB "bool" "int" = some true)
  | .int _ => (by decide +kernel : kitB "int" "int" = some true)
  | .str _ => (by decide +kernel : kitB "str" "int" = some false)
  | .list _ => (by decide +kernel : kitB "list" "int" = some false)
  | .tuple _ => (by decide +kernel : kitB "tuple" "int" = some false)
  | .dict _ => (by decide +kernel : kitB "dict" "int" = some false)
theorem kit_bool : ∀ d, kitB (tyN d) "bool" = some (isBoolN d)
  | .none => (by decide +kernel : kitB "NoneType" "bool" = some false)
  | .bool _ => (by decide +kernel : kitB "bool" "bool" = some true)
  | .int _ => (by decide +kernel : kitB "int" "bool" = some false)
  | .str _ => (by decide +kernel : kitB "str" "bool" = some false)
  | .list _ => (by decide +kernel : kitB "list" "bool" = some false)
  | .tuple _ => (by decide +kernel : kitB "tuple" "bool" = some false)
  | .dict _ => (by decide +kernel : kitB "dict" "bool" = some false)
theorem kit_tup : ∀ d, kitB (tyN d) "tuple" = some (isTupN d)
  | .none => (by decide +kernel : kitB "NoneType" "tuple" = some false)
  | .bool _ => (by decide +kernel : kitB "bool" "tuple" = some false)
  | .int _ => (by decide +kernel : kitB "int" "tuple" = some false)
  | .str _ => (by decide +kernel : kitB "str" "tuple" = some false)
  | .list _ => (by decide +kernel : kitB "list" "tuple" = some false)
  | .tuple _ => (by decide +kernel : kitB "tuple" "tuple" = some true)
  | .dict _ => (by decide +kernel : kitB "dict" "tuple" = some false)
theorem whole_eq : ∀ d, (isIntN d && !isBoolN d) = isWholeD d
  | .none => rfl
  | .bool _ => rfl
  | .int _ => rfl
  | .str _ => rfl
  | .list _ => rfl
  | .tuple _ => rfl
  | .dict _ => rfl
def spWhole (K : PySem.W.Frag) : Sp := fun vs H Q _ => ∃ v d, vs = [v] ∧ Dp K H v d ∧ RetV (.bl (isWholeD d)) H Q
/-- thing is one of n places -/
def isPlaceD (n : Int) : PyData → Bool
  | .int i => decide (0 ≤ i) && decide (i < n)
  | _ => false
def spPlace (K : PySem.W.Frag) : Sp := fun vs H Q _ => ∃ n v d, vs = [.int n, v] ∧ Dp K H v d ∧ RetV (.bl (isPlaceD n d)) H Q
theorem not_whole {d : PyData} (h : isWholeD d = false) (n : Int) : isPlaceD n d = false := by
  cases d <;> first | rfl | cases h
theorem whole_int {d : PyData} (h : isWholeD d = true) : ∃ i, d = .int i := by
  cases d <;> first | exact ⟨_, rfl⟩ | cases h
section
variable {P : Program} {w : World} {K : PySem.W.Frag} {mg : Str → Option Value} {base : Heap}
theorem sc_whole : FnScope ["thing"] ["thing"] (C8.fnScope (topS 17)) := C8.fnScope_by (by decide +kernel)
theorem cal_whole (D : DefOk K mg "is_whole" (topS 17) ["thing"]) (Z : Blt mg) : C8.Cal P w K mg base 1 "is_whole" (spWhole K) [] := by
  refine cal_of D sc_whole (fun vs H Q E h => ?_) (fun f cdv A outer s H vs Q E hr h => ?_)
  · obtain ⟨v, d, rfl, _⟩ := h
    rfl
  obtain ⟨v, d, rfl, hd, k⟩ := h
  refine ⟨_, pss_one (ps_ret (pe_and (pe_isi Z (pv 0) (pe_tyn Z.int bt_int)) (pe_one (pe_not (pe_isi Z (pv 0) (pe_tyn Z.boo bt_boo)))))), ?_⟩
  refine s_ret (v := .bl (isWholeD d)) (ev_is (ev_andV (ev_isi (ev_var rfl) hd (kit_int d)) fun _ => ev_notV (ev_isi (ev_var rfl) hd (kit_bool d))) (by rw [whole_eq])) fun H1 e => k H1 e
theorem sp_whole {v : V} {H : Hp} {d : PyData} (hd : Dp K H v d) : SpV (spWhole K) [v] H (.bl (isWholeD d)) := fun H1 e Q q E => ⟨v, d, rfl, dp_ex e d v hd, q⟩
theorem sp_place {n : Int} {v : V} {H : Hp} {d : PyData} (hd : Dp K H v d) : SpV (spPlace K) [.int n, v] H (.bl (isPlaceD n d)) := fun H1 e Q q E => ⟨n, v, d, rfl, dp_ex e d v hd, q⟩
theorem sc_place : FnScope ["many", "thing"] ["many", "thing"] (C8.fnScope (topS 18)) := C8.fnScope_by (by decide +kernel)
/-- a <= b < c -/
theorem ev_chain {σ : St} {H : Hp} {ta tb tc : TE} {i j l : Int} (ha : Ev ta σ H (.int i)) (hb : Ev tb σ H (.int j)) (hc : Ev tc σ H (.int l)) :
    Ev (tChain (rI0 fun i j => .bl (decide (i ≤ j))) (rI0 fun i j => .bl (decide (i < j))) ta tb tc) σ H (.bl (decide (i ≤ j) && decide (j < l))) := fun H1 e Q q =>
  ha H1 e _ fun H2 e2 => hb H2 (e.trans e2) _ fun H3 e3 => ⟨i, j, rfl, rfl, decide (i ≤ j), rfl, by
    cases hij : decide (i ≤ j) with
    | true =>
      rw [hij, Bool.true_and] at q
      exact iteT (hc H3 ((e.trans e2).trans e3) _ fun H4 e4 => ⟨j, l, rfl, rfl, q H4 ((e2.trans e3).trans e4)⟩)
    | false =>
      rw [hij, Bool.false_and] at q
      exact iteF (q H3 (e2.trans e3))⟩
theorem cal_place (D : DefOk K mg "is_place" (topS 18) ["many", "thing"]) (Z : Blt mg) (cW : C8.Cal P w K mg base 1 "is_whole" (spWhole K) []) : C8.Cal P w K mg base 2 "is_place" (spPlace K) [] := by
  refine cal_of D sc_place (fun vs H Q E h => ?_) (fun f cdv A outer s H vs Q E hr h => ?_)
  · obtain ⟨n, v, d, rfl, _⟩ := h
    rfl
  obtain ⟨n, v, d, rfl, hd, k⟩ := h
  refine ⟨_, pss_one (ps_ret (pe_and (C8.pe_c cW hr (Nat.le_refl _) (by rfl) (pa_cons (pv 1) pa_nil)) (pe_one (pe_chain op_le op_lt pe_int (pv 1) (pv 0))))), ?_⟩
  refine s_ret (v := .bl (isPlaceD n d)) (ev_is (ev_andV (b := isPlaceD n d) (ev_call (ea_cons (ev_var rfl) ea_nil) (sp_whole hd)) fun hw => ?_) ?_) fun H1 e => k H1 e
  · obtain ⟨i, rfl⟩ := whole_int hw
    cases hd
    exact ev_chain ev_c (ev_var rfl) (ev_var rfl)
  · cases d <;> rfl
end
end Wb
/-! is_tie, rises, is_web -/
namespace Wb
open PySem PySem.Spec PyProof.Rows L2 Evl Wm RZ
section
variable {K : PySem.W.Frag} {σ : St} {H H' : Hp} {ta tb tc te : TE} {t u : TT}
theorem ev_all {bs : List Bool} (h : EvL te σ H (bs.map V.bl)) : Ev (tCB (rAll K) (tCons te tNil)) σ H (.bl (bs.all id)) := fun H1 e Q q => h H1 e _ fun p H2 _ e2 hp => ⟨p, bs, rfl, sq_of hp, q H2 e2⟩
theorem et_or_t (h : EvT t σ H true) : EvT (tOr t u) σ H true := fun H1 e Q q => h H1 e _ fun H2 e2 => iteT (q H2 e2)
theorem et_or_f {b : Bool} (h : EvT t σ H false) (k : EvT u σ H b) : EvT (tOr t u) σ H b := et_is (et_or h fun _ => k) (Bool.false_or b)
/-- a <= b <= c -/
theorem ev_chainLL {i j l : Int} (ha : Ev ta σ H (.int i)) (hb : Ev tb σ H (.int j)) (hc : Ev tc σ H (.int l)) :
    Ev (tChain (rI0 fun i j => .bl (decide (i ≤ j))) (rI0 fun i j => .bl (decide (i ≤ j))) ta tb tc) σ H (.bl (decide (i ≤ j) && decide (j ≤ l))) := fun H1 e Q q =>
  ha H1 e _ fun H2 e2 => hb H2 (e.trans e2) _ fun H3 e3 => ⟨i, j, rfl, rfl, decide (i ≤ j), rfl, by
    cases hij : decide (i ≤ j) with
    | true =>
      rw [hij, Bool.true_and] at q
      exact iteT (hc H3 ((e.trans e2).trans e3) _ fun H4 e4 => ⟨j, l, rfl, rfl, q H4 ((e2.trans e3).trans e4)⟩)
    | false =>
      rw [hij, Bool.false_and] at q
      exact iteF (q H3 (e2.trans e3))⟩
theorem walk_zipT {a b : Addr} {xs ys : List V} {n : Nat} (hn : n = min xs.length ys.length) : Walk (ItzT K a b) n (fun H => SqT K H a xs ∧ SqT K H b ys) (YPair (fun i => xs[i]?) (fun i => ys[i]?)) := by
  subst hn
  refine ⟨fun i _ hi q => ?_, fun _ q => ⟨xs, ys, q.1, q.2, by omega⟩, fun i H v H' _ q y => ?_⟩
  · have h1 : i < xs.length := by omega
    have h2 : i < ys.length := by omega
    exact ⟨xs, ys, xs[i], ys[i], q.1, q.2, by simp [h1], by simp [h2]⟩
  · obtain ⟨T, x, z, h1, h2, h3, h4, h5⟩ := y
    exact ⟨T, x, z, h1, h2, h3, h4 xs q.1, h5 ys q.2⟩
end
/-! ### is_tie -/
def ltHead : List PyData → Bool
  | [.int a, .int b] => decide (a < b)
  | _ => false
def isTieD (n : Int) : PyData → Bool
  | .tuple ds => (decide (ds.length = 2) && ds.all (isPlaceD n)) && ltHead ds
  | _ => false
theorem isTieD_tup (n : Int) (ds : List PyData) : isTieD n (.tuple ds) = ((decide (ds.length = 2) && ds.all (isPlaceD n)) && ltHead ds) := rfl
def spTie (K : PySem.W.Frag) : Sp := fun vs H Q _ => ∃ n v d, vs = [.int n, v] ∧ Dp K H v d ∧ RetV (.bl (isTieD n d)) H Q
theorem sp_tie {K : PySem.W.Frag} {n : Int} {v : V} {H : Hp} {d : PyData} (hd : Dp K H v d) : SpV (spTie K) [.int n, v] H (.bl (isTieD n d)) := fun H1 e Q q E => ⟨n, v, d, rfl, dp_ex e d v hd, q⟩
theorem not_tup {n : Int} {d : PyData} (h : isTupN d = false) : isTieD n d = false := by
  cases d <;> first | rfl | cases h
theorem tup_of {d : PyData} (h : isTupN d = true) : ∃ ds, d = .tuple ds := by
  cases d <;> first | exact ⟨_, rfl⟩ | cases h
theorem two_places {n : Int} {ds : List PyData} (h : ds.length = 2) (k : ds.all (isPlaceD n) = true) : ∃ a b : Int, ds = [.int a, .int b] := by
  match ds, h with
  | [d0, d1], _ =>
    simp only [List.all_cons, List.all_nil, Bool.and_true, Bool.and_eq_true] at k
    obtain ⟨k0, k1⟩ := k
    cases d0 <;> first | cases k0 | skip
    cases d1 <;> first | cases k1 | skip
    exact ⟨_, _, rfl⟩
section
variable {P : Program} {w : World} {K : PySem.W.Frag} {mg : Str → Option Value} {base : Heap}
abbrev nTie : List Str := ["many", "thing", "one"]
theorem sc_tie : FnScope nTie ["many", "thing"] (C8.fnScope (topS 20)) := C8.fnScope_by (by decide +kernel)
theorem cal_tie (D : DefOk K mg "is_tie" (topS 20) ["many", "thing"]) (Z : Blt mg) (cP : C8.Cal P w K mg base 2 "is_place" (spPlace K) []) : C8.Cal P w K mg base 3 "is_tie" (spTie K) [] := by
  refine cal_of D sc_tie (fun vs H Q E h => ?_) (fun f cdv A outer s H vs Q E hr h => ?_)
  · obtain ⟨n, v, d, rfl, _⟩ := h
    rfl
  obtain ⟨n, v, d, rfl, hd, k⟩ := h
  refine ⟨_, pss_cons (ps_if (PW.pt (pw_or (pt_not (pt_val (pe_isi Z (pv 1) (pe_tyn Z.tup bt_tup)))) (pw_or (pt_cmpR op_ne (pe_len Z (pv 1)) pe_int (nomark _))
      (pw_or1 (pt_not (pt_val (pe_callB (cr_all rfl) (by rfl) Z.all bt_all (pa_cons (pe_lc (own := [("one", 2)]) (g := gName 2) (tt := tYes) rfl sc_tie.nd (pi_tup (pv 1)) (blkOk_by (N := nTie) (sc := C8.fnScope (topS 20)) (by decide +kernel)) (fun _ _ _ _ _ => pg_name (i := 2) sc_tie.nd rfl (Or.inl rfl)) (fun _ _ _ _ _ => pts_nil)
        (fun _ _ _ _ _ => C8.pe_c cP hr (Nat.le_refl _) (by rfl) (pa_cons (pv 0) (pa_cons (pv 2) pa_nil)))) pa_nil)))))))) (pss_one (ps_ret pe_bl)) pss_nil)
    (pss_one (ps_ret (pe_cmpR op_lt (pe_ix ix_tup (pv 1) pe_int (fun _ _ => rfl)) (pe_ix ix_tup (pv 1) pe_int (fun _ _ => rfl)) (nomark _)))), ?_⟩
  have e1 := ev_isi (K := K) (σ := [some (.int n), some v, none]) (ta := tVar 1) (ev_var rfl) hd (kit_tup d)
  cases ht : isTupN d with
  | false =>
    rw [ht] at e1
    refine q_when (b := true) (et_or_t (et_not (et_B e1))) (fun _ H1 e2 => ?_) (fun q => nomatch q)
    refine s_ret ev_c fun H2 e3 => ?_
    rw [← not_tup (n := n) ht]
    exact k H2 (e2.trans e3)
  | true =>
    rw [ht] at e1
    obtain ⟨ds, rfl⟩ := tup_of ht
    obtain ⟨a, xs, rfl, hs, ha⟩ := tup_inv hd
    have hl := dpAll_len ha
    have e2 : EvT (tTest (tOp rNe (tCB (rLenS K) (tCons (tVar 1) tNil)) (tC (.int 2)))) [some (.int n), some (.ref a), none] H (!decide ((xs.length : Int) = 2)) := et_is (et_test (ev_op (ev_lenT (ev_var rfl) hs) ev_c (rv_ne rfl))) dec_ne
    by_cases h2 : xs.length = 2
    · refine q_when (b := !(ds.all (isPlaceD n))) (et_or_f (et_not (et_B e1)) (et_or_f (et_is e2 (by rw [h2]; rfl)) (et_is (et_not (et_B (ev_all (bs := ds.map (isPlaceD n)) (el_lcT (j := 2) (vs := [2]) (ev_var rfl) hs (by omega) (by rw [List.length_map, List.length_map]; exact hl.symm) (fun _ => rfl) fun i x y H1 e hx hy => ?_)))) (by rw [List.all_map]; rfl)))) (fun hb H1 e4 => ?_) (fun hb H1 e4 => ?_)
      · obtain ⟨d, hd1, hd2⟩ := dpAll_get ha hx
        have ey : y = .bl (isPlaceD n d) := by
          rw [List.getElem?_map, List.getElem?_map, hd1] at hy
          exact (Option.some.inj hy).symm
        subst ey
        exact ev_call (ea_cons (ev_var rfl) (ea_cons (ev_var rfl) ea_nil)) (sp_place (dp_ex e d x hd2))
      · refine s_ret ev_c fun H2 e5 => ?_
        have z : isTieD n (.tuple ds) = false := by
          rw [isTieD_tup]
          rw [Bool.not_eq_true'] at hb
          rw [hb, Bool.and_false, Bool.false_and]
        rw [← z]
        exact k H2 (e4.trans e5)
      · rw [Bool.not_eq_false'] at hb
        obtain ⟨i, j, rfl⟩ := two_places (by rw [← hl]; exact h2) hb
        cases ha with
        | cons h1 hr2 =>
          cases hr2 with
          | cons h3 h4 =>
            cases h4
            cases h1
            cases h3
            refine s_ret (v := .bl (decide (i < j))) (ev_op (ev_ixT (j := 0) (ev_var rfl) (ex_t e4 hs) ev_c rfl) (ev_ixT (j := 1) (ev_var rfl) (ex_t e4 hs) ev_c rfl) rv_I0) fun H2 e5 => ?_
            have z : isTieD n (.tuple [.int i, .int j]) = decide (i < j) := by
              rw [isTieD_tup]
              rw [hb]
              rfl
            rw [← z]
            exact k H2 (e4.trans e5)
    · refine q_when (b := true) (et_or_f (et_not (et_B e1)) (et_or_t (et_is e2 (by rw [decide_eq_false (by omega)]; rfl)))) (fun _ H1 e4 => ?_) (fun q => nomatch q)
      refine s_ret ev_c fun H2 e3 => ?_
      have z : isTieD n (.tuple ds) = false := by
        rw [isTieD_tup]
        rw [decide_eq_false (by omega), Bool.false_and, Bool.false_and]
      rw [← z]
      exact k H2 (e4.trans e3)
end
end Wb
/-! rises, is_web, need_web -/
namespace Wb
open PySem PySem.Spec PyProof.Rows L2 Evl Wm RZ
/-! ### rises -/
def risesN (ts : List Tie) : Bool := ((List.range (ts.length - 1)).map fun i => decide (ltT (tieAt ts i) (tieAt ts (i + 1)))).all id
theorem rises_up {ts : List Tie} (h : ts.Pairwise ltT) : risesN ts = true := by
  unfold risesN
  rw [List.all_map, List.all_eq_true]
  intro i hi
  rw [List.mem_range] at hi
  show decide _ = true
  rw [decide_eq_true_eq]
  have h1 := tieAt_of (ts := ts) (k := i) (by omega)
  have h2 := tieAt_of (ts := ts) (k := i + 1) (by omega)
  obtain ⟨k1, e1⟩ := List.getElem?_eq_some_iff.mp h1
  obtain ⟨k2, e2⟩ := List.getElem?_eq_some_iff.mp h2
  rw [← e1, ← e2]
  exact List.pairwise_iff_getElem.mp h i (i + 1) k1 k2 (Nat.lt_succ_self i)
theorem lex_lt (t u : Tie) : HT.lexLt [(t.1 : Int), (t.2 : Int)] [(u.1 : Int), (u.2 : Int)] = decide (ltT t u) := by
  rw [HT.lexLt_cons, HT.lexLt_cons, HT.lexLt_nil_nil]
  unfold ltT
  by_cases h1 : t.1 = u.1
  · rw [if_pos (by omega)]
    by_cases h2 : t.2 = u.2
    · rw [if_pos (by omega)]
      exact (decide_eq_false (by omega)).symm
    · rw [if_neg (by omega)]
      by_cases h3 : t.2 < u.2
      · rw [decide_eq_true (by omega : (t.2 : Int) < (u.2 : Int))]
        exact (decide_eq_true (by omega)).symm
      · rw [decide_eq_false (by omega : ¬ (t.2 : Int) < (u.2 : Int))]
        exact (decide_eq_false (by omega)).symm
  · rw [if_neg (by omega)]
    by_cases h3 : t.1 < u.1
    · rw [decide_eq_true (by omega : (t.1 : Int) < (u.1 : Int))]
      exact (decide_eq_true (by omega)).symm
    · rw [decide_eq_false (by omega : ¬ (t.1 : Int) < (u.1 : Int))]
      exact (decide_eq_false (by omega)).symm
theorem cut1 (xs : List V) : cutV xs (some 1) none = xs.drop 1 := by
  unfold cutV
  rw [show HT.sIx xs.length 0 (some 1) = min 1 xs.length from HT.sIx_nat xs.length 0 1, HT.sIx_none]
  cases xs with
  | nil => rfl
  | cons x r =>
    rw [show min 1 (x :: r).length = 1 by
      rw [List.length_cons]
      omega]
    show (List.take ((x :: r).length - 1) r) = r
    rw [List.length_cons, Nat.add_sub_cancel]
    exact List.take_length
def spRises (K : PySem.W.Frag) : Sp := fun vs H Q _ => ∃ v ts, vs = [v] ∧ Dp K H v (tiesD ts) ∧ ts.length ≤ 1000 ∧ RetV (.bl (risesN ts)) H Q
theorem sp_rises {K : PySem.W.Frag} {v : V} {H : Hp} {ts : List Tie} (hd : Dp K H v (tiesD ts)) (hl : ts.length ≤ 1000) : SpV (spRises K) [v] H (.bl (risesN ts)) := fun H1 e Q q E => ⟨v, ts, rfl, dp_ex e _ v hd, hl, q⟩
section
variable {P : Program} {w : World} {K : PySem.W.Frag} {mg : Str → Option Value} {base : Heap}
abbrev nRises : List Str := ["some", "one", "other"]
theorem sc_rises : FnScope nRises ["some"] (C8.fnScope (topS 19)) := C8.fnScope_by (by decide +kernel)
/-- [x < y for x, y in zip(t, u)], u behind t's first -/
theorem el_rises {xs : List V} {ts : List Tie} {s0 : Option V} {H : Hp} {ta : TA} (hta : ∀ H1, Ex H H1 → ∀ Q : List V → Hp → Prop, (∀ a b H2, Ex H1 H2 → SqT K H2 a xs → SqT K H2 b (xs.drop 1) → Q [.ref a, .ref b] H2) → ta [s0, none, none] H1 Q) (hxs : DpAll K H xs (ts.map tieD)) (hl : ts.length ≤ 1000) :
    EvL (tLc (iZipA K ta) (gTup K 2 (gCons (gName 1) (gCons (gName 2) gNil))) tYes (tOp (rLtT K) (tVar 1) (tVar 2)) [1, 2]) [s0, none, none] H (((List.range (ts.length - 1)).map fun i => decide (ltT (tieAt ts i) (tieAt ts (i + 1)))).map V.bl) := fun H0 e0 Q q => hta H0 e0 _ fun a b H1 e1 hx hy => ⟨a, b, xs, xs.drop 1, rfl, .inr ⟨hx, hy, fun D hD => by
  have ha := dpAll_ex (e0.trans e1) _ _ hxs
  have hlen : xs.length = ts.length := by rw [dpAll_len ha, List.length_map]
  have hn : ts.length - 1 = min xs.length (xs.drop 1).length := by
    rw [List.length_drop]
    omega
  refine lc_it (walk_zipT (K := K) (a := a) (b := b) hn) (fun i H' => Ex H1 H' ∧ H' D = some (.lst (((List.range i).map fun i => decide (ltT (tieAt ts i) (tieAt ts (i + 1)))).map V.bl))) ⟨Ex.new hD, upd_same⟩ (fun i H' _ p => ⟨ex_t p.1 hx, ex_t p.1 hy⟩) (fun i v H' H'' hi p y => ?_) fun H' p => q D H' (fresh_back e1 hD) (e1.trans p.1) p.2
  obtain ⟨T, x, z, rfl, hT, rfl, f1, f2⟩ := y
  obtain ⟨p1, p2⟩ := p
  have eT : Ex H' (upd H' T (.tup [x, z])) := Ex.new hT
  obtain ⟨t, ht, hxt⟩ := ties_at ha f1
  have f2' : xs[i + 1]? = some z := by
    have f3 : (xs.drop 1)[i]? = some z := f2
    rw [List.getElem?_drop, Nat.add_comm] at f3
    exact f3
  obtain ⟨u, hu, hzu⟩ := ties_at ha f2'
  obtain ⟨pa, rfl, sa⟩ := tie_inv (dp_ex (p1.trans eT) _ _ hxt)
  obtain ⟨pb, rfl, sb⟩ := tie_inv (dp_ex (p1.trans eT) _ _ hzu)
  have et : tieAt ts i = t := Option.some.inj ((tieAt_of (by omega)).symm.trans ht)
  have eu : tieAt ts (i + 1) = u := Option.some.inj ((tieAt_of (by omega)).symm.trans hu)
  refine ⟨T, _, rfl, st_of upd_same, rfl, _, _, rfl, _, _, rfl, rfl, rfl, yes_if ?_⟩
  refine ⟨.ref pa, rfl, .ref pb, rfl, pa, pb, [(t.1 : Int), (t.2 : Int)], [(u.1 : Int), (u.2 : Int)], rfl, rfl, sa, sb, _, eT D _ p2, ?_, ?_, ?_⟩
  · rw [List.length_map, List.length_map, List.length_range]
    exact sz_lt (by omega)
  · exact Ex.mut (p1.trans eT) hD
  · rw [upd_same, lex_lt, List.range_succ, List.map_append, List.map_append, ← et, ← eu]
    rfl⟩⟩
theorem cal_rises (D : DefOk K mg "rises" (topS 19) ["some"]) (Z : Blt mg) : C8.Cal P w K mg base 1 "rises" (spRises K) [] := by
  refine cal_of D sc_rises (fun vs H Q E h => ?_) (fun f cdv A outer s H vs Q E hr h => ?_)
  · obtain ⟨v, ts, rfl, _⟩ := h
    rfl
  obtain ⟨v, ts, rfl, hd, hl, k⟩ := h
  refine ⟨_, pss_one (ps_ret (pe_callB (cr_all rfl) (by rfl) Z.all bt_all (pa_cons (pe_lc (own := [("one", 1), ("other", 2)]) (g := gTup K 2 (gCons (gName 1) (gCons (gName 2) gNil))) (tt := tYes) (te := tOp (rLtT K) (tVar 1) (tVar 2)) rfl sc_rises.nd (pi_zipA (by rfl) Z.zip (pa_cons (pv 0) (pa_cons (pe_slice sl_tupA (pv 0) (po_some pe_int) po_none) pa_nil)))
    (blkOk_by (N := nRises) (sc := C8.fnScope (topS 19)) (by decide +kernel)) (fun _ _ _ _ _ => pg_tup rfl (pgs_cons (pg_name (i := 1) sc_rises.nd rfl (Or.inl rfl)) (pgs_cons (pg_name (i := 2) sc_rises.nd rfl (Or.inl rfl)) pgs_nil))) (fun _ _ _ _ _ => pts_nil)
    (fun _ _ _ _ _ => pe_cmpR (op_ltT hr.units0) (pv 1) (pv 2) (nomark _))) pa_nil))), ?_⟩
  obtain ⟨a, xs, rfl, hs, ha⟩ := tup_inv hd
  refine s_ret (v := .bl (risesN ts)) (ev_all (el_rises (xs := xs) (fun H1 e1 Q1 q1 => ?_) ha hl)) fun H1 e => k H1 e
  refine ⟨.ref a, rfl, .ref a, rfl, 1, rfl, a, xs, rfl, ex_t e1 hs, fun hw => ?_, fun hw p hp => ?_⟩
  · have h0 : xs = [] := by
      have q := hw.1
      rw [show HT.sIx xs.length 0 (some 1) = min 1 xs.length from HT.sIx_nat xs.length 0 1] at q
      exact List.length_eq_zero_iff.mp (by omega)
    exact q1 a a H1 (Ex.refl H1) (ex_t e1 hs) (by rw [h0]; rw [h0] at hs; exact ex_t e1 hs)
  · exact q1 a p _ (Ex.new hp) (ex_t (e1.trans (Ex.new hp)) hs) (by rw [← cut1]; exact st_of upd_same)
end
end Wb
/-! is_web, need_web -/
namespace Wb
open PySem PySem.Spec PyProof.Rows L2 Evl Wm RZ
def tieOf : PyData → Tie
  | .tuple [.int a, .int b] => (a.toNat, b.toNat)
  | _ => (0, 0)
theorem tie_of {n : Int} {d : PyData} (h : isTieD n d = true) : tieD (tieOf d) = d := by
  obtain ⟨ds, rfl⟩ : ∃ ds, d = .tuple ds := by
    cases d <;> first | exact ⟨_, rfl⟩ | cases h
  rw [isTieD_tup, Bool.and_eq_true, Bool.and_eq_true] at h
  obtain ⟨⟨h1, h2⟩, h3⟩ := h
  obtain ⟨a, b, rfl⟩ := two_places (of_decide_eq_true h1) h2
  simp only [List.all_cons, List.all_nil, Bool.and_true, Bool.and_eq_true, isPlaceD, decide_eq_true_eq] at h2
  have ea : ((a.toNat : Nat) : Int) = a := by omega
  have eb : ((b.toNat : Nat) : Int) = b := by omega
  show PyData.tuple [.int ((a.toNat : Nat) : Int), .int ((b.toNat : Nat) : Int)] = _
  rw [ea, eb]
theorem ties_of {n : Int} : ∀ {ds : List PyData}, ds.all (isTieD n) = true → (ds.map tieOf).map tieD = ds
  | [], _ => rfl
  | d :: ds, h => by
    rw [List.all_cons, Bool.and_eq_true] at h
    rw [List.map_cons, List.map_cons, tie_of h.1, ties_of h.2]
def isWebD : PyData → Bool
  | .tuple [.int n, .tuple ds] => (decide (0 ≤ n) && decide (n ≤ 14)) && (ds.all (isTieD n) && risesN (ds.map tieOf))
  | _ => false
theorem isWebD_of (n : Int) (ds : List PyData) : isWebD (.tuple [.int n, .tuple ds]) = ((decide (0 ≤ n) && decide (n ≤ 14)) && (ds.all (isTieD n) && risesN (ds.map tieOf))) := rfl
theorem web_len {ds : List PyData} (h : ds.length ≠ 2) : isWebD (.tuple ds) = false := by
  match ds with
  | [] => rfl
  | [d] => cases d <;> rfl
  | [_, _] => exact absurd rfl h
  | d :: e :: _ :: _ => cases d <;> first | rfl | (cases e <;> rfl)
theorem web_first {d0 d1 : PyData} (h : isWholeD d0 = false) : isWebD (.tuple [d0, d1]) = false := by
  cases d0 <;> first | rfl | cases h
theorem web_second {n : Int} {d1 : PyData} (h : isTupN d1 = false) : isWebD (.tuple [.int n, d1]) = false := by
  cases d1 <;> first | rfl | cases h
theorem web_not {d : PyData} (h : isTupN d = false) : isWebD d = false := by
  cases d <;> first | rfl | cases h
theorem tieOf_tieD (t : Tie) : tieOf (tieD t) = t := by
  show (Int.toNat (t.1 : Int), Int.toNat (t.2 : Int)) = t
  rw [Int.toNat_natCast, Int.toNat_natCast]
theorem is_tieD {n : Nat} {t : Tie} (h : t.1 < t.2 ∧ t.2 < n) : isTieD (n : Int) (tieD t) = true := by
  show isTieD (n : Int) (.tuple [.int (t.1 : Int), .int (t.2 : Int)]) = true
  rw [isTieD_tup]
  simp only [List.all_cons, List.all_nil, Bool.and_true, Bool.and_eq_true, isPlaceD, decide_eq_true_eq, ltHead]
  exact ⟨⟨rfl, ⟨by omega, by omega⟩, by omega, by omega⟩, by omega⟩
theorem is_webD {n : Nat} {ts : List Tie} (W : Wv n ts) : isWebD (webD n ts) = true := by
  show isWebD (.tuple [.int (n : Int), .tuple (ts.map tieD)]) = true
  rw [isWebD_of, Bool.and_eq_true, Bool.and_eq_true, Bool.and_eq_true]
  have hm := W.most
  refine ⟨⟨decide_eq_true (by omega), decide_eq_true (by omega)⟩, ?_, ?_⟩
  · rw [List.all_map, List.all_eq_true]
    exact fun t ht => is_tieD (W.ok t ht)
  · rw [List.map_map, show (tieOf ∘ tieD) = id from funext tieOf_tieD, List.map_id]
    exact rises_up W.up
/-- the ties are few -/
def fewD (d : PyData) : Prop := ∀ d0 ds, d = .tuple [d0, .tuple ds] → ds.length ≤ 1000
theorem few_webD {n : Nat} {ts : List Tie} (W : Wv n ts) : fewD (webD n ts) := fun d0 ds e => by
  unfold webD tiesD at e
  injection e with e
  injection e with _ e
  injection e with e
  injection e with e
  rw [← e, List.length_map]
  have := up_len91 W
  omega
/-- a thing that may be asked: data, or a dict -/
def AskV (K : PySem.W.Frag) (H : Hp) (v : V) (b : Bool) : Prop := (∃ d, Dp K H v d ∧ fewD d ∧ isWebD d = b) ∨ ∃ a kvs, v = .ref a ∧ H a = some (.dK kvs) ∧ b = false
theorem AskV.ex {K : PySem.W.Frag} {H H' : Hp} {v : V} {b : Bool} (e : Ex H H') (h : AskV K H v b) : AskV K H' v b := by
  rcases h with ⟨d, h1, h2⟩ | ⟨a, kvs, h1, h2, h3⟩
  · exact .inl ⟨d, dp_ex e d v h1, h2⟩
  · exact .inr ⟨a, kvs, h1, e a _ h2, h3⟩
theorem ask_web {K : PySem.W.Frag} {H : Hp} {v : V} {n : Nat} {ts : List Tie} (W : Wv n ts) (h : Dp K H v (webD n ts)) : AskV K H v true := .inl ⟨_, h, few_webD W, is_webD W⟩
def spIsWeb (K : PySem.W.Frag) : Sp := fun vs H Q _ => ∃ v b, vs = [v] ∧ AskV K H v b ∧ RetV (.bl b) H Q
theorem sp_isWeb {K : PySem.W.Frag} {v : V} {H : Hp} {b : Bool} (h : AskV K H v b) : SpV (spIsWeb K) [v] H (.bl b) := fun H1 e Q q E => ⟨v, b, rfl, h.ex e, q⟩
theorem kb_dict : kitB "dict" "tuple" = some false := by decide +kernel
section
variable {P : Program} {w : World} {K : PySem.W.Frag} {mg : Str → Option Value} {base : Heap}
abbrev nWeb : List Str := ["thing", "tie"]
theorem sc_web : FnScope nWeb ["thing"] (C8.fnScope (topS 21)) := C8.fnScope_by (by decide +kernel)
theorem cal_isWeb {t14 : Tok} (D : DefOk K mg "is_web" (topS 21) ["thing"]) (Z : Blt mg) (hM : mg "MOST_PLACES" = some (.int 14 t14)) (cW : C8.Cal P w K mg base 1 "is_whole" (spWhole K) []) (cT : C8.Cal P w K mg base 3 "is_tie" (spTie K) []) (cR : C8.Cal P w K mg base 1 "rises" (spRises K) []) :
    C8.Cal P w K mg base 4 "is_web" (spIsWeb K) [] := by
  refine cal_of D sc_web (fun vs H Q E h => ?_) (fun f cdv A outer s H vs Q E hr h => ?_)
  · obtain ⟨v, b, rfl, _⟩ := h
    rfl
  obtain ⟨v, b, rfl, hv, k⟩ := h
  refine ⟨_, pss_cons (ps_if (PW.pt (pw_or (pt_not (pt_val (pe_isi Z (pv 0) (pe_tyn Z.tup bt_tup)))) (pw_or (pt_cmpR op_ne (pe_len Z (pv 0)) pe_int (nomark _))
      (pw_or (pt_not (pt_val (C8.pe_c cW hr (by decide) (by rfl) (pa_cons (pe_ix ix_tup (pv 0) pe_int (fun _ _ => rfl)) pa_nil))))
        (pw_or1 (pt_not (pt_chain op_le op_le pe_int (pe_ix ix_tup (pv 0) pe_int (fun _ _ => rfl)) (pe_glob (v := .int 14) rfl hM ⟨_, rfl⟩)))))))) (pss_one (ps_ret pe_bl)) pss_nil)
    (pss_one (ps_ret (pe_and (pe_isi Z (pe_ix ix_tup (pv 0) pe_int (fun _ _ => rfl)) (pe_tyn Z.tup bt_tup))
      (pe_and (pe_callB (cr_all rfl) (by rfl) Z.all bt_all (pa_cons (pe_lc (own := [("tie", 1)]) (g := gName 1) (tt := tYes) (te := tCall (spTie K) [] C8.E0 (tCons (tOp (rIxT K) (tVar 0) (tC (.int 0))) (tCons (tVar 1) tNil))) rfl sc_web.nd
          (pi_tup (pe_ix ix_tup (pv 0) pe_int (fun _ _ => rfl))) (blkOk_by (N := nWeb) (sc := C8.fnScope (topS 21)) (by decide +kernel)) (fun _ _ _ _ _ => pg_name (i := 1) sc_web.nd rfl (Or.inl rfl)) (fun _ _ _ _ _ => pts_nil)
          (fun _ _ _ _ _ => C8.pe_c cT hr (by decide) (by rfl) (pa_cons (pe_ix ix_tup (pv 0) pe_int (fun _ _ => rfl)) (pa_cons (pv 1) pa_nil)))) pa_nil))
        (pe_one (C8.pe_c cR hr (by decide) (by rfl) (pa_cons (pe_ix ix_tup (pv 0) pe_int (fun _ _ => rfl)) pa_nil))))))), ?_⟩
  rcases hv with ⟨d, hd, hf, rfl⟩ | ⟨a, kvs, rfl, ha, rfl⟩
  · have e1 := ev_isi (K := K) (σ := [some v, none]) (ta := tVar 0) (ev_var rfl) hd (kit_tup d)
    cases ht : isTupN d with
    | false =>
      rw [ht] at e1
      rw [web_not ht] at k
      exact q_when (b := true) (et_or_t (et_not (et_B e1))) (fun _ H1 e2 => s_ret ev_c fun H2 e3 => k H2 (e2.trans e3)) (fun q => nomatch q)
    | true =>
      rw [ht] at e1
      obtain ⟨ds, rfl⟩ := tup_of ht
      obtain ⟨a, xs, rfl, hs, ha⟩ := tup_inv hd
      have hl := dpAll_len ha
      have e2 : EvT (tTest (tOp rNe (tCB (rLenS K) (tCons (tVar 0) tNil)) (tC (.int 2)))) [some (.ref a), none] H (!decide ((xs.length : Int) = 2)) := et_is (et_test (ev_op (ev_lenT (ev_var rfl) hs) ev_c (rv_ne rfl))) dec_ne
      by_cases h2 : ds.length = 2
      · obtain ⟨d0, d1, rfl⟩ : ∃ d0 d1, ds = [d0, d1] := by
          match ds, h2 with
          | [d0, d1], _ => exact ⟨d0, d1, rfl⟩
        cases ha with
        | @cons x0 _ _ _ h0 ha1 =>
          cases ha1 with
          | @cons x1 _ _ _ h1 hn =>
            cases hn
            have i0 : Ev (tOp (rIxT K) (tVar 0) (tC (.int 0))) [some (.ref a), none] H x0 := ev_ixT (j := 0) (ev_var rfl) hs ev_c rfl
            have i1 : Ev (tOp (rIxT K) (tVar 0) (tC (.int 1))) [some (.ref a), none] H x1 := ev_ixT (j := 1) (ev_var rfl) hs ev_c rfl
            have e3 : EvT (tNot (tB (tCall (spWhole K) [] C8.E0 (tCons (tOp (rIxT K) (tVar 0) (tC (.int 0))) tNil)))) [some (.ref a), none] H (!isWholeD d0) := et_not (et_B (ev_call (ea_cons i0 ea_nil) (sp_whole h0)))
            cases hw : isWholeD d0 with
            | false =>
              rw [hw] at e3
              rw [web_first hw] at k
              exact q_when (b := true) (et_or_f (et_not (et_B e1)) (et_or_f (et_is e2 rfl) (et_or_t e3))) (fun _ H1 e2 => s_ret ev_c fun H2 e3 => k H2 (e2.trans e3)) (fun q => nomatch q)
            | true =>
              rw [hw] at e3
              obtain ⟨n, rfl⟩ := whole_int hw
              cases h0
              refine q_when (b := !(decide (0 ≤ n) && decide (n ≤ 14))) (et_or_f (et_not (et_B e1)) (et_or_f (et_is e2 rfl) (et_or_f e3 (et_not (et_test (ev_chainLL ev_c i0 ev_c)))))) (fun hb H1 e4 => ?_) (fun hb H1 e4 => ?_)
              · refine s_ret ev_c fun H2 e5 => ?_
                have z : isWebD (.tuple [.int n, d1]) = false := by
                  cases d1 <;> first | rfl | skip
                  rw [isWebD_of]
                  rw [Bool.not_eq_true'] at hb
                  rw [hb, Bool.false_and]
                rw [← z]
                exact k H2 (e4.trans e5)
              · rw [Bool.not_eq_false'] at hb
                have e6 := ev_isi i1 h1 (kit_tup d1)
                cases ht1 : isTupN d1 with
                | false =>
                  rw [ht1] at e6
                  rw [web_second ht1] at k
                  exact s_ret (v := .bl false) (ev_is (ev_andV (b := false) (e6.mono e4) fun q => nomatch q) rfl) fun H2 e5 => k H2 (e4.trans e5)
                | true =>
                  rw [ht1] at e6
                  obtain ⟨es, rfl⟩ := tup_of ht1
                  obtain ⟨q, ys, rfl, hq, hy⟩ := tup_inv h1
                  have hly := dpAll_len hy
                  have hfew := hf _ _ rfl
                  rw [isWebD_of, hb, Bool.true_and] at k
                  refine s_ret (v := .bl (es.all (isTieD n) && risesN (es.map tieOf))) (ev_is (ev_andV (b := es.all (isTieD n) && risesN (es.map tieOf)) (e6.mono e4) fun _ => ev_andV (a := es.all (isTieD n)) (b := risesN (es.map tieOf)) (ev_is (ev_all (bs := es.map (isTieD n)) (el_lcT (j := 1) (vs := [1]) (i1.mono e4) (ex_t e4 hq) (by omega) (by rw [List.length_map, List.length_map]; exact hly.symm) (fun _ => rfl) fun i x y H2 e5 hx hyy => ?_)) (by rw [List.all_map]; rfl)) fun hall => ?_) rfl) fun H2 e5 => k H2 (e4.trans e5)
                  · obtain ⟨d, hd1, hd2⟩ := dpAll_get hy hx
                    have ey : y = .bl (isTieD n d) := by
                      rw [List.getElem?_map, List.getElem?_map, hd1] at hyy
                      exact (Option.some.inj hyy).symm
                    subst ey
                    exact ev_call (ea_cons (ev_ixT (j := 0) (ev_var rfl) (ex_t (e4.trans e5) hs) ev_c rfl) (ea_cons (ev_var rfl) ea_nil)) (sp_tie (dp_ex (e4.trans e5) d x hd2))
                  · refine ev_call (ea_cons (i1.mono e4) ea_nil) (sp_rises (ts := es.map tieOf) ?_ (by rw [List.length_map]; omega))
                    unfold tiesD
                    rw [ties_of hall]
                    exact dp_ex e4 _ _ h1
      · rw [web_len h2] at k
        exact q_when (b := true) (et_or_f (et_not (et_B e1)) (et_or_t (et_is e2 (by rw [decide_eq_false (by omega)]; rfl)))) (fun _ H1 e2 => s_ret ev_c fun H2 e3 => k H2 (e2.trans e3)) (fun q => nomatch q)
  · have e1 : Ev (tCB (rIsi K) (tCons (tVar 0) (tCons (tC (.ty "tuple")) tNil))) [some (.ref a), none] H (.bl false) := fun H1 e Q q => ⟨.ref a, rfl, .ref a, .ty "tuple", _, _, false, rfl, .ty "tuple", .base (.dK (e a _ ha)), kit_ty kb_dict, q H1 (Ex.refl H1)⟩
    exact q_when (b := true) (et_or_t (et_not (et_B e1))) (fun _ H1 e2 => s_ret ev_c fun H2 e3 => k H2 (e2.trans e3)) (fun q => nomatch q)
end
end Wb
/-! defs that raise: need_web, TooGreat, many_with_midsts -/
namespace Wb
open PySem PySem.Spec PyProof.Rows L2 Evl Wm RZ
/-- a def of the module that may raise, by its name -/
structure CalX (P : Program) (w : World) (K : PySem.W.Frag) (mg : Str → Option Value) (base : Heap) (k : Nat) (x : Str) (sp : Sp) : Prop where
  ex : ∃ (f : Addr) (fd : FuncData) (ps : List Str), FnOk P w K mg base (L2.CX P w) k f fd ps sp ∧ mg x = some (.ref f) ∧ PySem.W.keepIn K (.ref f) = true ∧ Binds K fd ps []
section
variable {P : Program} {w : World} {K : PySem.W.Frag} {mg : Str → Option Value} {base : Heap}
theorem calX_of {x : Str} {st : Stmt} {N ps : List Str} {k : Nat} {sp : Sp} (D : DefOk K mg x st ps) (S : FnScope N ps (C8.fnScope st)) (len : ∀ vs H Q E, sp vs H Q E → vs.length = ps.length)
    (hbody : ∀ (f : Addr) (cdv : Value) (A : Around) (outer : List Env) (s : Shared) (H : Hp) (vs : List V) (Q : VK) (E : XK), Room k (A.deeper (envOfC x (C8.fnScope st) s.heap.objs.size f cdv)) → sp vs H Q E →
      ∃ t, PSs (cxOf (L2.CX P w) P w K mg base N x (C8.fnScope st) f cdv A outer s H E) (C8.fnBody st) t ∧ t { nx := fun _ H' => Q .non H', rt := Q } (L2.start N vs) H) : CalX P w K mg base (k + 1) x sp := by
  obtain ⟨f, fd, F, b⟩ := D.ex
  refine ⟨f, fd, ps, ?_, F.mgf, F.kp, b⟩
  obtain ⟨oc, od, dV, kV, doc, pm, an, cdv, ct, osl, rfl, lk, hcd⟩ := F.fn.ex
  exact fn_of lk hcd S len fun A outer s H vs Q E hr hsp => hbody f cdv A outer s H vs Q E hr hsp
end
section
variable {X : Cx} {k j : Nat} {x : Str} {sp : Sp} {p pos : Pos} {e : Expr} {es : List Expr} {t : TA} {E : XK}
theorem pe_cx (c : CalX X.prog X.w X.K X.mg X.base k x sp) (hr : Room j X.A) (hk : k ≤ j) (hx : Passes (L2.CX X.prog X.w) X E) (hg : Gl X x) (ha : PA X (e :: es) t)
    (hdb : (x == ("__debug__" : Str)) = false := by decide) (he : starEach (e :: es) X.env = (false, eval e X.env) :: starEach es X.env := by rfl) (hpl : (backTo pos (starEach es X.env)).any (·.1) = false := by rfl) :
    PE X (.Call (.Name x p) (e :: es) [] pos) (tCall sp [] E t) := by
  obtain ⟨f, fd, ps, F, hm, kp, b⟩ := c.ex
  exact pe_call F (hr.mono hk) hg hm kp b .nil hx ha hdb he hpl
end
/-- an exception class of the text over ValueError without own __init__ -/
structure ExcT (K : PySem.W.Frag) (mg : Str → Option Value) (x : Str) (C : Addr) : Prop where
  g : mg x = some (.ref C)
  x : PySem.W.excIn K C [.type "ValueError", .type "Exception", .type "BaseException", .type "object"] "ValueError.__new__" = true
  k : PySem.W.keepIn K (.ref C) = true
  b : PySem.W.subIn K (.ref C) (.type "BaseException") = some true
  t : PySem.W.typeIn K (.ref C) = some (.type "type")
/-- TooGreat: its class, its __init__ -/
structure TooT (K : PySem.W.Frag) (mg : Str → Option Value) (C : Addr) : Prop where
  g : mg "TooGreat" = some (.ref C)
  ox : OexC K C
  nMany : PySem.W.findIn K (.ref C) "many" = some none
  nMost : PySem.W.findIn K (.ref C) "most" = some none
  ini : ∃ fI fd, PySem.W.findIn K (.ref C) "__init__" = some (some (.ref fI)) ∧ PySem.W.typeIn K (.ref fI) = some (.type "function") ∧ C8.Fun K "__init__" "TooGreat.__init__" ((C8.clsBody (topS 14)).getD 0 (.Pass ⟨0, 0, 0, 0⟩)) fI fd ∧ Binds K fd ["self", "many", "most"] []
abbrev sInit : Stmt := (C8.clsBody (topS 14)).getD 0 (.Pass ⟨0, 0, 0, 0⟩)
def tooFs (many most : Int) : List (Str × V) := [("most", .int most), ("many", .int many)]
def spInit (K : PySem.W.Frag) (C : Addr) : Sp := fun vs H Q _ => ∃ a many most, vs = [.ref a, .int many, .int most] ∧ H a = some (exo a C none) ∧
  ∀ dx H2, H dx = none → dx ≠ a → (∀ b o, b ≠ a → H b = some o → H2 b = some o) → H2 a = some (exo a C (some dx)) → H2 dx = some (exd dx (tooFs many most)) → Q .non H2
section
variable {P : Program} {w : World} {K : PySem.W.Frag} {mg : Str → Option Value} {base : Heap}
theorem sc_init : FnScope ["self", "many", "most"] ["self", "many", "most"] (C8.fnScope sInit) := C8.fnScope_by (by decide +kernel)
theorem ok_init {C fI : Addr} {fd : FuncData} (T : TooT K mg C) (F : C8.Fun K "__init__" "TooGreat.__init__" sInit fI fd) : FnOk P w K mg base C8.CX0 1 fI fd ["self", "many", "most"] (spInit K C) := by
  refine C8.fn0 F sc_init (fun vs H Q E h => ?_) (fun cdv A outer s H vs Q E hr h => ?_)
  · obtain ⟨a, many, most, rfl, _⟩ := h
    rfl
  obtain ⟨a, many, most, rfl, ha, k⟩ := h
  refine ⟨_, pss_cons (ps_ost (pv 0) (pv 1)) (pss_one (ps_ost (pv 0) (pv 2))), ?_⟩
  refine ⟨_, rfl, _, rfl, a, C, rfl, T.ox, T.nMany, .inl ⟨ha, fun dx hdx ne => ?_⟩⟩
  refine ⟨_, rfl, _, rfl, a, C, rfl, T.ox, T.nMost, .inr ⟨dx, _, upd_same, by rw [upd_ne ne, upd_same], (by show 1 ≤ 900; decide), ?_⟩⟩
  refine k dx _ hdx ne (fun b o hb hbo => ?_) ?_ upd_same
  · rw [upd_ne (ne_of_none hbo hdx), upd_ne hb, upd_ne (ne_of_none hbo hdx)]
    exact hbo
  · rw [upd_ne ne.symm, upd_same]
/-- TooGreat(.., ..) -/
theorem pmk_too {X : Cx} {C : Addr} {k : Nat} {e e2 : Expr} {te te2 : TE} {p pos : Pos} (T : TooT X.K X.mg C) (hr : Room k X.A) (hk : 2 ≤ k) (h1 : PE X e te) (h2 : PE X e2 te2) (hg : Gl X "TooGreat" := by rfl)
    (hs : starEach (e :: [e2]) X.env = (false, eval e X.env) :: starEach [e2] X.env := by rfl) (hs2 : starEach (e2 :: []) X.env = (false, eval e2 X.env) :: starEach [] X.env := by rfl) (hpl : (backTo pos (starEach [e2] X.env)).any (·.1) = false := by rfl) :
    PMk X (.Call (.Name "TooGreat" p) [e, e2] [] pos) (tMkO C (spInit X.K C) [] (tCons te (tCons te2 tNil))) := by
  obtain ⟨fI, fd, iC, tI, F, b⟩ := T.ini
  have F1 : FnOk X.prog X.w X.K X.mg X.base C8.CX0 1 fI fd ["self", "many", "most"] (spInit X.K C) := ok_init T F
  exact pmk_oex (CX := C8.CX0) (k := 1) T.ox iC tI F1 (hr.mono hk) b .nil (fun _ _ _ _ _ _ _ z => z.elim) hg T.g (pa_cons h1 (pa_cons h2 pa_nil hs2) hs) (by decide) hs hpl
theorem mk_too {C : Addr} {ta : TA} {σ : St} {H : Hp} {Q : XK} {many most : Int} (h : EvA ta σ H [.int many, .int most]) (k : ∀ dd H3, Ex H H3 → H dd = none → H3 dd = some (.xd (tooFs many most)) → Q (.ref C) (some dd) H3) : tMkO C (spInit K C) [] ta σ H Q :=
  h H (Ex.refl H) _ fun H1 e1 => ⟨(by show 2 ≤ 1000; decide), fun a hna => ⟨a, many, most, rfl, upd_same, fun dx H2 hdx ne kp ha hd => by
    have hdx1 : H1 dx = none := by
      rw [upd_ne ne] at hdx
      exact hdx
    refine ⟨rfl, dx, _, ha, hd, hdx1, k dx _ (fun b o hb => ?_) (fresh_back e1 hdx1) upd_same⟩
    have hb1 := e1 b o hb
    have nb : b ≠ a := ne_of_none hb1 hna
    rw [upd_ne (ne_of_none hb1 hdx1), del_ne nb]
    refine kp b o nb ?_
    rw [upd_ne nb]
    exact hb1⟩⟩
/-! ### need_web -/
def spNeed (K : PySem.W.Frag) (CW : Addr) : Sp := fun vs H Q E => ∃ v b, vs = [v] ∧ AskV K H v b ∧ (b = true → ∀ H', Ex H H' → Q .non H') ∧ (b = false → ∀ H', Ex H H' → E (.ref CW) none H')
theorem sc_need : FnScope ["thing"] ["thing"] (C8.fnScope (topS 22)) := C8.fnScope_by (by decide +kernel)
theorem cal_need {CW : Addr} (D : DefOk K mg "need_web" (topS 22) ["thing"]) (T : ExcT K mg "NoWeb" CW) (cW : C8.Cal P w K mg base 4 "is_web" (spIsWeb K) []) : CalX P w K mg base 5 "need_web" (spNeed K CW) := by
  refine calX_of D sc_need (fun vs H Q E h => ?_) (fun f cdv A outer s H vs Q E hr h => ?_)
  · obtain ⟨v, b, rfl, _⟩ := h
    rfl
  obtain ⟨v, b, rfl, hv, k1, k2⟩ := h
  refine ⟨_, pss_one (ps_if (pt_not (pt_val (C8.pe_c cW hr (by decide) (by rfl) (pa_cons (pv 0) pa_nil)))) (pss_one (ps_raise rfl (takes_of rfl rfl rfl rfl) (pmk_own PySem.F.excBase_ValueError T.x T.g T.k (raises_own T.b T.t) (by exact rfl)))) pss_nil), ?_⟩
  refine s_when (et_not (et_B (ev_call (ea_cons (ev_var rfl) ea_nil) (sp_isWeb hv)))) (fun hb H1 e => ?_) (fun hb H1 e => ?_)
  · rw [Bool.not_eq_true'] at hb
    exact k2 hb H1 e
  · rw [Bool.not_eq_false'] at hb
    exact k1 hb H1 e
/-! ### many_with_midsts -/
def spMany (K : PySem.W.Frag) (CW CT : Addr) : Sp := fun vs H Q E => ∃ v, vs = [v] ∧ ((∃ n ts, Wv n ts ∧ Dp K H v (webD n ts) ∧ (n + ts.length ≤ 14 → ∀ H', Ex H H' → Q (.int ((n + ts.length : Nat) : Int)) H') ∧
    (14 < n + ts.length → ∀ dd H', Ex H H' → H dd = none → H' dd = some (.xd (tooFs ((n + ts.length : Nat) : Int) 14)) → E (.ref CT) (some dd) H')) ∨ (AskV K H v false ∧ ∀ H', Ex H H' → E (.ref CW) none H'))
theorem sc_many : FnScope ["web", "many"] ["web"] (C8.fnScope (topS 28)) := C8.fnScope_by (by decide +kernel)
theorem cal_many {CW CT : Addr} {t14 : Tok} (D : DefOk K mg "many_with_midsts" (topS 28) ["web"]) (Z : Blt mg) (hM : mg "MOST_PLACES" = some (.int 14 t14)) (T : TooT K mg CT) (cN : CalX P w K mg base 5 "need_web" (spNeed K CW)) : CalX P w K mg base 6 "many_with_midsts" (spMany K CW CT) := by
  refine calX_of D sc_many (fun vs H Q E h => ?_) (fun f cdv A outer s H vs Q E hr h => ?_)
  · obtain ⟨v, rfl, _⟩ := h
    rfl
  obtain ⟨v, rfl, h⟩ := h
  refine ⟨_, pss_cons (ps_expr (pe_cx cN hr (by decide) (passes_call (takes_of rfl rfl rfl rfl) (fun _ _ _ _ h => h)) (by rfl) (pa_cons (pv 0) pa_nil)))
    (pss_cons (ps_set (i := 1) sc_many.nd rfl (Or.inl rfl) (pe_op op_add (pe_ix ix_tup (pv 0) pe_int (fun _ _ => rfl)) (pe_len Z (pe_ix ix_tup (pv 0) pe_int (fun _ _ => rfl)))))
    (pss_cons (ps_if (pt_cmpR op_gt (pv 1) (pe_glob (v := .int 14) rfl hM ⟨_, rfl⟩) (nomark _)) (pss_one (ps_raise rfl (takes_of rfl rfl rfl rfl) (pmk_too T hr (by decide) (pv 1) (pe_glob (v := .int 14) rfl hM ⟨_, rfl⟩)))) pss_nil)
    (pss_one (ps_ret (pv 1))))), ?_⟩
  rcases h with ⟨n, ts, W, hd, k1, k2⟩ | ⟨hb, k2⟩
  · refine ⟨v, rfl, v, true, rfl, ask_web W hd, fun _ H1 e1 => ?_, fun q => nomatch q⟩
    obtain ⟨a, q, rfl, hs, hq⟩ := web_inv (dp_ex e1 _ _ hd)
    obtain ⟨xs, hx, ha, hl⟩ := ties_inv hq
    refine q_asg (v := .int ((n + ts.length : Nat) : Int)) (ev_is (ev_op (ev_ixT (j := 0) (ev_var rfl) hs ev_c rfl) (ev_lenT (ev_ixT (j := 1) (ev_var rfl) hs ev_c rfl) hx) rv_I0) (by rw [hl]; exact congrArg V.int (by omega))) fun H2 e2 => ?_
    refine q_when (et_test (ev_op (ev_var rfl) ev_c rv_I0)) (fun hb H3 e3 => ?_) (fun hb H3 e3 => ?_)
    · have hb := of_decide_eq_true hb
      refine mk_too (ea_cons (ev_var rfl) (ea_cons ev_c ea_nil)) fun dd H4 e4 hn h4 => ?_
      exact k2 (by omega) dd H4 (((e1.trans e2).trans e3).trans e4) (fresh_back ((e1.trans e2).trans e3) hn) h4
    · have hb := of_decide_eq_false hb
      exact s_ret (ev_var rfl) fun H4 e4 => k1 (by omega) H4 (((e1.trans e2).trans e3).trans e4)
  · exact ⟨v, rfl, v, false, rfl, hb, (fun q => nomatch q), fun _ H1 e1 => k2 H1 e1⟩
end
end Wb
/-! lists of data: made, grown, sorted -/
namespace Wb
open PySem PySem.Spec PyProof.Rows L2 Evl Wm RZ
/-- all but l stays -/
def ExB (l : Addr) (H H' : Hp) : Prop := ∀ b o, b ≠ l → H b = some o → H' b = some o
theorem ExB.of {l : Addr} {H H' : Hp} (e : Ex H H') : ExB l H H' := fun b o _ h => e b o h
theorem ExB.trans {l : Addr} {H H1 H2 : Hp} (a : ExB l H H1) (b : ExB l H1 H2) : ExB l H H2 := fun c o n h => b c o n (a c o n h)
theorem ExB.upd {l : Addr} {H : Hp} {o : HO} : ExB l H (upd H l o) := fun b u n h => by
  rw [upd_ne n]
  exact h
/-- from a heap that does not know l -/
theorem exBut {l : Addr} {H0 H H1 : Hp} (e : Ex H0 H) (h0 : H0 l = none) (b : ExB l H H1) : Ex H0 H1 := fun c o h => b c o (ne_of_none h h0) (e c o h)
theorem ExB.exT {l : Addr} {H H' : Hp} {xs : List V} (e : ExB l H H') (h : H l = some (.lst xs)) : ExT H H' := fun b o hb n => by
  by_cases hl : b = l
  · rw [hl, h] at hb
    exact absurd (Option.some.inj hb).symm (n xs)
  · exact e b o hl hb
/-- what a promise gives: data; a new list of data -/
def RetD (K : PySem.W.Frag) (d : PyData) (H : Hp) (Q : VK) : Prop := ∀ v H', Ex H H' → Dp K H' v d → Q v H'
def RetDL (K : PySem.W.Frag) (ds : List PyData) (H : Hp) (Q : VK) : Prop := ∀ p xs H', H p = none → Ex H H' → H' p = some (.lst xs) → DpAll K H' xs ds → Q (.ref p) H'
/-- a list of data, new or not -/
def EvDl (K : PySem.W.Frag) (te : TE) (σ : St) (H : Hp) (ds : List PyData) : Prop := ∀ H1, Ex H H1 → ∀ Q : VK, (∀ p xs H2, Ex H1 H2 → H2 p = some (.lst xs) → DpAll K H2 xs ds → Q (.ref p) H2) → te σ H1 Q
section
variable {K : PySem.W.Frag} {σ : St} {H H' : Hp} {ta tb te tl tx : TE} {t u : TT} {x y z v : V} {d : PyData} {ds es : List PyData} {D : Ends} {tz : TS}
theorem EvDL.l (h : EvDL K te σ H ds) : EvDl K te σ H ds := fun H1 e Q q => h H1 e Q fun p xs H2 _ e2 h2 ha => q p xs H2 e2 h2 ha
theorem evDl_var {i : Nat} {p : Addr} {xs : List V} (h : σ[i]? = some (some (.ref p))) (hp : H p = some (.lst xs)) (ha : DpAll K H xs ds) : EvDl K (tVar i) σ H ds := fun H1 e Q q => ⟨.ref p, h, q p xs H1 (Ex.refl H1) (e p _ hp) (dpAll_ex e _ _ ha)⟩
theorem evd_call {sp : Sp} {E : XK} {tA : TA} {vs : List V} (h : EvA tA σ H vs) (hs : ∀ H1, Ex H H1 → ∀ Q : VK, RetD K d H1 Q → sp vs H1 Q E) : EvD K (tCall sp [] E tA) σ H d := fun H1 e Q q =>
  h H1 e _ fun H2 e2 => by
    show sp (vs ++ []) H2 Q E
    rw [List.append_nil]
    exact hs H2 (e.trans e2) Q fun v H3 e3 hd => q v H3 (e2.trans e3) hd
theorem evdl_call {sp : Sp} {E : XK} {tA : TA} {vs : List V} (h : EvA tA σ H vs) (hs : ∀ H1, Ex H H1 → ∀ Q : VK, RetDL K ds H1 Q → sp vs H1 Q E) : EvDL K (tCall sp [] E tA) σ H ds := fun H1 e Q q =>
  h H1 e _ fun H2 e2 => by
    show sp (vs ++ []) H2 Q E
    rw [List.append_nil]
    exact hs H2 (e.trans e2) Q fun p xs H3 hp e3 h3 ha => q p xs H3 (fresh_back e2 hp) (e2.trans e3) h3 ha
theorem s_retD (h : EvD K te σ H d) (k : RetD K d H D.rt) : tRet te D σ H := h H (Ex.refl H) _ fun v H1 e hd => k v H1 e hd
theorem s_retDL (h : EvDL K te σ H ds) (k : RetDL K ds H D.rt) : tRet te D σ H := h H (Ex.refl H) _ fun p xs H1 hp e h1 ha => k p xs H1 hp e h1 ha
theorem q_asgD {i : Nat} (h : EvD K te σ H d) (k : ∀ v H1, Ex H H1 → Dp K H1 v d → tz D (σ.set i (some v)) H1) : tSeq (tAsg te (gName i)) tz D σ H := h H (Ex.refl H) _ fun v H1 e hd => k v H1 e hd
theorem q_asgDL {i : Nat} (h : EvDL K te σ H ds) (k : ∀ p xs H1, H p = none → Ex H H1 → H1 p = some (.lst xs) → DpAll K H1 xs ds → tz D (σ.set i (some (.ref p))) H1) : tSeq (tAsg te (gName i)) tz D σ H := h H (Ex.refl H) _ fun p xs H1 hp e h1 ha => k p xs H1 hp e h1 ha
/-- t[1] of a web -/
theorem evd_ix1 {n : Nat} {ts : List Tie} (h : EvD K te σ H (webD n ts)) : EvD K (tOp (rIxT K) te (tC (.int 1))) σ H (tiesD ts) := fun H1 e Q q => h H1 e _ fun v H2 e2 hd => by
  obtain ⟨a, b, rfl, hs, hb⟩ := web_inv hd
  exact ⟨a, _, 1, .ref b, rfl, rfl, hs, atI_nat (j := 1) rfl, q _ H2 e2 hb⟩
theorem ev_ix0 {n : Nat} {ts : List Tie} (h : EvD K te σ H (webD n ts)) : Ev (tOp (rIxT K) te (tC (.int 0))) σ H (.int (n : Int)) := fun H1 e Q q => h H1 e _ fun v H2 e2 hd => by
  obtain ⟨a, b, rfl, hs, hb⟩ := web_inv hd
  exact ⟨a, _, 0, _, rfl, rfl, hs, atI_nat (j := 0) rfl, q H2 e2⟩
theorem evd_var {i : Nat} (h : σ[i]? = some (some v)) (hd : Dp K H v d) : EvD K (tVar i) σ H d := evd_of (ev_var h) hd
/-- ties[k] -/
theorem evd_tieAt {ts : List Tie} {k : Nat} (h : EvD K te σ H (tiesD ts)) (hk : k < ts.length) (hb : Ev tb σ H (.int (k : Int))) : EvD K (tOp (rIxT K) te tb) σ H (tieD (tieAt ts k)) := fun H1 e Q q => h H1 e _ fun v H2 e2 hd => hb H2 (e.trans e2) _ fun H3 e3 => by
  obtain ⟨a, _, rfl, _⟩ := tup_inv hd
  obtain ⟨xs, hx, ha, hl⟩ := ties_inv hd
  obtain ⟨x, h1, h2⟩ := dpAll_at ha (show (ts.map tieD)[k]? = some (tieD (tieAt ts k)) by rw [List.getElem?_map, tieAt_of hk] <;> rfl)
  exact ⟨a, xs, k, x, rfl, rfl, ex_t e3 hx, atI_nat h1, q x H3 (e2.trans e3) (dp_ex e3 _ _ h2)⟩
theorem ev_tie0 {s : Tie} (h : EvD K te σ H (tieD s)) : Ev (tOp (rIxT K) te (tC (.int 0))) σ H (.int (s.1 : Int)) := fun H1 e Q q => h H1 e _ fun v H2 e2 hd => by
  obtain ⟨a, rfl, hs⟩ := tie_inv hd
  exact ⟨a, _, 0, _, rfl, rfl, hs, atI_nat (j := 0) rfl, q H2 e2⟩
theorem ev_tie1 {s : Tie} (h : EvD K te σ H (tieD s)) : Ev (tOp (rIxT K) te (tC (.int 1))) σ H (.int (s.2 : Int)) := fun H1 e Q q => h H1 e _ fun v H2 e2 hd => by
  obtain ⟨a, rfl, hs⟩ := tie_inv hd
  exact ⟨a, _, 1, _, rfl, rfl, hs, atI_nat (j := 1) rfl, q H2 e2⟩
theorem ev_lenTs {ts : List Tie} (h : EvD K te σ H (tiesD ts)) : Ev (tCB (rLenS K) (tCons te tNil)) σ H (.int (ts.length : Int)) := fun H1 e Q q => h H1 e _ fun v H2 e2 hd => by
  obtain ⟨a, _, rfl, _⟩ := tup_inv hd
  obtain ⟨xs, hx, ha, hl⟩ := ties_inv hd
  refine ⟨a, xs, rfl, .inr hx, ?_⟩
  rw [hl]
  exact q H2 e2
theorem inV_nat (a x y : Nat) : inV (.int (a : Int)) [.int (x : Int), .int (y : Int)] = (a == x || a == y) := by
  show ((x : Int) == (a : Int) || ((y : Int) == (a : Int) || false)) = _
  rw [Bool.or_false]
  have e : ∀ p q : Nat, ((p : Int) == (q : Int)) = (q == p) := fun p q => by
    by_cases h : p = q
    · rw [h]
      simp
    · have h1 : ¬ (p : Int) = (q : Int) := by omega
      have h2 : ¬ q = p := fun z => h z.symm
      rw [beq_eq_false_iff_ne.mpr h1, beq_eq_false_iff_ne.mpr h2]
  rw [e, e]
/-- a place in a tie -/
theorem ev_inTie {a : Nat} {s : Tie} (ha : Ev ta σ H (.int (a : Int))) (h : EvD K te σ H (tieD s)) : Ev (tOp (rIn K false) ta te) σ H (.bl (a == s.1 || a == s.2)) := fun H1 e Q q => ha H1 e _ fun H2 e2 => h H2 (e.trans e2) _ fun v H3 e3 hd => by
  obtain ⟨p, rfl, hs⟩ := tie_inv hd
  refine ⟨p, _, rfl, .inr hs, rfl, rfl, ?_⟩
  show Q (.bl (inV (.int (a : Int)) [.int (s.1 : Int), .int (s.2 : Int)])) H3
  rw [inV_nat]
  exact q H3 (e2.trans e3)
/-- tuple(list) -/
def rTupOf (K : PySem.W.Frag) : List V → Hp → VK → Prop := fun xs H Q => ∃ p ys, xs = [.ref p] ∧ ((SqL K H p ys ∧ ∀ l, H l = none → Q (.ref l) (upd H l (.tup ys))) ∨ (SqT K H p ys ∧ Q (.ref p) H))
theorem evd_tupOf (h : EvDl K te σ H ds) : EvD K (tCB (rTupOf K) (tCons te tNil)) σ H (.tuple ds) := fun H1 e Q q => h H1 e _ fun p xs H2 e2 h2 ha =>
  ⟨p, xs, rfl, .inl ⟨sq_of h2, fun l hl => q _ _ (e2.trans (Ex.new hl)) (.tup (st_of upd_same) (dpAll_ex (Ex.new hl) _ _ ha))⟩⟩
/-- list(tuple) -/
theorem evdl_listOf (h : EvD K te σ H (.tuple ds)) : EvDL K (tCB (rListS K) (tCons te tNil)) σ H ds := fun H1 e Q q => h H1 e _ fun v H2 e2 hd => by
  obtain ⟨a, xs, rfl, hs, ha⟩ := tup_inv hd
  exact ⟨a, xs, rfl, .inr hs, fun l hl => q l xs _ (fresh_back e2 hl) (e2.trans (Ex.new hl)) upd_same (dpAll_ex (Ex.new hl) _ _ ha)⟩
/-- xs + ys -/
theorem evdl_cat (ha : EvDl K ta σ H ds) (hb : EvDl K tb σ H es) (hz : ds.length + es.length ≤ 100000) : EvDL K (tOp rCat ta tb) σ H (ds ++ es) := fun H1 e Q q => ha H1 e _ fun p xs H2 e2 h2 hx => hb H2 (e.trans e2) _ fun r ys H3 e3 h3 hy =>
  ⟨p, r, xs, ys, rfl, rfl, e3 p _ h2, h3, by rw [dpAll_len hx, dpAll_len hy]; exact sz_of hz, fun l hl => q l _ _ (fresh_back (e2.trans e3) hl) ((e2.trans e3).trans (Ex.new hl)) upd_same
    (dpAll_app (dpAll_ex (e3.trans (Ex.new hl)) _ _ hx) (dpAll_ex (Ex.new hl) _ _ hy))⟩
/-- xs.extend(new list) -/
theorem s_extD {l : Addr} {xs : List V} (hl : H l = some (.lst xs)) (hx : DpAll K H xs es) (hn : noLs es = true) (ha : Ev ta σ H (.ref l)) (h : EvDL K te σ H ds) (hnd : noLs ds = true) (hz : es.length + ds.length ≤ 100000)
    (k : ∀ ys H1, ExB l H H1 → H1 l = some (.lst ys) → DpAll K H1 ys (es ++ ds) → D.nx σ H1) : tDrop (tBM K "list" rExtend ta (tCons te tNil)) D σ H := ha H (Ex.refl H) _ fun H1 e1 =>
  ⟨Or.inl ⟨rfl, xs, sq_of (e1 l _ hl)⟩, h H1 e1 _ fun p ys H2 hp e2 h2 hy => by
    have h3 := e2 l _ (e1 l _ hl)
    refine ⟨l, p, xs, ys, rfl, rfl, h3, h2, by rw [dpAll_len hx, dpAll_len hy]; exact sz_of hz, k (xs ++ ys) _ ((ExB.of (e1.trans e2)).trans ExB.upd) upd_same ?_⟩
    have xt : ExT H2 (upd H2 l (.lst (xs ++ ys))) := ExT.lst h3
    exact dpAll_app (dpAll_exT xt _ _ hn (dpAll_ex (e1.trans e2) _ _ hx)) (dpAll_exT xt _ _ hnd hy)⟩
/-- xs.append(data) -/
theorem s_appD {l : Addr} {xs : List V} (hl : H l = some (.lst xs)) (hx : DpAll K H xs es) (hn : noLs es = true) (ha : Ev ta σ H (.ref l)) (h : EvD K te σ H d) (hnd : noL d = true) (hz : es.length < 100000)
    (k : ∀ ys H1, ExB l H H1 → H1 l = some (.lst ys) → DpAll K H1 ys (es ++ [d]) → D.nx σ H1) : tDrop (tBM K "list" rAppend ta (tCons te tNil)) D σ H := ha H (Ex.refl H) _ fun H1 e1 =>
  ⟨Or.inl ⟨rfl, xs, sq_of (e1 l _ hl)⟩, h H1 e1 _ fun v H2 e2 hv => by
    have h3 := e2 l _ (e1 l _ hl)
    refine ⟨l, xs, v, rfl, rfl, h3, by rw [dpAll_len hx]; exact sz_lt hz, k (xs ++ [v]) _ ((ExB.of (e1.trans e2)).trans ExB.upd) upd_same ?_⟩
    have xt : ExT H2 (upd H2 l (.lst (xs ++ [v]))) := ExT.lst h3
    exact dpAll_app (dpAll_exT xt _ _ hn (dpAll_ex (e1.trans e2) _ _ hx)) (.cons (dp_exT xt _ _ hnd hv) .nil)⟩
/-- [e for b in range(lo, hi) if f b] -/
theorem edl_lcR2 {tA : TA} {j : Nat} {vs : List Nat} {lo hi : Nat} (f : Nat → Bool) (g : Nat → PyData) (hno : ∀ b, noL (g b) = true) (h : EvA tA σ H [.int (lo : Int), .int (hi : Int)]) (hlo : lo ≤ 1000) (hz : hi ≤ 1000) (hw : ∀ x, wipe ((wipe σ vs).set j (some x)) vs = wipe σ vs)
    (ht : ∀ (b : Nat) H1, Ex H H1 → lo ≤ b → b < hi → EvT t ((wipe σ vs).set j (some (.int (b : Int)))) H1 (f b)) (he : ∀ (b : Nat) H1, Ex H H1 → lo ≤ b → b < hi → EvD K te ((wipe σ vs).set j (some (.int (b : Int)))) H1 (g b)) :
    EvDL K (tLc (iRng2 tA) (gName j) t te vs) σ H (((List.range' lo (hi - lo)).filter f).map g) := fun H0 e Q q => h H0 e _ fun H1 e1 => ⟨lo, hi, rfl, ⟨by omega, by omega, by omega, by omega⟩, fun Dl hD => by
  have en : ((hi : Int) - (lo : Int)).toNat = hi - lo := by omega
  rw [en]
  refine lc_range (lo := (lo : Int)) (n := hi - lo) (fun i H' => Ex H1 H' ∧ ∃ ys, H' Dl = some (.lst ys) ∧ DpAll K H' ys (((List.range' lo i).filter f).map g)) ⟨Ex.new hD, [], upd_same, .nil⟩ (fun i H' hi' p => ?_) (fun H' p => ?_)
  · obtain ⟨p1, ys, p2, p3⟩ := p
    have ei : ((lo : Int) + (i : Int)) = ((lo + i : Nat) : Int) := by omega
    have hb : lo + i < hi := by omega
    rw [ei]
    refine ⟨hw _, ht (lo + i) H1 (e.trans e1) (by omega) hb H' p1 _ fun H3 e3 => ?_⟩
    have er : List.range' lo (i + 1) = List.range' lo i ++ [lo + i] := List.range'_1_concat
    have hlen : (((List.range' lo i).filter f).map g).length ≤ 1000 := by
      rw [List.length_map]
      refine Nat.le_trans (List.length_filter_le ..) ?_
      rw [List.length_range']
      omega
    cases hf : f (lo + i) with
    | true =>
      rw [if_pos rfl]
      refine he (lo + i) H1 (e.trans e1) (by omega) hb H3 (p1.trans e3) _ fun v H4 e4 hv => ?_
      have h4 := e4 Dl _ (e3 Dl _ p2)
      refine ⟨ys, h4, by rw [dpAll_len p3]; exact sz_lt (by omega), Ex.mut ((p1.trans e3).trans e4) hD, ys ++ [v], upd_same, ?_⟩
      rw [er, List.filter_append, List.map_append, List.filter_cons, if_pos hf]
      have xt : ExT H4 (upd H4 Dl (.lst (ys ++ [v]))) := ExT.lst h4
      exact dpAll_app (dpAll_exT xt _ _ (noLs_of fun d hd => by
        obtain ⟨b, _, rfl⟩ := List.mem_map.mp hd
        exact hno b) (dpAll_ex (e3.trans e4) _ _ p3)) (.cons (dp_exT xt _ _ (hno _) hv) .nil)
    | false =>
      rw [if_neg Bool.false_ne_true]
      refine ⟨p1.trans e3, ys, e3 Dl _ p2, ?_⟩
      rw [er, List.filter_append, List.filter_cons, if_neg (by rw [hf]; decide), List.filter_nil, List.append_nil]
      exact dpAll_ex e3 _ _ p3
  · obtain ⟨p1, ys, p2, p3⟩ := p
    exact q Dl ys H' (fresh_back e1 hD) (e1.trans p1) p2 p3⟩
end
/-! ### sorted of ties -/
section
variable {K : PySem.W.Frag} {H : Hp}
theorem ties_perm {ys xs : List V} (p : ys.Perm xs) : ∀ ts : List Tie, DpAll K H xs (ts.map tieD) → ∃ us : List Tie, us.Perm ts ∧ DpAll K H ys (us.map tieD) := by
  induction p with
  | nil =>
    intro ts h
    exact ⟨ts, List.Perm.refl _, h⟩
  | cons x p ih =>
    intro ts h
    cases ts with
    | nil => cases h
    | cons t ts =>
      cases h with
      | cons h1 h2 =>
        obtain ⟨us, q, hu⟩ := ih ts h2
        exact ⟨t :: us, q.cons t, .cons h1 hu⟩
  | swap x y l =>
    intro ts h
    match ts, h with
    | t :: u :: ts, .cons h1 (.cons h2 h3) => exact ⟨u :: t :: ts, List.Perm.swap .., .cons h2 (.cons h1 h3)⟩
  | trans p q ih1 ih2 =>
    intro ts h
    obtain ⟨us, q1, h1⟩ := ih2 ts h
    obtain ⟨vs, q2, h2⟩ := ih1 us h1
    exact ⟨vs, q2.trans q1, h2⟩
theorem tup_tie {x : V} {t : Tie} (h : Dp K H x (tieD t)) : TupI K H x [(t.1 : Int), (t.2 : Int)] := by
  obtain ⟨a, rfl, hs⟩ := tie_inv h
  exact ⟨a, rfl, hs⟩
theorem ties_sorted : ∀ {ys : List V} {us : List Tie}, DpAll K H ys (us.map tieD) → (∀ t ∈ us, t.1 < 64 ∧ t.2 < 64) → ys.Pairwise (fun x y => ∀ n m, TupI K H x n → TupI K H y m → TS.code 64 n ≤ TS.code 64 m) → us.Pairwise fun x y => ¬ ltT y x
  | _, [], _, _, _ => List.Pairwise.nil
  | _, u :: us, h, hb, hp => by
    cases h with
    | cons h1 h2 =>
      have hp2 := List.pairwise_cons.mp hp
      refine List.pairwise_cons.mpr ⟨fun t ht hlt => ?_, ties_sorted h2 (fun t ht => hb t (List.mem_cons_of_mem _ ht)) hp2.2⟩
      obtain ⟨i, hi, rfl⟩ := List.mem_iff_getElem.mp ht
      obtain ⟨y, hy1, hy2⟩ := dpAll_at h2 (show (us.map tieD)[i]? = some (tieD us[i]) by rw [List.getElem?_map, List.getElem?_eq_getElem hi] <;> rfl)
      have q := hp2.1 y (List.mem_of_getElem? hy1) _ _ (tup_tie h1) (tup_tie hy2)
      rw [code_pair, code_pair] at q
      have b1 := hb u List.mem_cons_self
      have b2 := hb us[i] (List.mem_cons_of_mem _ ht)
      unfold ltT at hlt
      omega
/-- sorted(ties): the one rising list m of the same ties, where there is one -/
theorem evdl_sorted {te : TE} {σ : St} {ts m : List Tie} (h : EvDl K te σ H (ts.map tieD)) (hf : ts.length < 64) (hb : ∀ t ∈ ts, t.1 < 64 ∧ t.2 < 64) (hm : ∀ us : List Tie, us.Perm ts → us.Pairwise (fun x y => ¬ ltT y x) → us = m) : EvDL K (tCB (rSortU K 2 64) (tCons te tNil)) σ H (m.map tieD) := fun H1 e Q q => h H1 e _ fun p xs H2 e2 h2 ha => by
  refine ⟨p, xs, rfl, sq_of h2, by rw [dpAll_len ha, List.length_map]; exact hf, fun x hx => ?_, fun ys r hp hs hr => ?_⟩
  · obtain ⟨i, hi, rfl⟩ := List.mem_iff_getElem.mp hx
    obtain ⟨t, ht, hxt⟩ := ties_at ha (List.getElem?_eq_getElem hi)
    have := hb t (List.mem_of_getElem? ht)
    refine ⟨_, tup_tie hxt, rfl, fun z hz => ?_⟩
    rcases List.mem_cons.mp hz with rfl | hz
    · omega
    · have := List.mem_singleton.mp hz
      omega
  · obtain ⟨us, pu, hu⟩ := ties_perm hp ts ha
    have e3 := hm us pu (ties_sorted hu (fun t ht => hb t (pu.mem_iff.mp ht)) hs)
    subst e3
    exact q r ys _ (fresh_back e2 hr) (e2.trans (Ex.new hr)) upd_same (dpAll_ex (Ex.new hr) _ _ hu)
end
end Wb
/-! meet, made, midst_ties -/
namespace Wb
open PySem PySem.Spec PyProof.Rows L2 Evl Wm RZ
/-! ### meet -/
def spMeet (K : PySem.W.Frag) : Sp := fun vs H Q _ => ∃ v u s t, vs = [v, u] ∧ Dp K H v (tieD s) ∧ Dp K H u (tieD t) ∧ RetV (.bl (meetB s t)) H Q
/-- a call of one or two pieces of data whose answer is a known value -/
theorem ev_callD2 {K : PySem.W.Frag} {sp : Sp} {E : XK} {σ : St} {H : Hp} {ta tb : TE} {d e : PyData} {z : V} (ha : EvD K ta σ H d) (hb : EvD K tb σ H e)
    (hs : ∀ H1 v u, Ex H H1 → Dp K H1 v d → Dp K H1 u e → ∀ Q : VK, (∀ H2, Ex H1 H2 → Q z H2) → sp [v, u] H1 Q E) : Ev (tCall sp [] E (tCons ta (tCons tb tNil))) σ H z := fun H1 e1 Q q =>
  ha H1 e1 _ fun v H2 e2 hv => hb H2 (e1.trans e2) _ fun u H3 e3 hu => hs H3 v u ((e1.trans e2).trans e3) (dp_ex e3 _ _ hv) hu Q fun H4 e4 => q H4 ((e2.trans e3).trans e4)
section
variable {P : Program} {w : World} {K : PySem.W.Frag} {mg : Str → Option Value} {base : Heap}
theorem sc_meet : FnScope ["one", "other"] ["one", "other"] (C8.fnScope (topS 24)) := C8.fnScope_by (by decide +kernel)
theorem cal_meet (D : DefOk K mg "meet" (topS 24) ["one", "other"]) : C8.Cal P w K mg base 1 "meet" (spMeet K) [] := by
  refine cal_of D sc_meet (fun vs H Q E h => ?_) (fun f cdv A outer s H vs Q E hr h => ?_)
  · obtain ⟨v, u, s, t, rfl, _⟩ := h
    rfl
  obtain ⟨v, u, s, t, rfl, hs, ht, k⟩ := h
  refine ⟨_, pss_one (ps_ret (pe_or (pe_cmpR op_in_seq (pe_ix ix_tup (pv 0) pe_int (fun _ _ => rfl)) (pv 1) (by rfl)) (pe_one (pe_cmpR op_in_seq (pe_ix ix_tup (pv 0) pe_int (fun _ _ => rfl)) (pv 1) (by rfl))))), ?_⟩
  have i0 := evd_var (K := K) (σ := [some v, some u]) (i := 0) rfl hs
  have i1 := evd_var (K := K) (σ := [some v, some u]) (i := 1) rfl ht
  exact s_ret (v := .bl (meetB s t)) (ev_orV (ev_inTie (ev_tie0 i0) i1) fun _ => ev_inTie (ev_tie1 i0) i1) fun H1 e => k H1 e
theorem ev_meet {σ : St} {H : Hp} {ta tb : TE} {s t : Tie} (ha : EvD K ta σ H (tieD s)) (hb : EvD K tb σ H (tieD t)) : Ev (tCall (spMeet K) [] C8.E0 (tCons ta (tCons tb tNil))) σ H (.bl (meetB s t)) :=
  ev_callD2 ha hb fun H1 v u e hv hu Q q => ⟨v, u, s, t, rfl, hv, hu, q⟩
/-! ### made -/
def spMade (K : PySem.W.Frag) : Sp := fun vs H Q _ => ∃ v n ts, vs = [v] ∧ Dp K H v (webD n ts) ∧ ts.length ≤ 100 ∧ RetD K (webD ts.length (madeT ts)) H Q
abbrev nMade : List Str := ["web", "ties", "found", "a", "b"]
theorem sc_made : FnScope nMade ["web"] (C8.fnScope (topS 25)) := C8.fnScope_by (by decide +kernel)
theorem map_row (N : Nat) (f : Nat → Nat → Bool) (a : Nat) : (((List.range' (a + 1) (N - (a + 1))).filter (f a)).map fun b => tieD (a, b)) = (rowOf N f a).map tieD := by
  unfold rowOf
  rw [List.map_map]
  rfl
theorem rows_len' (N : Nat) (f : Nat → Nat → Bool) (i : Nat) : ((List.range i).flatMap (rowOf N f)).length ≤ i * N := by
  have h := rows_len N f (List.range i)
  rw [List.length_range] at h
  exact h
theorem cal_made (D : DefOk K mg "made" (topS 25) ["web"]) (Z : Blt mg) (cM : C8.Cal P w K mg base 1 "meet" (spMeet K) []) : C8.Cal P w K mg base 2 "made" (spMade K) [] := by
  refine cal_of D sc_made (fun vs H Q E h => ?_) (fun f cdv A outer s H vs Q E hr h => ?_)
  · obtain ⟨v, n, ts, rfl, _⟩ := h
    rfl
  obtain ⟨v, n, ts, rfl, hd, hl, k⟩ := h
  refine ⟨_, pss_cons (ps_set (i := 1) sc_made.nd rfl (Or.inr rfl) (pe_ix ix_tup (pv 0) pe_int (fun _ _ => rfl)))
    (pss_cons (ps_set (i := 2) sc_made.nd rfl (Or.inl rfl) (pe_lst pa_nil))
    (pss_cons (ps_for PassesOwn.never rfl (pi_range1 rfl Z.ran (pa_cons (pe_len Z (pv 1)) pa_nil)) (pg_name (i := 3) sc_made.nd rfl (Or.inr rfl))
      (pss_one (ps_expr (pe_bm PySem.F.plainAttrs_list PySem.F.slot_list_extend PySem.F.type_list_extend mt_extend (pv 2) (pa_cons
        (pe_lc (own := [("b", 4)]) (g := gName 4) (tt := tB (tCall (spMeet K) [] C8.E0 (tCons (tOp (rIxT K) (tVar 1) (tVar 3)) (tCons (tOp (rIxT K) (tVar 1) (tVar 4)) tNil)))) (te := tTup (tCons (tVar 3) (tCons (tVar 4) tNil))) rfl sc_made.nd
          (pi_range2 (by rfl) Z.ran (pa_cons (pe_op op_add (pv 3) pe_int) (pa_cons (pe_len Z (pv 1)) pa_nil))) (blkOk_by (N := nMade) (sc := C8.fnScope (topS 25)) (by decide +kernel)) (fun _ _ _ _ _ => pg_name (i := 4) sc_made.nd rfl (Or.inl rfl))
          (fun _ _ _ _ _ => pts_one (pt_val (C8.pe_c cM hr (by decide) (by rfl) (pa_cons (pe_ix ix_tup (pv 1) (pv 3) (fun _ _ => rfl)) (pa_cons (pe_ix ix_tup (pv 1) (pv 4) (fun _ _ => rfl)) pa_nil)))))
          (fun _ _ _ _ _ => pe_tup (pa_cons (pv 3) (pa_cons (pv 4) pa_nil)))) pa_nil)))))
    (pss_one (ps_ret (pe_tup (pa_cons (pe_len Z (pv 1)) (pa_cons (pe_callTy call_tuple_of (by rfl) Z.tup bt_tup (pa_cons (pv 2) pa_nil)) pa_nil))))))), ?_⟩
  refine q_asgD (evd_ix1 (evd_var rfl hd)) fun tv H1 e1 ht => ?_
  refine q_asgL (el_lst ea_nil (by decide)) fun l H2 hl2 e2 h2 => ?_
  have ht2 := dp_ex e2 _ _ ht
  refine q_forR1 (n := (ts.length : Int)) (ea_cons (ev_lenTs (evd_var (i := 1) rfl ht2)) ea_nil) (by omega)
    (fun i σ' H' => (∃ s3, σ' = [some v, some tv, some (.ref l), s3, none]) ∧ Ex H1 H' ∧ ∃ xs, H' l = some (.lst xs) ∧ DpAll K H' xs (((List.range i).flatMap (rowOf ts.length (meetF ts))).map tieD)) (fun H3 e3 => ?_) (fun i σ' H' hi p => ?_) (fun σ' H' p => ?_)
  · exact ⟨⟨none, rfl⟩, e2.trans e3, [], e3 l _ h2, .nil⟩
  · obtain ⟨⟨s3, rfl⟩, p1, xs, p2, p3⟩ := p
    have hi' : i < ts.length := by omega
    have tv' := dp_ex p1 _ _ ht
    have hrl := rows_len' ts.length (meetF ts) i
    have hsz : i * ts.length ≤ 100 * 100 := Nat.mul_le_mul (by omega) hl
    have hrow := rowOf_len ts.length (meetF ts) i
    refine s_extD p2 p3 (noL_ties _) (ev_var rfl) (edl_lcR2 (lo := i + 1) (hi := ts.length) (j := 4) (vs := [4]) (meetF ts i) (fun b => tieD (i, b)) (fun b => rfl)
      (ea_cons (ev_is (ev_op (ev_var rfl) ev_c rv_I0) rfl) (ea_cons (ev_lenTs (evd_var (i := 1) rfl tv')) ea_nil)) (by omega) (by omega) (fun _ => rfl) (fun b H3 e3 _ hb => ?_) (fun b H3 e3 _ hb => ?_)) (by rw [map_row]; exact noL_ties _) ?_ fun ys H3 e3 h3 a3 => ?_
    · have tv3 := dp_ex e3 _ _ tv'
      exact et_B (ev_meet (evd_tieAt (evd_var (i := 1) rfl tv3) hi' (ev_var rfl)) (evd_tieAt (evd_var (i := 1) rfl tv3) hb (ev_var rfl)))
    · exact evd_pair (ev_var rfl) (ev_var rfl)
    · rw [map_row, List.length_map, List.length_map]
      omega
    · refine ⟨⟨_, rfl⟩, exBut p1 hl2 e3, ys, h3, ?_⟩
      rw [List.range_succ, List.flatMap_append, List.map_append]
      rw [show (List.flatMap (rowOf ts.length (meetF ts)) [i]) = rowOf ts.length (meetF ts) i by simp, ← map_row]
      exact a3
  · obtain ⟨⟨s3, rfl⟩, p1, xs, p2, p3⟩ := p
    have en : ((ts.length : Int)).toNat = ts.length := by omega
    rw [en] at p3
    refine s_retD (d := webD ts.length (madeT ts)) (evd_tup (eda_cons (evd_int (ev_lenTs (evd_var (i := 1) rfl (dp_ex p1 _ _ ht)))) (eda_cons (evd_tupOf (evDl_var rfl p2 p3)) eda_nil)) (by show 2 ≤ 100000; decide)) fun u H3 e3 hu => ?_
    exact k u H3 ((e1.trans p1).trans e3) hu
theorem evd_made {σ : St} {H : Hp} {te : TE} {n : Nat} {ts : List Tie} (h : EvD K te σ H (webD n ts)) (hl : ts.length ≤ 100) : EvD K (tCall (spMade K) [] C8.E0 (tCons te tNil)) σ H (webD ts.length (madeT ts)) := fun H1 e1 Q q =>
  h H1 e1 _ fun v H2 e2 hv => ⟨v, n, ts, rfl, hv, hl, fun u H3 e3 hu => q u H3 (e2.trans e3) hu⟩
/-! ### midst_ties -/
def spTies (K : PySem.W.Frag) : Sp := fun vs H Q _ => ∃ v n ts, vs = [v] ∧ Dp K H v (webD n ts) ∧ ts.length ≤ 100 ∧ RetDL K ((midstT n 0 ts).map tieD) H Q
abbrev nTies : List Str := ["web", "found", "k", "tie", "place"]
theorem sc_ties : FnScope nTies ["web"] (C8.fnScope (topS 27)) := C8.fnScope_by (by decide +kernel)
/-- for k, x in enumerate(ties) -/
theorem walk_enumT {a : Addr} {xs : List V} : Walk (IteT K a) xs.length (fun H => SqT K H a xs) (YPair (fun i => some (.int (i : Nat))) (fun i => xs[i]?)) := by
  refine ⟨fun i _ hi q => ⟨xs, xs[i], q, by simp [hi]⟩, fun _ q => ⟨xs, q, rfl⟩, fun i H v H' _ q y => ?_⟩
  obtain ⟨T, x, h1, h2, h3, h4⟩ := y
  exact ⟨T, .int (i : Nat), x, h1, h2, h3, rfl, h4 xs q⟩
theorem cal_ties (D : DefOk K mg "midst_ties" (topS 27) ["web"]) (Z : Blt mg) : C8.Cal P w K mg base 1 "midst_ties" (spTies K) [] := by
  refine cal_of D sc_ties (fun vs H Q E h => ?_) (fun f cdv A outer s H vs Q E hr h => ?_)
  · obtain ⟨v, n, ts, rfl, _⟩ := h
    rfl
  obtain ⟨v, n, ts, rfl, hd, hl, k⟩ := h
  refine ⟨_, pss_cons (ps_set (i := 1) sc_ties.nd rfl (Or.inl rfl) (pe_lst pa_nil))
    (pss_cons (ps_for PassesOwn.never rfl (pi_enumT (by rfl) Z.enu (pa_cons (pe_ix ix_tup (pv 0) pe_int (fun _ _ => rfl)) pa_nil)) (pg_tup rfl (pgs_cons (pg_name (i := 2) sc_ties.nd rfl (Or.inr rfl)) (pgs_cons (pg_name (i := 3) sc_ties.nd rfl (Or.inl rfl)) pgs_nil)))
      (pss_one (ps_expr (pe_bm PySem.F.plainAttrs_list PySem.F.slot_list_extend PySem.F.type_list_extend mt_extend (pv 1) (pa_cons
        (pe_lc (own := [("place", 4)]) (g := gName 4) (tt := tYes) (te := tTup (tCons (tVar 4) (tCons (tOp (rI0 fun i j => .int (i + j)) (tOp (rIxT K) (tVar 0) (tC (.int 0))) (tVar 2)) tNil))) rfl sc_ties.nd
          (pi_tup (pv 3)) (blkOk_by (N := nTies) (sc := C8.fnScope (topS 27)) (by decide +kernel)) (fun _ _ _ _ _ => pg_name (i := 4) sc_ties.nd rfl (Or.inl rfl)) (fun _ _ _ _ _ => pts_nil)
          (fun _ _ _ _ _ => pe_tup (pa_cons (pv 4) (pa_cons (pe_op op_add (pe_ix ix_tup (pv 0) pe_int (fun _ _ => rfl)) (pv 2)) pa_nil)))) pa_nil)))))
    (pss_one (ps_ret (pv 1)))), ?_⟩
  refine q_asgL (el_lst ea_nil (by decide)) fun l H1 hl1 e1 h1 => ?_
  have hd1 := dp_ex e1 _ _ hd
  refine evd_ix1 (evd_var (i := 0) rfl hd1) H1 (Ex.refl H1) _ fun tv H2 e2 htv => ?_
  obtain ⟨a, _, rfl, _⟩ := tup_inv htv
  obtain ⟨xs, hx, ha, hxl⟩ := ties_inv htv
  refine ⟨a, xs, rfl, hx, for_it walk_enumT (fun i σ' H' => (∃ s2 s3, σ' = [some v, some (.ref l), s2, s3, none]) ∧ Ex H H' ∧ SqT K H' a xs ∧ DpAll K H' xs (ts.map tieD) ∧ ∃ ys, H' l = some (.lst ys) ∧ DpAll K H' ys ((midstT n 0 (ts.take i)).map tieD)) ?_ (fun i σ' H' _ p => p.2.2.1) (fun i x σ' H' H'' hi p y => ?_) fun σ' H' p => ?_⟩
  · exact ⟨⟨none, none, rfl⟩, e1.trans e2, hx, ha, [], e2 l _ h1, .nil⟩
  · obtain ⟨⟨s2, s3, rfl⟩, p1, p2, p3, ys, p4, p5⟩ := p
    obtain ⟨T, x1, x2, rfl, hT, rfl, f1, f2⟩ := y
    have eT : Ex H' (upd H' T (.tup [x1, x2])) := Ex.new hT
    have f1 : some (V.int (i : Nat)) = some x1 := f1
    cases f1
    obtain ⟨t, ht, hxt⟩ := ties_at p3 f2
    obtain ⟨pa, rfl, sa⟩ := tie_inv (dp_ex eT _ _ hxt)
    refine ⟨T, _, rfl, st_of upd_same, rfl, _, _, rfl, _, _, rfl, rfl, ?_⟩
    have hlt : i < ts.length := by omega
    have hlen : (midstT n 0 (ts.take i)).length ≤ 200 := by
      rw [midstT_len, List.length_take]
      omega
    have hd' := dp_ex (p1.trans eT) _ _ hd
    refine s_extD (eT l _ p4) (dpAll_ex eT _ _ p5) (noL_ties _) (ev_var rfl) (edl_lcT (ds := [tieD (t.1, n + i), tieD (t.2, n + i)]) (j := 4) (vs := [4]) (ev_var rfl) sa (by show 2 ≤ 40000; decide) rfl rfl (fun _ => rfl) fun j x d H3 e3 hxj hdj => ?_) rfl ?_ fun zs H3 e3 h3 a3 => ?_
    · have hn : Ev (tOp (rI0 fun i j => .int (i + j)) (tOp (rIxT K) (tVar 0) (tC (.int 0))) (tVar 2)) [some v, some (.ref l), some (.int (i : Nat)), some (.ref pa), some x] H3 (.int ((n + i : Nat) : Int)) := ev_is (ev_op (ev_ix0 (evd_var (i := 0) rfl (dp_ex e3 _ _ hd'))) (ev_var rfl) rv_I0) (congrArg V.int (by omega))
      match j, hxj, hdj with
      | 0, hxj, hdj =>
        cases hxj
        cases hdj
        exact evd_pair (ev_var rfl) hn
      | 1, hxj, hdj =>
        cases hxj
        cases hdj
        exact evd_pair (ev_var rfl) hn
      | _ + 2, hxj, hdj => simp at hxj
    · rw [List.length_map]
      show _ + 2 ≤ 100000
      omega
    · have xt := e3.exT (eT l _ p4)
      refine ⟨⟨_, _, rfl⟩, exBut (p1.trans eT) hl1 e3, sqT_exT xt (ex_t eT p2), dpAll_exT xt _ _ (noL_ties _) (dpAll_ex eT _ _ p3), zs, h3, ?_⟩
      have ei : (ts.take i).length = i := by
        rw [List.length_take]
        omega
      rw [List.take_add_one, ht]
      show DpAll K H3 zs ((midstT n 0 (ts.take i ++ [t])).map tieD)
      rw [midstT_snoc, ei, Nat.zero_add, List.map_append]
      exact a3
  · obtain ⟨⟨s2, s3, rfl⟩, p1, p2, p3, ys, p4, p5⟩ := p
    refine s_ret (ev_var rfl) fun H3 e3 => ?_
    rw [hxl, List.take_length] at p5
    exact k l ys H3 (hl1) (p1.trans e3) (e3 l _ p4) (dpAll_ex e3 _ _ p5)
end
end Wb
/-! midst_web, whole_web -/
namespace Wb
open PySem PySem.Spec PyProof.Rows L2 Evl Wm RZ
/-- [e for .. in ties if f]: stf the turn's state -/
theorem edl_lcTs {K : PySem.W.Frag} {σ : St} {H : Hp} {tl te : TE} {tt : TT} {g : TG} {vs : List Nat} {ts : List Tie} (f : Tie → Bool) (gD : Tie → PyData) (hno : ∀ t, noL (gD t) = true) (stf : V → Tie → St) (h : EvD K tl σ H (tiesD ts)) (hz : ts.length ≤ 1000)
    (hg : ∀ x t H1, Ex H H1 → Dp K H1 x (tieD t) → ∀ Q : St → Hp → Prop, Q (stf x t) H1 → g x (wipe σ vs) H1 Q) (hw : ∀ x t, wipe (stf x t) vs = wipe σ vs)
    (ht : ∀ x t H1, Ex H H1 → t ∈ ts → Dp K H1 x (tieD t) → EvT tt (stf x t) H1 (f t)) (he : ∀ x t H1, Ex H H1 → t ∈ ts → Dp K H1 x (tieD t) → EvD K te (stf x t) H1 (gD t)) :
    EvDL K (tLc (iTup K tl) g tt te vs) σ H ((ts.filter f).map gD) := fun H0 e Q q => h H0 e _ fun v H1 e1 hv => by
  obtain ⟨a, _, rfl, _⟩ := tup_inv hv
  obtain ⟨xs, hx, ha, hl⟩ := ties_inv hv
  refine ⟨a, rfl, ⟨xs, hx⟩, fun Dl hD => ?_⟩
  refine lc_tup (xs := xs) (fun i H' => Ex H1 H' ∧ ∃ ys, H' Dl = some (.lst ys) ∧ DpAll K H' ys (((ts.take i).filter f).map gD)) ⟨Ex.new hD, [], upd_same, .nil⟩ (fun i H' _ p => ex_t p.1 hx) (fun i x H' hi p => ?_) (fun H' p => ?_)
  · obtain ⟨p1, ys, p2, p3⟩ := p
    obtain ⟨t, hti, hxt⟩ := ties_at ha hi
    have htm := List.mem_of_getElem? hti
    have hlt := (List.getElem?_eq_some_iff.mp hti).1
    have e0 := (e.trans e1).trans p1
    refine hg x t H' e0 (dp_ex p1 _ _ hxt) _ ⟨hw x t, ?_⟩
    refine ht x t H' e0 htm (dp_ex p1 _ _ hxt) H' (Ex.refl _) _ fun H3 e3 => ?_
    have er : ts.take (i + 1) = ts.take i ++ [t] := by
      rw [List.take_add_one, hti]
      rfl
    have hlen : (((ts.take i).filter f).map gD).length ≤ 1000 := by
      rw [List.length_map]
      refine Nat.le_trans (List.length_filter_le ..) ?_
      rw [List.length_take]
      omega
    cases hf : f t with
    | true =>
      rw [if_pos rfl]
      refine he x t H3 (e0.trans e3) htm (dp_ex (p1.trans e3) _ _ hxt) H3 (Ex.refl _) _ fun v H4 e4 hv => ?_
      have h4 := e4 Dl _ (e3 Dl _ p2)
      refine ⟨ys, h4, by rw [dpAll_len p3]; exact sz_lt (by omega), Ex.mut ((p1.trans e3).trans e4) hD, ys ++ [v], upd_same, ?_⟩
      rw [er, List.filter_append, List.map_append, List.filter_cons, if_pos hf]
      have xt : ExT H4 (upd H4 Dl (.lst (ys ++ [v]))) := ExT.lst h4
      exact dpAll_app (dpAll_exT xt _ _ (noLs_of fun d hd => by
        obtain ⟨b, _, rfl⟩ := List.mem_map.mp hd
        exact hno b) (dpAll_ex (e3.trans e4) _ _ p3)) (.cons (dp_exT xt _ _ (hno _) hv) .nil)
    | false =>
      rw [if_neg Bool.false_ne_true]
      refine ⟨p1.trans e3, ys, e3 Dl _ p2, ?_⟩
      rw [er, List.filter_append, List.filter_cons, if_neg (by rw [hf]; decide), List.filter_nil, List.append_nil]
      exact dpAll_ex e3 _ _ p3
  · obtain ⟨p1, ys, p2, p3⟩ := p
    rw [hl, List.take_length] at p3
    exact q Dl ys H' (fresh_back e1 hD) (e1.trans p1) p2 p3
/-- what midst_web and whole_web do -/
def spMid (K : PySem.W.Frag) (CW CT : Addr) (whole : Bool) : Sp := fun vs H Q E => ∃ v, vs = [v] ∧ ((∃ n ts, Wv n ts ∧ Dp K H v (webD n ts) ∧ (n + ts.length ≤ 14 → RetD K (webD (n + ts.length) (dueT n ts whole)) H Q) ∧
    (14 < n + ts.length → ∀ dd H', Ex H H' → H dd = none → H' dd = some (.xd (tooFs ((n + ts.length : Nat) : Int) 14)) → E (.ref CT) (some dd) H')) ∨ (AskV K H v false ∧ ∀ H', Ex H H' → E (.ref CW) none H'))
theorem wv_below {n : Nat} {ts : List Tie} (W : Wv n ts) : ∀ t ∈ ts, t.1 < 64 ∧ t.2 < 64 := fun t ht => by
  have := W.ok t ht
  have := W.most
  omega
theorem mid_below {n : Nat} {ts : List Tie} (W : Wv n ts) (hb : n + ts.length ≤ 14) : ∀ t ∈ midstT n 0 ts, t.1 < 64 ∧ t.2 < 64 := fun t ht => by
  obtain ⟨h1, h2, h3⟩ := mem_mid.mp ht
  have q := W.ok _ (tieAt_mem (ts := ts) (k := t.2 - n) (by omega))
  have := W.most
  omega
theorem shift_below {n : Nat} {ts : List Tie} (hb : n + ts.length ≤ 14) : ∀ t ∈ shiftT n (madeT ts), t.1 < 64 ∧ t.2 < 64 := fun t ht => by
  obtain ⟨h1, h2, h3⟩ := mem_shiftT.mp ht
  have q := mem_grid.mp h3
  dsimp only at q
  omega
theorem map_shift (n : Nat) (ts : List Tie) : (ts.filter fun _ => true).map (fun t => tieD (n + t.1, n + t.2)) = (shiftT n ts).map tieD := by
  unfold shiftT
  rw [List.map_map, List.filter_eq_self.mpr fun _ _ => rfl]
  rfl
theorem et_yes {σ : St} {H : Hp} : EvT tYes σ H true := fun H1 _ Q q => q H1 (Ex.refl H1)
section
variable {P : Program} {w : World} {K : PySem.W.Frag} {mg : Str → Option Value} {base : Heap}
theorem sc_midst : FnScope ["web", "many"] ["web"] (C8.fnScope (topS 29)) := C8.fnScope_by (by decide +kernel)
theorem evdl_ties {σ : St} {H : Hp} {te : TE} {n : Nat} {ts : List Tie} (h : EvD K te σ H (webD n ts)) (hl : ts.length ≤ 100) : EvDL K (tCall (spTies K) [] C8.E0 (tCons te tNil)) σ H ((midstT n 0 ts).map tieD) := fun H1 e1 Q q =>
  h H1 e1 _ fun v H2 e2 hv => ⟨v, n, ts, rfl, hv, hl, fun p xs H3 hp e3 h3 ha => q p xs H3 (fresh_back e2 hp) (e2.trans e3) h3 ha⟩
theorem cal_midst {CW CT : Addr} (D : DefOk K mg "midst_web" (topS 29) ["web"]) (Z : Blt mg) (cY : CalX P w K mg base 6 "many_with_midsts" (spMany K CW CT)) (cS : C8.Cal P w K mg base 1 "midst_ties" (spTies K) []) : CalX P w K mg base 7 "midst_web" (spMid K CW CT false) := by
  refine calX_of D sc_midst (fun vs H Q E h => ?_) (fun f cdv A outer s H vs Q E hr h => ?_)
  · obtain ⟨v, rfl, _⟩ := h
    rfl
  obtain ⟨v, rfl, h⟩ := h
  refine ⟨_, pss_cons (ps_set (i := 1) sc_midst.nd rfl (Or.inl rfl) (pe_cx cY hr (by decide) (passes_call (takes_of rfl rfl rfl rfl) (fun _ _ _ _ h => h)) (by rfl) (pa_cons (pv 0) pa_nil)))
    (pss_one (ps_ret (pe_tup (pa_cons (pv 1) (pa_cons (pe_callTy call_tuple_of (by rfl) Z.tup bt_tup (pa_cons (pe_callB (cr_sortT (d := 2) (B := 64) (by decide)) (by rfl) Z.srt bt_srt (pa_cons (C8.pe_c cS hr (by decide) (by rfl) (pa_cons (pv 0) pa_nil)) pa_nil)) pa_nil)) pa_nil))))), ?_⟩
  rcases h with ⟨n, ts, W, hd, k1, k2⟩ | ⟨hb, k2⟩
  · refine ⟨v, rfl, v, rfl, .inl ⟨n, ts, W, hd, fun hle H1 e1 => ?_, k2⟩⟩
    have h9 := fit_nine W hle
    refine s_retD (d := webD (n + ts.length) (dueT n ts false)) (evd_tup (eda_cons (evd_int (ev_var rfl)) (eda_cons (evd_tupOf (EvDL.l (evdl_sorted (m := dueT n ts false) (EvDL.l (evdl_ties (evd_var (i := 0) rfl (dp_ex e1 _ _ hd)) (by omega))) ?_ (mid_below W hle) fun us p h => midst_sorted W p h))) eda_nil)) (by show 2 ≤ 100000; decide)) fun u H2 e2 hu => ?_
    · rw [midstT_len]
      omega
    · exact k1 hle u H2 (e1.trans e2) hu
  · exact ⟨v, rfl, v, rfl, .inr ⟨hb, k2⟩⟩
abbrev nWhole : List Str := ["web", "many", "between", "a", "b"]
theorem sc_wholeW : FnScope nWhole ["web"] (C8.fnScope (topS 30)) := C8.fnScope_by (by decide +kernel)
theorem cal_wholeW {CW CT : Addr} (D : DefOk K mg "whole_web" (topS 30) ["web"]) (Z : Blt mg) (cY : CalX P w K mg base 6 "many_with_midsts" (spMany K CW CT)) (cS : C8.Cal P w K mg base 1 "midst_ties" (spTies K) []) (cM : C8.Cal P w K mg base 2 "made" (spMade K) []) :
    CalX P w K mg base 7 "whole_web" (spMid K CW CT true) := by
  refine calX_of D sc_wholeW (fun vs H Q E h => ?_) (fun f cdv A outer s H vs Q E hr h => ?_)
  · obtain ⟨v, rfl, _⟩ := h
    rfl
  obtain ⟨v, rfl, h⟩ := h
  refine ⟨_, pss_cons (ps_set (i := 1) sc_wholeW.nd rfl (Or.inl rfl) (pe_cx cY hr (by decide) (passes_call (takes_of rfl rfl rfl rfl) (fun _ _ _ _ h => h)) (by rfl) (pa_cons (pv 0) pa_nil)))
    (pss_cons (ps_setLc (i := 2) (own := [("a", 3), ("b", 4)]) (g := gTup K 2 (gCons (gName 3) (gCons (gName 4) gNil))) (tt := tYes) (te := tTup (tCons (tOp (rI0 fun i j => .int (i + j)) (tOp (rIxT K) (tVar 0) (tC (.int 0))) (tVar 3)) (tCons (tOp (rI0 fun i j => .int (i + j)) (tOp (rIxT K) (tVar 0) (tC (.int 0))) (tVar 4)) tNil)))
        rfl sc_wholeW.nd rfl rfl (sw_true rfl rfl rfl (by decide +kernel)) (pi_tup (pe_ix ix_tup (C8.pe_c cM hr (by decide) (by rfl) (pa_cons (pv 0) pa_nil)) pe_int (fun _ _ => rfl))) (blkOk_by (N := nWhole) (sc := C8.fnScope (topS 30)) (by decide +kernel))
        (fun _ _ _ _ _ => pg_tup rfl (pgs_cons (pg_name (i := 3) sc_wholeW.nd rfl (Or.inl rfl)) (pgs_cons (pg_name (i := 4) sc_wholeW.nd rfl (Or.inl rfl)) pgs_nil))) (fun _ _ _ _ _ => pts_nil)
        (fun _ _ _ _ _ => pe_tup (pa_cons (pe_op op_add (pe_ix ix_tup (pv 0) pe_int (fun _ _ => rfl)) (pv 3)) (pa_cons (pe_op op_add (pe_ix ix_tup (pv 0) pe_int (fun _ _ => rfl)) (pv 4)) pa_nil))))
    (pss_one (ps_ret (pe_tup (pa_cons (pv 1) (pa_cons (pe_callTy call_tuple_of (by rfl) Z.tup bt_tup (pa_cons (pe_callB (cr_sortT (d := 2) (B := 64) (by decide)) (by rfl) Z.srt bt_srt (pa_cons
      (pe_op op_cat (pe_op op_cat (pe_callTy call_list_of (by rfl) Z.lst bt_lst (pa_cons (pe_ix ix_tup (pv 0) pe_int (fun _ _ => rfl)) pa_nil)) (C8.pe_c cS hr (by decide) (by rfl) (pa_cons (pv 0) pa_nil))) (pv 2)) pa_nil)) pa_nil)) pa_nil)))))), ?_⟩
  rcases h with ⟨n, ts, W, hd, k1, k2⟩ | ⟨hb, k2⟩
  · refine ⟨v, rfl, v, rfl, .inl ⟨n, ts, W, hd, fun hle H1 e1 => ?_, k2⟩⟩
    have h9 := fit_nine W hle
    have hd1 := dp_ex e1 _ _ hd
    have hm := made_le (ts := ts)
    have hm2 := nine_grid ts.length h9
    dsimp only [gName]
    refine q_asgDL (K := K) (ds := (shiftT n (madeT ts)).map tieD) ?_ fun p xs H2 hp e2 h2 ha => ?_
    · rw [← map_shift]
      refine edl_lcTs (fun _ => true) (fun t => tieD (n + t.1, n + t.2)) (fun _ => rfl) (fun _ t => [some v, some (.int ((n + ts.length : Nat) : Int)), none, some (.int (t.1 : Int)), some (.int (t.2 : Int))]) (evd_ix1 (evd_made (evd_var (i := 0) rfl hd1) (by omega))) (by omega)
        (fun x t H3 e3 hx Q q => ?_) (fun x t => rfl) (fun x t H3 e3 ht hx => et_yes) (fun x t H3 e3 ht hx => ?_)
      · obtain ⟨a, rfl, hs⟩ := tie_inv hx
        exact ⟨a, _, rfl, hs, rfl, _, _, rfl, _, _, rfl, rfl, q⟩
      · have i0 := ev_ix0 (evd_var (K := K) (i := 0) (σ := [some v, some (.int ((n + ts.length : Nat) : Int)), none, some (.int (t.1 : Int)), some (.int (t.2 : Int))]) rfl (dp_ex e3 _ _ hd1))
        exact evd_pair (ev_is (ev_op i0 (ev_var rfl) rv_I0) (congrArg V.int (by omega))) (ev_is (ev_op i0 (ev_var rfl) rv_I0) (congrArg V.int (by omega)))
    · have hd2 := dp_ex e2 _ _ hd1
      have hl1 : ((shiftT n (madeT ts)).map tieD).length ≤ 36 := by
        rw [List.length_map]
        unfold shiftT
        rw [List.length_map]
        omega
      have hl2 : ((midstT n 0 ts).map tieD).length = 2 * ts.length := by rw [List.length_map, midstT_len]
      have hl0 : (ts.map tieD).length = ts.length := List.length_map ..
      refine s_retD (d := webD (n + ts.length) (dueT n ts true)) (evd_tup (eda_cons (evd_int (ev_var rfl)) (eda_cons (evd_tupOf (EvDL.l (evdl_sorted (ts := wholeT n ts) (m := dueT n ts true) ?_ (whole_few W hle) ?_ fun us p h => whole_sorted W p h))) eda_nil)) (by show 2 ≤ 100000; decide)) fun u H3 e3 hu => ?_
      · unfold wholeT
        rw [List.map_append, List.map_append]
        refine EvDL.l (evdl_cat (EvDL.l (evdl_cat (EvDL.l (evdl_listOf (evd_ix1 (evd_var (i := 0) rfl hd2)))) (EvDL.l (evdl_ties (evd_var (i := 0) rfl hd2) (by omega))) (by omega))) (evDl_var rfl h2 ha) (by rw [List.length_append]; omega))
      · intro t ht
        unfold wholeT at ht
        rcases List.mem_append.mp ht with ht | ht
        · rcases List.mem_append.mp ht with ht | ht
          · exact wv_below W t ht
          · exact mid_below W hle t ht
        · exact shift_below hle t ht
      · exact k1 hle u H3 ((e1.trans e2).trans e3) hu
  · exact ⟨v, rfl, v, rfl, .inr ⟨hb, k2⟩⟩
end
end Wb
/-! the law's drawing: a cell, a state, a number taken -/
namespace Wb
open PySem PySem.Spec PyProof.Rows L2 Evl Wm RZ
/-- a drawing state -/
def StAt (H : Hp) (a : Addr) : Prop := ∃ (x : Int) (b : Bool), H a = some (.lst [.int x, .bl b]) ∧ (b = false → 0 ≤ x ∧ x < 2147483647)
theorem StAt.ex {H H' : Hp} {a : Addr} (e : Ex H H') (h : StAt H a) : StAt H' a := by
  obtain ⟨x, b, h1, h2⟩ := h
  exact ⟨x, b, e a _ h1, h2⟩
theorem StAt.exB {l : Addr} {H H' : Hp} {a : Addr} (e : ExB l H H') (n : a ≠ l) (h : StAt H a) : StAt H' a := by
  obtain ⟨x, b, h1, h2⟩ := h
  exact ⟨x, b, e a _ n h1, h2⟩
theorem StAt.exT {H H' : Hp} {a : Addr} (h : StAt H a) (e : ExB a H H') : ExT H H' := by
  obtain ⟨x, b, h1, h2⟩ := h
  exact e.exT h1
def spCell (K : PySem.W.Frag) : Sp := fun vs H Q _ => ∃ a ns k, vs = [.ref a, .int ((k : Nat) : Int)] ∧ SqL K H a ((ns : List Int).map V.int) ∧ ∀ z H', Ex H H' → Q (.int z) H'
def spState (K : PySem.W.Frag) : Sp := fun vs H Q _ => ∃ a ns k, vs = [.ref a, .int ((k : Nat) : Int)] ∧ SqL K H a ((ns : List Int).map V.int) ∧ ∀ p H', H p = none → Ex H H' → StAt H' p → Q (.ref p) H'
def spTake : Sp := fun vs H Q _ => ∃ a m, vs = [.ref a, .int ((m : Nat) : Int)] ∧ StAt H a ∧ 0 < m ∧ m ≤ 1000 ∧ ∀ (r : Nat) H', r < m → ExB a H H' → StAt H' a → Q (.int (r : Int)) H'
section
variable {P : Program} {w : World} {K : PySem.W.Frag} {mg : Str → Option Value} {base : Heap}
theorem sc_cell : FnScope ["_law_script", "_law_k"] ["_law_script", "_law_k"] (C8.fnScope (topS 32)) := C8.fnScope_by (by decide +kernel)
theorem cal_cell (D : DefOk K mg "_law_cell_at" (topS 32) ["_law_script", "_law_k"]) (Z : Blt mg) : C8.Cal P w K mg base 1 "_law_cell_at" (spCell K) [] := by
  refine cal_of D sc_cell (fun vs H Q E h => ?_) (fun f cdv A outer s H vs Q E hr h => ?_)
  · obtain ⟨a, ns, k, rfl, _⟩ := h
    rfl
  obtain ⟨a, ns, k, rfl, hs, q⟩ := h
  refine ⟨_, pss_cons (ps_if (pt_cmpR op_lt (pv 1) (pe_len Z (pv 0)) (nomark _)) (pss_one (ps_ret (pe_ix ix_list (pv 0) (pv 1) (fun _ _ => rfl)))) pss_nil) (pss_one (ps_ret pe_int)), ?_⟩
  refine q_when (et_test (ev_op (ev_var rfl) (ev_len (ev_var rfl) hs) rv_I0)) (fun hb H1 e => ?_) (fun hb H1 e => ?_)
  · have hb := of_decide_eq_true hb
    rw [List.length_map] at hb
    have hk : k < ns.length := by omega
    exact s_ret (ev_ixL (v := .int ns[k]) (ev_var rfl) (ex_l e hs) (ev_var rfl) (by rw [List.getElem?_map, List.getElem?_eq_getElem hk]; rfl)) fun H2 e2 => q _ H2 (e.trans e2)
  · exact s_ret ev_c fun H2 e2 => q _ H2 (e.trans e2)
theorem sc_state : FnScope ["_law_script", "_law_k", "_law_cell"] ["_law_script", "_law_k"] (C8.fnScope (topS 33)) := C8.fnScope_by (by decide +kernel)
theorem cal_state (D : DefOk K mg "_law_state" (topS 33) ["_law_script", "_law_k"]) (cC : C8.Cal P w K mg base 1 "_law_cell_at" (spCell K) []) : C8.Cal P w K mg base 2 "_law_state" (spState K) [] := by
  refine cal_of D sc_state (fun vs H Q E h => ?_) (fun f cdv A outer s H vs Q E hr h => ?_)
  · obtain ⟨a, ns, k, rfl, _⟩ := h
    rfl
  obtain ⟨a, ns, k, rfl, hs, q⟩ := h
  refine ⟨_, pss_cons (ps_set (i := 2) sc_state.nd rfl (Or.inl rfl) (C8.pe_c cC hr (by decide) (by rfl) (pa_cons (pv 0) (pa_cons (pv 1) pa_nil))))
    (pss_cons (ps_if (pt_cmpR op_ge (pv 2) (pe_op op_pow pe_int pe_int) (nomark _)) (pss_one (ps_ret (pe_lst (pa_cons (pe_op op_sub (pv 2) (pe_op op_pow pe_int pe_int)) (pa_cons pe_bl pa_nil))))) pss_nil)
    (pss_one (ps_ret (pe_lst (pa_cons (pe_op op_mod (pv 2) pe_int) (pa_cons pe_bl pa_nil)))))), ?_⟩
  refine ⟨_, rfl, _, rfl, a, ns, k, rfl, hs, fun z H1 e1 => ?_⟩
  have hp : ∀ σ H, Ev (tOp (rI CPow fun i j => .int (i ^ j.toNat)) (tC (.int 10)) (tC (.int 18))) σ H (.int (10 ^ 18)) := fun σ H => ev_is (ev_op ev_c ev_c (rv_I (by unfold CPow; omega))) rfl
  refine q_when (et_test (ev_op (ev_var rfl) (hp _ _) rv_I0)) (fun hb H2 e2 => ?_) (fun hb H2 e2 => ?_)
  · exact s_retL (el_lst (ea_cons (ev_op (ev_var rfl) (hp _ _) rv_I0) (ea_cons ev_c ea_nil)) (by show 2 ≤ 100000; decide)) fun p H3 hp e3 h3 => q p H3 (fresh_back (e1.trans e2) hp) ((e1.trans e2).trans e3) ⟨_, true, h3, fun z => nomatch z⟩
  · exact s_retL (el_lst (ea_cons (ev_op (ev_var rfl) ev_c (rv_I (by decide))) (ea_cons ev_c ea_nil)) (by show 2 ≤ 100000; decide)) fun p H3 hp e3 h3 => q p H3 (fresh_back (e1.trans e2) hp) ((e1.trans e2).trans e3) ⟨_, false, h3, fun _ => by omega⟩
abbrev nTake : List Str := ["_law_state_here", "_law_many", "_law_found", "_law_stirred"]
theorem sc_take : FnScope nTake ["_law_state_here", "_law_many"] (C8.fnScope (topS 34)) := C8.fnScope_by (by decide +kernel)
theorem cmul_31 {i j : Int} (h0 : 0 ≤ i) (h1 : i < 4294967296) : CMul i j := .inl (by omega)
theorem nat_of {i : Int} (h : 0 ≤ i) : ∃ n : Nat, i = (n : Int) := ⟨i.toNat, by omega⟩
theorem log_small {m : Nat} (h : m ≤ 1000) : ((m : Int)).natAbs.log2 < 9000 := by
  have := Nat.log2_le_self m
  rw [Int.natAbs_natCast]
  omega
theorem cal_take (D : DefOk K mg "_law_take" (topS 34) ["_law_state_here", "_law_many"]) : C8.Cal P w K mg base 1 "_law_take" spTake [] := by
  refine cal_of D sc_take (fun vs H Q E h => ?_) (fun f cdv A outer s H vs Q E hr h => ?_)
  · obtain ⟨a, m, rfl, _⟩ := h
    rfl
  obtain ⟨a, m, rfl, hs, h0, hm, q⟩ := h
  refine ⟨_, pss_cons (ps_if (pt_val (pe_ix ix_list (pv 0) pe_int (fun _ _ => rfl)))
      (pss_cons (ps_set (i := 2) sc_take.nd rfl (Or.inl rfl) (pe_op op_mod (pe_ix ix_list (pv 0) pe_int (fun _ _ => rfl)) (pv 1)))
      (pss_cons (ps_asg (pe_op op_fdivW (pe_ix ix_list (pv 0) pe_int (fun _ _ => rfl)) (pv 1)) (pg_sub (pv 0) pe_int set_list))
      (pss_one (ps_ret (pv 2))))) pss_nil)
    (pss_cons (ps_asg (pe_op op_mod (pe_op op_add (pe_op op_mul (pe_ix ix_list (pv 0) pe_int (fun _ _ => rfl)) pe_int) pe_int) pe_int) (pg_sub (pv 0) pe_int set_list))
    (pss_cons (ps_set (i := 3) sc_take.nd rfl (Or.inl rfl) (pe_op op_mod (pe_op op_add (pe_op op_add (pe_op op_mul (pe_ix ix_list (pv 0) pe_int (fun _ _ => rfl)) (pe_ix ix_list (pv 0) pe_int (fun _ _ => rfl))) (pe_op op_mul pe_int (pe_ix ix_list (pv 0) pe_int (fun _ _ => rfl)))) pe_int) pe_int))
    (pss_cons (ps_set (i := 3) sc_take.nd rfl (Or.inl rfl) (pe_op op_mod (pe_op op_add (pe_op op_mul (pv 3) (pv 3)) (pe_op op_mul pe_int (pv 3))) pe_int))
    (pss_one (ps_ret (pe_op op_mod (pe_op op_fdivW (pv 3) pe_int) (pv 1))))))), ?_⟩
  obtain ⟨x, b, ha, hb⟩ := hs
  have ix : ∀ (σ : L2.St) (H' : Hp) (y : Int) (b : Bool), σ[0]? = some (some (.ref a)) → H' a = some (.lst [.int y, .bl b]) → Ev (tOp (rIxL K) (tVar 0) (tC (.int 0))) σ H' (.int y) := fun σ H' y b h1 h2 => ev_ixL (j := 0) (ev_var h1) (sq_of h2) ev_c rfl
  have ix1 : Ev (tOp (rIxL K) (tVar 0) (tC (.int 1))) [some (.ref a), some (.int ((m : Nat) : Int)), none, none] H (.bl b) := ev_ixL (j := 1) (ev_var rfl) (sq_of ha) ev_c rfl
  refine q_when (et_B ix1) (fun hb H1 e1 => ?_) (fun hb0 H1 e1 => ?_)
  · have ha1 := e1 a _ ha
    refine q_asg (ev_op (ix _ _ x b rfl ha1) (ev_var rfl) (rv_I (by omega))) fun H2 e2 => ?_
    have ha2 := e2 a _ ha1
    refine q_setL (j := 0) ha2 (ev_op (ix _ _ x b rfl ha2) (ev_var rfl) (rv_I ⟨by omega, log_small hm⟩)) (ev_var rfl) ev_c (by show 0 < 2; decide) fun H3 e3 => ?_
    refine s_ret (ev_var rfl) fun H4 e4 => ?_
    obtain ⟨r, hr⟩ := nat_of (i := x % (m : Int)) (Int.emod_nonneg _ (by omega))
    rw [hr]
    refine q r H4 ?_ (((ExB.of ((e1.trans e2).trans e3)).trans ExB.upd).trans (ExB.of e4)) ⟨_, b, e4 a _ upd_same, fun z => by rw [hb] at z; cases z⟩
    have := Int.emod_lt_of_pos x (show (0 : Int) < (m : Int) by omega)
    omega
  · obtain ⟨b1, b2⟩ := hb hb0
    have ha1 := e1 a _ ha
    refine q_setL (j := 0) (v := .int ((x * 48271 + 29) % 2147483647)) ha1 (ev_op (ev_op (ev_op (ix _ _ x b rfl ha1) ev_c (rv_I (cmul_31 b1 (by omega)))) ev_c rv_I0) ev_c (rv_I (by decide))) (ev_var rfl) ev_c (by show 0 < 2; decide) fun H2 e2 => ?_
    generalize hy : (x * 48271 + 29) % 2147483647 = y
    have y1 : 0 ≤ y ∧ y < 2147483647 := by omega
    have ha2 : (upd H2 a (.lst ([V.int x, V.bl b].set 0 (.int y)))) a = some (.lst [.int y, .bl b]) := upd_same
    have eB : ExB a H (upd H2 a (.lst ([V.int x, V.bl b].set 0 (.int y)))) := (ExB.of (e1.trans e2)).trans ExB.upd
    generalize upd H2 a (.lst ([V.int x, V.bl b].set 0 (.int y))) = H3 at ha2 eB
    have i0 := ix [some (.ref a), some (.int ((m : Nat) : Int)), none, none] H3 y b rfl ha2
    refine q_asg (ev_op (ev_op (ev_op (ev_op i0 i0 (rv_I (cmul_31 y1.1 (by omega)))) (ev_op ev_c i0 (rv_I (cmul_31 (by decide) (by decide)))) rv_I0) ev_c rv_I0) ev_c (rv_I (by decide))) fun H4 e4 => ?_
    generalize hz : (y * y + 39373 * y + 7) % 2147483629 = z
    have z1 : 0 ≤ z ∧ z < 2147483647 := by
      have := Int.emod_nonneg (y * y + 39373 * y + 7) (b := 2147483629) (by decide)
      have := Int.emod_lt_of_pos (y * y + 39373 * y + 7) (b := 2147483629) (by decide)
      omega
    refine q_asg (ev_op (ev_op (ev_op (ev_var rfl) (ev_var rfl) (rv_I (cmul_31 z1.1 (by omega)))) (ev_op ev_c (ev_var rfl) (rv_I (cmul_31 (by decide) (by decide)))) rv_I0) ev_c (rv_I (by decide))) fun H5 e5 => ?_
    generalize (z * z + 16807 * z) % 2147483587 = u
    refine s_ret (ev_op (ev_op (ev_var rfl) ev_c (rv_I ⟨by decide, by decide⟩)) (ev_var rfl) (rv_I (by omega))) fun H6 e6 => ?_
    obtain ⟨r, hr⟩ := nat_of (i := u / 8 % (m : Int)) (Int.emod_nonneg _ (by omega))
    rw [hr]
    have e46 := (e4.trans e5).trans e6
    refine q r H6 ?_ (eB.trans (ExB.of e46)) ⟨y, b, e46 a _ ha2, fun _ => y1⟩
    have := Int.emod_lt_of_pos (u / 8) (show (0 : Int) < (m : Int) by omega)
    omega
end
end Wb
/-! drawn webs, the law's made -/
namespace Wb
open PySem PySem.Spec PyProof.Rows L2 Evl Wm RZ
/-- a state's list l0 goes on, all else stays -/
structure Drw (sa : Addr) (H H' : Hp) : Prop where
  b : ExB sa H H'
  s : StAt H' sa
theorem Drw.refl {sa : Addr} {H : Hp} (h : StAt H sa) : Drw sa H H := ⟨fun _ _ _ q => q, h⟩
theorem Drw.trans {sa : Addr} {H H1 H2 : Hp} (a : Drw sa H H1) (b : Drw sa H1 H2) : Drw sa H H2 := ⟨a.b.trans b.b, b.s⟩
theorem Drw.ex {sa : Addr} {H H1 H2 : Hp} (a : Drw sa H H1) (e : Ex H1 H2) : Drw sa H H2 := ⟨a.b.trans (ExB.of e), a.s.ex e⟩
theorem Drw.of {sa : Addr} {H H1 : Hp} (h : StAt H sa) (e : Ex H H1) : Drw sa H H1 := ⟨ExB.of e, h.ex e⟩
theorem Drw.ne {sa : Addr} {H : Hp} {l : Addr} (h : StAt H sa) (n : H l = none) : sa ≠ l := fun z => by
  obtain ⟨x, b, h1, _⟩ := h
  rw [z, n] at h1
  cases h1
theorem Drw.fresh {sa : Addr} {H H1 : Hp} {l : Addr} (h : StAt H sa) (e : ExB sa H H1) (n : H1 l = none) (s : StAt H1 sa) : H l = none := by
  cases q : H l with
  | none => rfl
  | some o =>
    rw [e l o (fun z => (Drw.ne s n) z.symm) q] at n
    cases n
/-- a list that H does not know may change -/
theorem Drw.mut {sa : Addr} {H H1 : Hp} {l : Addr} {o : HO} (h : StAt H sa) (d : Drw sa H H1) (n : H l = none) : Drw sa H (upd H1 l o) := ⟨fun b u hb q => by
  rw [upd_ne (ne_of_none q n)]
  exact d.b b u hb q, by
  obtain ⟨x, b, h1, h2⟩ := d.s
  exact ⟨x, b, by rw [upd_ne (Drw.ne h n)]; exact h1, h2⟩⟩
theorem Drw.mutB {sa : Addr} {H H1 H2 : Hp} {l : Addr} (h : StAt H sa) (d : Drw sa H H1) (n : H l = none) (e : ExB l H1 H2) : Drw sa H H2 := ⟨fun b u hb q => e b u (ne_of_none q n) (d.b b u hb q), d.s.exB e (Drw.ne h n)⟩
theorem Drw.dp {K : PySem.W.Frag} {sa : Addr} {H H1 : Hp} {d : PyData} {v : V} (h : StAt H sa) (e : Drw sa H H1) (n : noL d = true) (q : Dp K H v d) : Dp K H1 v d := dp_exT (h.exT e.b) d v n q
theorem Drw.dps {K : PySem.W.Frag} {sa : Addr} {H H1 : Hp} {d : List PyData} {v : List V} (h : StAt H sa) (e : Drw sa H H1) (n : noLs d = true) (q : DpAll K H v d) : DpAll K H1 v d := dpAll_exT (h.exT e.b) d v n q
/-- a promise that draws: data -/
def RetS (K : PySem.W.Frag) (sa : Addr) (d : PyData) (H : Hp) (Q : VK) : Prop := ∀ v H', Drw sa H H' → Dp K H' v d → Q v H'
/-- a row of drawn ties -/
structure RowT (row lo hi : Nat) (us : List Tie) : Prop where
  ok : ∀ t ∈ us, t.1 = row ∧ lo ≤ t.2 ∧ t.2 < hi
  up : us.Pairwise ltT
  len : us.length ≤ hi - lo
theorem RowT.snoc {row lo b : Nat} {us : List Tie} (h : RowT row lo b us) (hl : lo ≤ b) : RowT row lo (b + 1) (us ++ [(row, b)]) := by
  refine ⟨fun t ht => ?_, ?_, ?_⟩
  · rcases List.mem_append.mp ht with ht | ht
    · have := h.ok t ht
      exact ⟨this.1, this.2.1, by omega⟩
    · rw [List.mem_singleton.mp ht]
      exact ⟨rfl, hl, by dsimp only; omega⟩
  · rw [List.pairwise_append]
    refine ⟨h.up, List.pairwise_singleton .., fun x hx y hy => ?_⟩
    have := h.ok x hx
    rw [List.mem_singleton.mp hy]
    exact .inr ⟨this.1, this.2.2⟩
  · rw [List.length_append, List.length_singleton]
    have := h.len
    omega
theorem RowT.skip {row lo b : Nat} {us : List Tie} (h : RowT row lo b us) : RowT row lo (b + 1) us := ⟨fun t ht => by
  have := h.ok t ht
  exact ⟨this.1, this.2.1, by omega⟩, h.up, by have := h.len; omega⟩
/-- [(row, b) for b in range(lo, hi) if a drawing] -/
theorem lc_draw {K : PySem.W.Frag} {σ : St} {H : Hp} {te : TE} {tt : TT} {tA : TA} {j : Nat} {vs : List Nat} {lo hi row : Nat} {sa : Addr} {Q : VK} (hS : StAt H sa) (h : EvA tA σ H [.int (lo : Int), .int (hi : Int)]) (hlo : lo ≤ 1000) (hz : hi ≤ 1000) (hlh : lo ≤ hi) (hw : ∀ x, wipe ((wipe σ vs).set j (some x)) vs = wipe σ vs)
    (ht : ∀ (b : Nat) H1, Drw sa H H1 → lo ≤ b → b < hi → ∀ Q : Bool → Hp → Prop, (∀ c H2, Drw sa H1 H2 → Q c H2) → tt ((wipe σ vs).set j (some (.int (b : Int)))) H1 Q) (he : ∀ (b : Nat) H1, EvD K te ((wipe σ vs).set j (some (.int (b : Int)))) H1 (tieD (row, b)))
    (k : ∀ p xs H2 us, H p = none → Drw sa H H2 → H2 p = some (.lst xs) → DpAll K H2 xs ((us : List Tie).map tieD) → RowT row lo hi us → Q (.ref p) H2) : tLc (iRng2 tA) (gName j) tt te vs σ H Q :=
  h H (Ex.refl H) _ fun H1 e1 => ⟨lo, hi, rfl, ⟨by omega, by omega, by omega, by omega⟩, fun Dl hD => by
  have en : ((hi : Int) - (lo : Int)).toNat = hi - lo := by omega
  rw [en]
  have hH := fresh_back e1 hD
  have hne := Drw.ne hS hH
  refine lc_range (lo := (lo : Int)) (n := hi - lo) (fun i H' => Drw sa H H' ∧ ∃ ys us, H' Dl = some (.lst ys) ∧ DpAll K H' ys ((us : List Tie).map tieD) ∧ RowT row lo (lo + i) us) ?_ (fun i H' hi' p => ?_) (fun H' p => ?_)
  · exact ⟨(Drw.of hS e1).mut hS hH, [], [], upd_same, .nil, fun t ht => absurd ht (by simp), List.Pairwise.nil, Nat.zero_le _⟩
  · obtain ⟨p1, ys, us, p2, p3, p4⟩ := p
    have ei : ((lo : Int) + (i : Int)) = ((lo + i : Nat) : Int) := by omega
    rw [ei]
    refine ⟨hw _, ht (lo + i) H' p1 (by omega) (by omega) _ fun c H3 d3 => ?_⟩
    have p2' := d3.b Dl _ (fun z => hne z.symm) p2
    have p3' := d3.dps p1.s (noL_ties us) p3
    have d13 := p1.trans d3
    cases c with
    | true =>
      rw [if_pos rfl]
      refine he (lo + i) H3 H3 (Ex.refl _) _ fun v H4 e4 hv => ?_
      have h4 := e4 Dl _ p2'
      have hl := p4.len
      refine ⟨ys, h4, by rw [dpAll_len p3', List.length_map]; exact sz_lt (by omega), (d13.ex e4).mut hS hH, ys ++ [v], us ++ [(row, lo + i)], upd_same, ?_, p4.snoc (by omega)⟩
      rw [List.map_append]
      have xt : ExT H4 (upd H4 Dl (.lst (ys ++ [v]))) := ExT.lst h4
      exact dpAll_app (dpAll_exT xt _ _ (noL_ties us) (dpAll_ex e4 _ _ p3')) (.cons (dp_exT xt _ _ (noL_tie _) hv) .nil)
    | false =>
      rw [if_neg Bool.false_ne_true]
      exact ⟨d13, ys, us, p2', p3', p4.skip⟩
  · obtain ⟨p1, ys, us, p2, p3, p4⟩ := p
    rw [show lo + (hi - lo) = hi by omega] at p4
    exact k Dl ys H' us hH p1 p2 p3 p4⟩
/-- drawn ties, row by row: all before row i -/
structure RowsT (i n : Nat) (us : List Tie) : Prop where
  ok : ∀ t ∈ us, t.1 < i ∧ t.1 < t.2 ∧ t.2 < n
  up : us.Pairwise ltT
theorem RowsT.next {i n : Nat} {us ws : List Tie} (h : RowsT i n us) (k : RowT i (i + 1) n ws) : RowsT (i + 1) n (us ++ ws) := by
  refine ⟨fun t ht => ?_, ?_⟩
  · rcases List.mem_append.mp ht with ht | ht
    · have := h.ok t ht
      exact ⟨by omega, this.2⟩
    · have := k.ok t ht
      omega
  · rw [List.pairwise_append]
    refine ⟨h.up, k.up, fun x hx y hy => ?_⟩
    have := h.ok x hx
    have := k.ok y hy
    exact .inl (by omega)
theorem RowsT.wv {i n : Nat} {us : List Tie} (h : RowsT i n us) (hn : n ≤ 14) : Wv n us := ⟨hn, fun t ht => (h.ok t ht).2, h.up⟩
def spDrawn (K : PySem.W.Frag) : Sp := fun vs H Q _ => ∃ sa m o, vs = [.ref sa, .int ((m : Nat) : Int), .int o] ∧ StAt H sa ∧ m ≤ 14 ∧ ∀ us, Wv m us → RetS K sa (webD m us) H Q
theorem take_of {σ : St} {H : Hp} {tA : TA} {sa : Addr} {m : Nat} {Q : VK} {E : XK} (hS : StAt H sa) (h : EvA tA σ H [.ref sa, .int (m : Int)]) (h0 : 0 < m) (hm : m ≤ 1000) (k : ∀ (r : Nat) H', r < m → Drw sa H H' → Q (.int (r : Int)) H') : tCall spTake [] E tA σ H Q :=
  h H (Ex.refl H) _ fun H1 e1 => ⟨sa, m, rfl, hS.ex e1, h0, hm, fun r H2 hr e2 h2 => k r H2 hr ⟨(ExB.of e1).trans e2, h2⟩⟩
section
variable {P : Program} {w : World} {K : PySem.W.Frag} {mg : Str → Option Value} {base : Heap}
abbrev nDrawn : List Str := ["_law_state_here", "_law_many", "_law_often", "_law_ties", "_law_a", "_law_b"]
theorem sc_drawn : FnScope nDrawn ["_law_state_here", "_law_many", "_law_often"] (C8.fnScope (topS 35)) := C8.fnScope_by (by decide +kernel)
theorem cal_drawn (D : DefOk K mg "_law_drawn" (topS 35) ["_law_state_here", "_law_many", "_law_often"]) (Z : Blt mg) (cT : C8.Cal P w K mg base 1 "_law_take" spTake []) : C8.Cal P w K mg base 2 "_law_drawn" (spDrawn K) [] := by
  refine cal_of D sc_drawn (fun vs H Q E h => ?_) (fun f cdv A outer s H vs Q E hr h => ?_)
  · obtain ⟨sa, m, o, rfl, _⟩ := h
    rfl
  obtain ⟨sa, m, o, rfl, hS, hm, k⟩ := h
  refine ⟨_, pss_cons (ps_set (i := 3) sc_drawn.nd rfl (Or.inl rfl) (pe_lst pa_nil))
    (pss_cons (ps_for PassesOwn.never rfl (pi_range1 rfl Z.ran (pa_cons (pv 1) pa_nil)) (pg_name (i := 4) sc_drawn.nd rfl (Or.inr rfl))
      (pss_one (ps_expr (pe_bm PySem.F.plainAttrs_list PySem.F.slot_list_extend PySem.F.type_list_extend mt_extend (pv 3) (pa_cons
        (pe_lc (own := [("_law_b", 5)]) (g := gName 5) (tt := tTest (tOp (rI0 fun i j => .bl (decide (i < j))) (tCall spTake [] C8.E0 (tCons (tVar 0) (tCons (tC (.int 4)) tNil))) (tVar 2))) (te := tTup (tCons (tVar 4) (tCons (tVar 5) tNil))) rfl sc_drawn.nd
          (pi_range2 (by rfl) Z.ran (pa_cons (pe_op op_add (pv 4) pe_int) (pa_cons (pv 1) pa_nil))) (blkOk_by (N := nDrawn) (sc := C8.fnScope (topS 35)) (by decide +kernel)) (fun _ _ _ _ _ => pg_name (i := 5) sc_drawn.nd rfl (Or.inl rfl))
          (fun _ _ _ _ _ => pts_one (pt_cmpR op_lt (C8.pe_c cT hr (by decide) (by rfl) (pa_cons (pv 0) (pa_cons pe_int pa_nil))) (pv 2) (nomark _)))
          (fun _ _ _ _ _ => pe_tup (pa_cons (pv 4) (pa_cons (pv 5) pa_nil)))) pa_nil)))))
    (pss_one (ps_ret (pe_tup (pa_cons (pv 1) (pa_cons (pe_callTy call_tuple_of (by rfl) Z.tup bt_tup (pa_cons (pv 3) pa_nil)) pa_nil)))))), ?_⟩
  refine q_asgL (el_lst ea_nil (by decide)) fun l H1 hl e1 h1 => ?_
  have hne := Drw.ne hS hl
  refine q_forR1 (n := (m : Int)) (ea_cons (ev_var rfl) ea_nil) (by omega)
    (fun i σ' H' => (∃ s4, σ' = [some (.ref sa), some (.int (m : Int)), some (.int o), some (.ref l), s4, none]) ∧ Drw sa H H' ∧ ∃ xs us, H' l = some (.lst xs) ∧ DpAll K H' xs ((us : List Tie).map tieD) ∧ RowsT i m us) (fun H2 e2 => ?_) (fun i σ' H' hi p => ?_) (fun σ' H' p => ?_)
  · exact ⟨⟨none, rfl⟩, Drw.of hS (e1.trans e2), [], [], e2 l _ h1, .nil, fun t ht => absurd ht (by simp), List.Pairwise.nil⟩
  · obtain ⟨⟨s4, rfl⟩, p1, xs, us, p2, p3, p4⟩ := p
    have hi' : i < m := by omega
    refine ⟨.ref l, rfl, Or.inl ⟨rfl, xs, sq_of p2⟩, ?_⟩
    refine lc_draw (K := K) (row := i) (lo := i + 1) (hi := m) (j := 5) (vs := [5]) p1.s (ea_cons (ev_is (ev_op (ev_var rfl) ev_c rv_I0) rfl) (ea_cons (ev_var rfl) ea_nil)) (by omega) (by omega) (by omega) (fun _ => rfl) (fun b H3 d3 _ _ Q q => ?_) (fun b H3 => evd_pair (ev_var rfl) (ev_var rfl)) fun p ys H3 ws hp d3 h3 a3 r3 => ?_
    · exact take_of d3.s (m := 4) (ea_cons (ev_var rfl) (ea_cons ev_c ea_nil)) (by decide) (by decide) fun r H4 _ d4 => ⟨_, rfl, _, _, rfl, rfl, _, rfl, q _ H4 d4⟩
    · have p2' := d3.b l _ (fun z => hne z.symm) p2
      have p3' := d3.dps p1.s (noL_ties us) p3
      have hlen := up_len91 (p4.wv hm)
      have hrl := r3.len
      refine ⟨l, p, xs, ys, rfl, rfl, p2', h3, by rw [dpAll_len p3', dpAll_len a3, List.length_map, List.length_map]; exact sz_of (by omega), ⟨_, rfl⟩, (p1.trans d3).mut hS hl, xs ++ ys, us ++ ws, upd_same, ?_, p4.next r3⟩
      rw [List.map_append]
      have xt : ExT H3 (upd H3 l (.lst (xs ++ ys))) := ExT.lst p2'
      exact dpAll_app (dpAll_exT xt _ _ (noL_ties us) p3') (dpAll_exT xt _ _ (noL_ties ws) a3)
  · obtain ⟨⟨s4, rfl⟩, p1, xs, us, p2, p3, p4⟩ := p
    have en : ((m : Int)).toNat = m := by omega
    rw [en] at p4
    refine s_retD (d := webD m us) (evd_tup (eda_cons (evd_int (ev_var rfl)) (eda_cons (evd_tupOf (evDl_var rfl p2 p3)) eda_nil)) (by show 2 ≤ 100000; decide)) fun u H3 e3 hu => ?_
    exact k us (p4.wv hm) u H3 (p1.ex e3) hu
end
end Wb
/-! two loops over pairs; the law's made and midst -/
namespace Wb
open PySem PySem.Spec PyProof.Rows L2 Evl Wm RZ
/-- the list l0 holds these -/
def HasT (K : PySem.W.Frag) (H : Hp) (l : Addr) (us : List Tie) : Prop := ∃ ys, H l = some (.lst ys) ∧ DpAll K H ys (us.map tieD)
theorem HasT.ex {K : PySem.W.Frag} {H H' : Hp} {l : Addr} {us : List Tie} (e : Ex H H') (h : HasT K H l us) : HasT K H' l us := by
  obtain ⟨ys, h1, h2⟩ := h
  exact ⟨ys, e l _ h1, dpAll_ex e _ _ h2⟩
/-- for a in range(N): for b in range(a + 1, N): body, the body adds (a, b) where f takes it -/
theorem s_grid {K : PySem.W.Frag} {σ : St} {H0 H : Hp} {tA tA2 : TA} {tu : TS} {ja jb N : Nat} {l : Addr} {D : Ends} (f : Nat → Nat → Bool) (Sh : St → Prop) (hN : N ≤ 100)
    (h : EvA tA σ H [.int (N : Int)]) (sh : Sh σ) (e0 : Ex H0 H) (hl : HasT K H l [])
    (hsa : ∀ σ' x, Sh σ' → Sh (σ'.set ja (some x)) ∧ ja < σ'.length) (hsb : ∀ σ' x, Sh σ' → Sh (σ'.set jb (some x)) ∧ jb < σ'.length) (hab : ja ≠ jb)
    (hB : ∀ (a : Nat) σ' H', Sh σ' → σ'[ja]? = some (some (.int (a : Int))) → Ex H0 H' → EvA tA2 σ' H' [.int ((a + 1 : Nat) : Int), .int (N : Int)])
    (hbody : ∀ (a b : Nat) σ' H' us D', a < b → b < N → Sh σ' → σ'[ja]? = some (some (.int (a : Int))) → σ'[jb]? = some (some (.int (b : Int))) → Ex H0 H' → HasT K H' l us → us.length ≤ 20000 →
      (∀ σ2 H2, Sh σ2 → σ2[ja]? = some (some (.int (a : Int))) → Ex H0 H2 → HasT K H2 l (if f a b = true then us ++ [(a, b)] else us) → D'.nx σ2 H2) → tu D' σ' H')
    (hd : ∀ σ' H', Sh σ' → Ex H0 H' → HasT K H' l (grid N f) → D.nx σ' H') : tFor (iRng1 tA) (gName ja) (tFor (iRng2 tA2) (gName jb) tu) D σ H := by
  refine s_forR1 h (by omega) (fun i σ' H' => Sh σ' ∧ Ex H0 H' ∧ HasT K H' l ((List.range i).flatMap (rowOf N f))) (fun H1 e1 => ⟨sh, e0.trans e1, hl.ex e1⟩) (fun i σ' H' hi p => ?_) (fun σ' H' p => ?_)
  · obtain ⟨p1, p2, p3⟩ := p
    have hi' : i < N := by omega
    obtain ⟨s1, s2⟩ := hsa σ' (.int (i : Int)) p1
    have s3 : (σ'.set ja (some (.int (i : Int))))[ja]? = some (some (.int (i : Int))) := by rw [List.getElem?_set_self s2]
    have hlen := rows_len' N f i
    have hsz : i * N ≤ 100 * 100 := Nat.mul_le_mul (by omega) hN
    refine s_forR2 (hB i _ H' s1 s3 p2) (by omega) (fun j σ2 H2 => Sh σ2 ∧ σ2[ja]? = some (some (.int (i : Int))) ∧ Ex H0 H2 ∧ HasT K H2 l ((List.range i).flatMap (rowOf N f) ++ ((List.range' (i + 1) j).filter (f i)).map fun b => (i, b))) (fun H1 e1 => ⟨s1, s3, p2.trans e1, ?_⟩) (fun j σ2 H2 hj q => ?_) (fun σ2 H2 q => ?_)
    · rw [List.range'_zero, List.filter_nil, List.map_nil, List.append_nil]
      exact p3.ex e1
    · obtain ⟨q1, q2, q3, q4⟩ := q
      have ej : (((i + 1 : Nat) : Int) + (j : Int)) = ((i + 1 + j : Nat) : Int) := by omega
      rw [ej]
      obtain ⟨t1, t2⟩ := hsb σ2 (.int ((i + 1 + j : Nat) : Int)) q1
      refine hbody i (i + 1 + j) _ H2 _ _ (by omega) (by omega) t1 (by rw [List.getElem?_set_ne hab.symm]; exact q2) (by rw [List.getElem?_set_self t2]) q3 q4 ?_ (fun σ3 H3 r1 r2 r3 r4 => ⟨r1, r2, r3, ?_⟩)
      · rw [List.length_append, List.length_map]
        have h2 := List.length_filter_le (f i) (List.range' (i + 1) j)
        rw [List.length_range'] at h2
        omega
      · have er : List.range' (i + 1) (j + 1) = List.range' (i + 1) j ++ [i + 1 + j] := List.range'_1_concat
        rw [er, List.filter_append, List.map_append, List.filter_cons, List.filter_nil]
        cases hf : f i (i + 1 + j) with
        | true =>
          rw [hf] at r4
          simpa using r4
        | false =>
          rw [hf] at r4
          simpa using r4
    · obtain ⟨q1, q2, q3, q4⟩ := q
      refine ⟨q1, q3, ?_⟩
      have en : ((N : Int) - ((i + 1 : Nat) : Int)).toNat = N - (i + 1) := by omega
      rw [en] at q4
      rw [grid_take N f i hi']
      exact q4
  · obtain ⟨p1, p2, p3⟩ := p
    have en : ((N : Int)).toNat = N := by omega
    rw [en] at p3
    exact hd σ' H' p1 p2 p3
theorem q_grid {K : PySem.W.Frag} {σ : St} {H0 H : Hp} {tA tA2 : TA} {tu tz : TS} {ja jb N : Nat} {l : Addr} {D : Ends} (f : Nat → Nat → Bool) (Sh : St → Prop) (hN : N ≤ 100)
    (h : EvA tA σ H [.int (N : Int)]) (sh : Sh σ) (e0 : Ex H0 H) (hl : HasT K H l [])
    (hsa : ∀ σ' x, Sh σ' → Sh (σ'.set ja (some x)) ∧ ja < σ'.length) (hsb : ∀ σ' x, Sh σ' → Sh (σ'.set jb (some x)) ∧ jb < σ'.length) (hab : ja ≠ jb)
    (hB : ∀ (a : Nat) σ' H', Sh σ' → σ'[ja]? = some (some (.int (a : Int))) → Ex H0 H' → EvA tA2 σ' H' [.int ((a + 1 : Nat) : Int), .int (N : Int)])
    (hbody : ∀ (a b : Nat) σ' H' us D', a < b → b < N → Sh σ' → σ'[ja]? = some (some (.int (a : Int))) → σ'[jb]? = some (some (.int (b : Int))) → Ex H0 H' → HasT K H' l us → us.length ≤ 20000 →
      (∀ σ2 H2, Sh σ2 → σ2[ja]? = some (some (.int (a : Int))) → Ex H0 H2 → HasT K H2 l (if f a b = true then us ++ [(a, b)] else us) → D'.nx σ2 H2) → tu D' σ' H')
    (hd : ∀ σ' H', Sh σ' → Ex H0 H' → HasT K H' l (grid N f) → tz D σ' H') : tSeq (tFor (iRng1 tA) (gName ja) (tFor (iRng2 tA2) (gName jb) tu)) tz D σ H :=
  s_grid (D := { D with nx := tz D }) f Sh hN h sh e0 hl hsa hsb hab hB hbody hd
/-- l.append((a, b)) -/
theorem s_appT {K : PySem.W.Frag} {σ : St} {H0 H : Hp} {ta te : TE} {l : Addr} {us : List Tie} {t : Tie} {D : Ends} (h0 : H0 l = none) (e0 : Ex H0 H) (hl : HasT K H l us) (hz : us.length ≤ 20000) (ha : Ev ta σ H (.ref l)) (h : EvD K te σ H (tieD t))
    (k : ∀ H1, Ex H0 H1 → HasT K H1 l (us ++ [t]) → D.nx σ H1) : tDrop (tBM K "list" rAppend ta (tCons te tNil)) D σ H := by
  obtain ⟨ys, h1, h2⟩ := hl
  refine s_appD h1 h2 (noL_ties _) ha h (noL_tie t) (by rw [List.length_map]; omega) fun zs H1 e1 g1 g2 => k H1 (exBut e0 h0 e1) ⟨zs, g1, ?_⟩
  rw [List.map_append]
  exact g2
theorem un65 {k : Nat} {A : Around} (r : Room k A) : A.units + 65 < cLine := by have := r.un; omega
theorem lay_ties : ∀ ts : List Tie, PyData.canLayAll0 (ts.map tieD) = true
  | [] => by rw [List.map_nil, PyData.canLayAll0]
  | t :: ts => by
    rw [List.map_cons, PyData.canLayAll0, lay_ties ts, Bool.and_true]
    simp only [tieD, PyData.canLay0, PyData.canLayAll0, Bool.and_true]
theorem depth_ties : ∀ ts : List Tie, PyData.depthAll (ts.map tieD) ≤ 1
  | [] => by rw [List.map_nil, PyData.depthAll]; decide
  | t :: ts => by
    have h := depth_ties ts
    rw [List.map_cons, PyData.depthAll]
    have h2 : PyData.depth (tieD t) = 1 := by simp [tieD, PyData.depth, PyData.depthAll]
    omega
theorem shaped_tie (t : Tie) : SeqAt.shaped (tieD t) = true := by
  unfold SeqAt.shaped
  rw [Bool.and_eq_true]
  refine ⟨by simp only [tieD, PyData.canLay0, PyData.canLayAll0, Bool.and_true], decide_eq_true ?_⟩
  have h2 : PyData.depth (tieD t) = 1 := by simp [tieD, PyData.depth, PyData.depthAll]
  omega
theorem shaped_ties (ts : List Tie) : SeqAt.shaped (.tuple (ts.map tieD)) = true := by
  unfold SeqAt.shaped
  rw [Bool.and_eq_true]
  refine ⟨by rw [PyData.canLay0]; exact lay_ties ts, decide_eq_true ?_⟩
  rw [PyData.depth]
  have := depth_ties ts
  omega
theorem eqv_tie (t u : Tie) : PyData.eqv (tieD t) (tieD u) = decide (t = u) := by
  simp only [tieD, PyData.eqv, PyData.eqvAll, Bool.and_true]
  obtain ⟨a, b⟩ := t
  obtain ⟨c, d⟩ := u
  by_cases h : (a, b) = (c, d)
  · injection h with h1 h2
    subst h1 h2
    simp
  · rw [decide_eq_false h]
    have h' : ¬ (a = c ∧ b = d) := fun z => h (by rw [z.1, z.2])
    simp
    intro z
    omega
theorem any_tie (ts : List Tie) (u : Tie) : ((ts.map tieD).any fun z => PyData.eqv z (tieD u)) = decide (u ∈ ts) := by
  induction ts with
  | nil => simp
  | cons t ts ih =>
    rw [List.map_cons, List.any_cons, ih, eqv_tie]
    by_cases h : t = u
    · subst h
      simp
    · rw [decide_eq_false h, Bool.false_or]
      have : u ≠ t := fun z => h z.symm
      simp [this]
/-- t in ties -/
theorem ev_inTies {K : PySem.W.Frag} {σ : St} {H : Hp} {ta tb : TE} {t : Tie} {ts : List Tie} (ha : EvD K ta σ H (tieD t)) (hb : EvD K tb σ H (tiesD ts)) : Ev (tOp (rInDT K) ta tb) σ H (.bl (decide (t ∈ ts))) := fun H1 e1 Q q => ha H1 e1 _ fun v H2 e2 hv => hb H2 (e1.trans e2) _ fun u H3 e3 hu =>
  ⟨_, _, dp_ex e3 _ _ hv, hu, shaped_tie t, shaped_ties ts, by
    rw [any_tie]
    exact q H3 (e2.trans e3)⟩
section
variable {P : Program} {w : World} {K : PySem.W.Frag} {mg : Str → Option Value} {base : Heap}
/-! ### the law's made -/
abbrev nLMade : List Str := ["_law_web_here", "_law_ties", "_law_found", "_law_a", "_law_b"]
theorem sc_lmade : FnScope nLMade ["_law_web_here"] (C8.fnScope (topS 36)) := C8.fnScope_by (by decide +kernel)
theorem cal_lmade (D : DefOk K mg "_law_made" (topS 36) ["_law_web_here"]) (Z : Blt mg) : C8.Cal P w K mg base 1 "_law_made" (spMade K) [] := by
  refine cal_of D sc_lmade (fun vs H Q E h => ?_) (fun f cdv A outer s H vs Q E hr h => ?_)
  · obtain ⟨v, n, ts, rfl, _⟩ := h
    rfl
  obtain ⟨v, n, ts, rfl, hd, hl, k⟩ := h
  refine ⟨_, pss_cons (ps_set (i := 1) sc_lmade.nd rfl (Or.inl rfl) (pe_ix ix_tup (pv 0) pe_int (fun _ _ => rfl)))
    (pss_cons (ps_set (i := 2) sc_lmade.nd rfl (Or.inl rfl) (pe_lst pa_nil))
    (pss_cons (ps_for PassesOwn.never rfl (pi_range1 rfl Z.ran (pa_cons (pe_len Z (pv 1)) pa_nil)) (pg_name (i := 3) sc_lmade.nd rfl (Or.inl rfl))
      (pss_one (ps_for PassesOwn.never rfl (pi_range2 (by rfl) Z.ran (pa_cons (pe_op op_add (pv 3) pe_int) (pa_cons (pe_len Z (pv 1)) pa_nil))) (pg_name (i := 4) sc_lmade.nd rfl (Or.inl rfl))
        (pss_one (ps_if (PW.pt (pw_or (pt_cmpR op_in_seq (pe_ix ix_tup (pe_ix ix_tup (pv 1) (pv 3) (fun _ _ => rfl)) pe_int (fun _ _ => rfl)) (pe_ix ix_tup (pv 1) (pv 4) (fun _ _ => rfl)) (by rfl))
            (pw_or1 (pt_cmpR op_in_seq (pe_ix ix_tup (pe_ix ix_tup (pv 1) (pv 3) (fun _ _ => rfl)) pe_int (fun _ _ => rfl)) (pe_ix ix_tup (pv 1) (pv 4) (fun _ _ => rfl)) (by rfl)))))
          (pss_one (ps_expr (pe_bm PySem.F.plainAttrs_list PySem.F.slot_list_append PySem.F.type_list_append mt_append (pv 2) (pa_cons (pe_tup (pa_cons (pv 3) (pa_cons (pv 4) pa_nil))) pa_nil)))) pss_nil)))))
    (pss_one (ps_ret (pe_tup (pa_cons (pe_len Z (pv 1)) (pa_cons (pe_callTy call_tuple_of (by rfl) Z.tup bt_tup (pa_cons (pv 2) pa_nil)) pa_nil))))))), ?_⟩
  refine q_asgD (evd_ix1 (evd_var rfl hd)) fun tv H1 e1 ht => ?_
  refine q_asgL (el_lst ea_nil (by decide)) fun l H2 hl2 e2 h2 => ?_
  have ht2 := dp_ex e2 _ _ ht
  refine q_grid (K := K) (N := ts.length) (l := l) (H0 := H1) (meetF ts) (fun σ' => ∃ s3 s4, σ' = [some v, some tv, some (.ref l), s3, s4]) hl (ea_cons (ev_lenTs (evd_var (i := 1) rfl ht2)) ea_nil) ⟨none, none, rfl⟩ e2 ⟨[], h2, .nil⟩
    (fun σ' x hs => ?_) (fun σ' x hs => ?_) (by decide) (fun a σ' H' hs ha e => ?_) (fun a b σ' H' us D' hab hb hs ha hbb e hT hz k => ?_) (fun σ' H' hs e hT => ?_)
  · obtain ⟨s3, s4, rfl⟩ := hs
    exact ⟨⟨_, _, rfl⟩, by show 3 < 5; decide⟩
  · obtain ⟨s3, s4, rfl⟩ := hs
    exact ⟨⟨_, _, rfl⟩, by show 4 < 5; decide⟩
  · obtain ⟨s3, s4, rfl⟩ := hs
    exact ea_cons (ev_is (ev_op (ev_var ha) ev_c rv_I0) (congrArg V.int (by omega))) (ea_cons (ev_lenTs (evd_var (i := 1) rfl (dp_ex e _ _ ht))) ea_nil)
  · obtain ⟨s3, s4, rfl⟩ := hs
    have iT := evd_var (K := K) (σ := [some v, some tv, some (.ref l), s3, s4]) (i := 1) rfl (dp_ex e _ _ ht)
    have iA := evd_tieAt (tb := tVar 3) iT (show a < ts.length by omega) (ev_var ha)
    have iB := evd_tieAt (tb := tVar 4) iT hb (ev_var hbb)
    refine s_when (b := meetF ts a b) (et_or (et_test (ev_inTie (ev_tie0 iA) iB)) fun _ => et_test (ev_inTie (ev_tie1 iA) iB)) (fun hf H3 e3 => ?_) (fun hf H3 e3 => ?_)
    · refine s_appT (t := (a, b)) hl2 (e.trans e3) (hT.ex e3) hz (ev_var rfl) (evd_pair (ev_var ha) (ev_var hbb)) fun H4 e4 hT4 => k _ H4 ⟨_, _, rfl⟩ ha e4 (by rw [if_pos hf]; exact hT4)
    · exact k _ H3 ⟨_, _, rfl⟩ ha (e.trans e3) (by rw [if_neg (by rw [hf]; decide)]; exact hT.ex e3)
  · obtain ⟨s3, s4, rfl⟩ := hs
    obtain ⟨ys, g1, g2⟩ := hT
    refine s_retD (d := webD ts.length (madeT ts)) (evd_tup (eda_cons (evd_int (ev_lenTs (evd_var (i := 1) rfl (dp_ex e _ _ ht)))) (eda_cons (evd_tupOf (evDl_var rfl g1 g2)) eda_nil)) (by show 2 ≤ 100000; decide)) fun u H3 e3 hu => ?_
    exact k u H3 ((e1.trans e).trans e3) hu
/-! ### the law's midst -/
def spLMidst (K : PySem.W.Frag) : Sp := fun vs H Q _ => ∃ v whole n ts, vs = [v, .bl whole] ∧ Dp K H v (webD n ts) ∧ Wv n ts ∧ n + ts.length ≤ 14 ∧ RetD K (webD (n + ts.length) (dueT n ts whole)) H Q
abbrev nLMidst : List Str := ["_law_web_here", "_law_whole", "_law_many", "_law_found", "_law_a", "_law_b", "_law_goes", "_law_one", "_law_other"]
theorem sc_lmidst : FnScope nLMidst ["_law_web_here", "_law_whole"] (C8.fnScope (topS 45)) := C8.fnScope_by (by decide +kernel)
theorem cal_lmidst (D : DefOk K mg "_law_midst" (topS 45) ["_law_web_here", "_law_whole"]) (Z : Blt mg) : C8.Cal P w K mg base 1 "_law_midst" (spLMidst K) [] := by
  refine cal_of D sc_lmidst (fun vs H Q E h => ?_) (fun f cdv A outer s H vs Q E hr h => ?_)
  · obtain ⟨v, wh, n, ts, rfl, _⟩ := h
    rfl
  obtain ⟨v, wh, n, ts, rfl, hd, W, hle, k⟩ := h
  refine ⟨_, pss_cons (ps_set (i := 2) sc_lmidst.nd rfl (Or.inl rfl) (pe_op op_add (pe_ix ix_tup (pv 0) pe_int (fun _ _ => rfl)) (pe_len Z (pe_ix ix_tup (pv 0) pe_int (fun _ _ => rfl)))))
    (pss_cons (ps_set (i := 3) sc_lmidst.nd rfl (Or.inl rfl) (pe_lst pa_nil))
    (pss_cons (ps_for PassesOwn.never rfl (pi_range1 rfl Z.ran (pa_cons (pv 2) pa_nil)) (pg_name (i := 4) sc_lmidst.nd rfl (Or.inl rfl))
      (pss_one (ps_for PassesOwn.never rfl (pi_range2 (by rfl) Z.ran (pa_cons (pe_op op_add (pv 4) pe_int) (pa_cons (pv 2) pa_nil))) (pg_name (i := 5) sc_lmidst.nd rfl (Or.inl rfl))
        (pss_cons (ps_set (i := 6) sc_lmidst.nd rfl (Or.inl rfl) pe_bl)
        (pss_cut (ps_if (pt_cmpR op_lt (pv 5) (pe_ix ix_tup (pv 0) pe_int (fun _ _ => rfl)) (nomark _))
            (pss_one (ps_set (i := 6) sc_lmidst.nd rfl (Or.inl rfl) (pe_and (pv 1) (pe_one (pe_cmpR (op_inDT (un65 hr)) (pe_tup (pa_cons (pv 4) (pa_cons (pv 5) pa_nil))) (pe_ix ix_tup (pv 0) pe_int (fun _ _ => rfl)) (by rfl))))))
            (pss_one (ps_if (pt_cmpR op_lt (pv 4) (pe_ix ix_tup (pv 0) pe_int (fun _ _ => rfl)) (nomark _))
              (pss_one (ps_set (i := 6) sc_lmidst.nd rfl (Or.inl rfl) (pe_cmpR op_in_seq (pv 4) (pe_ix ix_tup (pe_ix ix_tup (pv 0) pe_int (fun _ _ => rfl)) (pe_op op_sub (pv 5) (pe_ix ix_tup (pv 0) pe_int (fun _ _ => rfl))) (fun _ _ => rfl)) (by rfl))))
              (pss_cons (ps_set (i := 7) sc_lmidst.nd rfl (Or.inl rfl) (pe_ix ix_tup (pe_ix ix_tup (pv 0) pe_int (fun _ _ => rfl)) (pe_op op_sub (pv 4) (pe_ix ix_tup (pv 0) pe_int (fun _ _ => rfl))) (fun _ _ => rfl)))
              (pss_cons (ps_set (i := 8) sc_lmidst.nd rfl (Or.inl rfl) (pe_ix ix_tup (pe_ix ix_tup (pv 0) pe_int (fun _ _ => rfl)) (pe_op op_sub (pv 5) (pe_ix ix_tup (pv 0) pe_int (fun _ _ => rfl))) (fun _ _ => rfl)))
              (pss_one (ps_set (i := 6) sc_lmidst.nd rfl (Or.inl rfl) (pe_and (pv 1) (pe_one (pe_or (pe_cmpR op_in_seq (pe_ix ix_tup (pv 7) pe_int (fun _ _ => rfl)) (pv 8) (by rfl)) (pe_one (pe_cmpR op_in_seq (pe_ix ix_tup (pv 7) pe_int (fun _ _ => rfl)) (pv 8) (by rfl)))))))))))))
        (pss_one (ps_if (pt_val (pv 6)) (pss_one (ps_expr (pe_bm PySem.F.plainAttrs_list PySem.F.slot_list_append PySem.F.type_list_append mt_append (pv 3) (pa_cons (pe_tup (pa_cons (pv 4) (pa_cons (pv 5) pa_nil))) pa_nil)))) pss_nil)))))))
    (pss_one (ps_ret (pe_tup (pa_cons (pv 2) (pa_cons (pe_callTy call_tuple_of (by rfl) Z.tup bt_tup (pa_cons (pv 3) pa_nil)) pa_nil))))))), ?_⟩
  have i0 := evd_var (K := K) (σ := L2.start nLMidst [v, .bl wh]) (i := 0) rfl hd
  refine q_asg (v := .int ((n + ts.length : Nat) : Int)) (ev_is (ev_op (ev_ix0 i0) (ev_lenTs (evd_ix1 i0)) rv_I0) (congrArg V.int (by omega))) fun H1 e1 => ?_
  refine q_asgL (el_lst ea_nil (by decide)) fun l H2 hl2 e2 h2 => ?_
  have hd1 := dp_ex e1 _ _ hd
  refine q_grid (K := K) (N := n + ts.length) (l := l) (H0 := H1) (goesF n ts wh) (fun σ' => ∃ s4 s5 s6 s7 s8, σ' = [some v, some (.bl wh), some (.int ((n + ts.length : Nat) : Int)), some (.ref l), s4, s5, s6, s7, s8]) (by omega) (ea_cons (ev_var rfl) ea_nil) ⟨_, _, _, _, _, rfl⟩ e2 ⟨[], h2, .nil⟩
    (fun σ' x hs => ?_) (fun σ' x hs => ?_) (by decide) (fun a σ' H' hs ha e => ?_) (fun a b σ' H' us D' hab hb hs ha hbb e hT hz k => ?_) (fun σ' H' hs e hT => ?_)
  · obtain ⟨s4, s5, s6, s7, s8, rfl⟩ := hs
    exact ⟨⟨_, _, _, _, _, rfl⟩, by show 4 < 9; decide⟩
  · obtain ⟨s4, s5, s6, s7, s8, rfl⟩ := hs
    exact ⟨⟨_, _, _, _, _, rfl⟩, by show 5 < 9; decide⟩
  · obtain ⟨s4, s5, s6, s7, s8, rfl⟩ := hs
    exact ea_cons (ev_is (ev_op (ev_var ha) ev_c rv_I0) (congrArg V.int (by omega))) (ea_cons (ev_var rfl) ea_nil)
  · obtain ⟨s4, s5, s6, s7, s8, rfl⟩ := hs
    cases ha
    cases hbb
    refine q_asg ev_c fun H3 e3 => ?_
    have e03 := e.trans e3
    have hT3 := hT.ex e3
    have hd3 := dp_ex e03 _ _ hd1
    refine q_cut (M := fun σ2 H2 => (∃ s7 s8, σ2 = [some v, some (.bl wh), some (.int ((n + ts.length : Nat) : Int)), some (.ref l), some (.int (a : Int)), some (.int (b : Int)), some (.bl (goesF n ts wh a b)), s7, s8]) ∧ Ex H3 H2) ?_ (fun σ2 H4 hM => ?_)
    · have j0 := evd_var (K := K) (σ := [some v, some (.bl wh), some (.int ((n + ts.length : Nat) : Int)), some (.ref l), some (.int (a : Int)), some (.int (b : Int)), some (.bl false), s7, s8]) (i := 0) rfl hd3
      have jT := evd_ix1 j0
      refine s_if (et_test (ev_op (ev_var rfl) (ev_ix0 j0) rv_I0)) (fun hc H4 e4 => ?_) (fun hc H4 e4 => ?_)
      · have hc := of_decide_eq_true hc
        have hg : goesF n ts wh a b = (wh && decide ((a, b) ∈ ts)) := by
          unfold goesF
          rw [if_pos (by omega)]
        refine s_asg (v := .bl (goesF n ts wh a b)) (by rw [hg]; exact ev_andV (ev_var rfl) fun _ => (ev_inTies (evd_pair (ev_var rfl) (ev_var rfl)) jT).mono e4) fun H5 e5 => ⟨⟨_, _, rfl⟩, e4.trans e5⟩
      · have hc := of_decide_eq_false hc
        have iB := evd_tieAt (k := b - n) (tb := tOp (rI0 fun i j => .int (i - j)) (tVar 5) (tOp (rIxT K) (tVar 0) (tC (.int 0)))) jT (by omega) (ev_is (ev_op (ev_var (i := 5) rfl) (ev_ix0 j0) rv_I0) (congrArg V.int (by omega)))
        refine s_if ((et_test (ev_op (ev_var rfl) (ev_ix0 j0) rv_I0)).mono e4) (fun hc2 H5 e5 => ?_) (fun hc2 H5 e5 => ?_)
        · have hc2 := of_decide_eq_true hc2
          have hg : goesF n ts wh a b = (a == (tieAt ts (b - n)).1 || a == (tieAt ts (b - n)).2) := by
            unfold goesF
            rw [if_neg (by omega), if_pos (by omega)]
          refine s_asg (v := .bl (goesF n ts wh a b)) (by rw [hg]; exact (ev_inTie (ev_var rfl) iB).mono (e4.trans e5)) fun H6 e6 => ⟨⟨_, _, rfl⟩, (e4.trans e5).trans e6⟩
        · have hc2 := of_decide_eq_false hc2
          have hg : goesF n ts wh a b = (wh && meetB (tieAt ts (a - n)) (tieAt ts (b - n))) := by
            unfold goesF
            rw [if_neg (by omega), if_neg (by omega)]
            rfl
          have iA := evd_tieAt (k := a - n) (tb := tOp (rI0 fun i j => .int (i - j)) (tVar 4) (tOp (rIxT K) (tVar 0) (tC (.int 0)))) jT (by omega) (ev_is (ev_op (ev_var (i := 4) rfl) (ev_ix0 j0) rv_I0) (congrArg V.int (by omega)))
          have e45 := e4.trans e5
          refine q_asgD (iA.mono e45) fun u7 H6 e6 hu7 => ?_
          have hd6 := dp_ex (e45.trans e6) _ _ hd3
          have m0 := evd_var (K := K) (σ := [some v, some (.bl wh), some (.int ((n + ts.length : Nat) : Int)), some (.ref l), some (.int (a : Int)), some (.int (b : Int)), some (.bl false), some u7, s8]) (i := 0) rfl hd6
          refine q_asgD (evd_tieAt (k := b - n) (evd_ix1 m0) (by omega) (ev_is (ev_op (ev_var (i := 5) rfl) (ev_ix0 m0) rv_I0) (congrArg V.int (by omega)))) fun u8 H7 e7 hu8 => ?_
          have n7 := evd_var (K := K) (σ := [some v, some (.bl wh), some (.int ((n + ts.length : Nat) : Int)), some (.ref l), some (.int (a : Int)), some (.int (b : Int)), some (.bl false), some u7, some u8]) (i := 7) rfl (dp_ex e7 _ _ hu7)
          have n8 := evd_var (K := K) (σ := [some v, some (.bl wh), some (.int ((n + ts.length : Nat) : Int)), some (.ref l), some (.int (a : Int)), some (.int (b : Int)), some (.bl false), some u7, some u8]) (i := 8) rfl hu8
          refine s_asg (v := .bl (goesF n ts wh a b)) (by rw [hg]; exact ev_andV (ev_var rfl) fun _ => ev_orV (ev_inTie (ev_tie0 n7) n8) fun _ => ev_inTie (ev_tie1 n7) n8) fun H8 e8 => ⟨⟨_, _, rfl⟩, ((e45.trans e6).trans e7).trans e8⟩
    · obtain ⟨⟨s7, s8, rfl⟩, e4⟩ := hM
      refine s_when (b := goesF n ts wh a b) (et_B (ev_var rfl)) (fun hf H5 e5 => ?_) (fun hf H5 e5 => ?_)
      · refine s_appT (t := (a, b)) hl2 ((e03.trans e4).trans e5) (hT3.ex (e4.trans e5)) hz (ev_var rfl) (evd_pair (ev_var rfl) (ev_var rfl)) fun H6 e6 hT6 => k _ H6 ⟨_, _, _, _, _, rfl⟩ rfl e6 (by rw [if_pos hf]; exact hT6)
      · exact k _ H5 ⟨_, _, _, _, _, rfl⟩ rfl ((e03.trans e4).trans e5) (by rw [if_neg (by rw [hf]; decide)]; exact hT3.ex (e4.trans e5))
  · obtain ⟨s4, s5, s6, s7, s8, rfl⟩ := hs
    obtain ⟨ys, g1, g2⟩ := hT
    refine s_retD (d := webD (n + ts.length) (dueT n ts wh)) (evd_tup (eda_cons (evd_int (ev_var rfl)) (eda_cons (evd_tupOf (evDl_var rfl g1 g2)) eda_nil)) (by show 2 ≤ 100000; decide)) fun u H3 e3 hu => ?_
    exact k u H3 ((e1.trans e).trans e3) hu
end
end Wb
/-! mixed numbers, a web renamed -/
namespace Wb
open PySem PySem.Spec PyProof.Rows L2 Evl Wm RZ
def natV (ls : List Nat) : List V := ls.map fun (i : Nat) => V.int (i : Int)
def natD (ls : List Nat) : List PyData := ls.map fun (i : Nat) => PyData.int (i : Int)
theorem dp_nat {K : PySem.W.Frag} {H : Hp} : ∀ ls : List Nat, DpAll K H (natV ls) (natD ls)
  | [] => .nil
  | _ :: ls => .cons (.int _) (dp_nat ls)
theorem noL_nat (ls : List Nat) : noLs (natD ls) = true := noLs_of fun d hd => by
  obtain ⟨t, _, rfl⟩ := List.mem_map.mp hd
  rfl
theorem dp_natV {K : PySem.W.Frag} {H : Hp} : ∀ {ls : List Nat} {vs : List V}, DpAll K H vs (natD ls) → vs = natV ls
  | [], _, h => by
    cases h
    rfl
  | i :: ls, _, h => by
    cases h with
    | cons h1 h2 =>
      cases h1
      rw [dp_natV h2]
      rfl
theorem lay_nat : ∀ ls : List Nat, PyData.canLayAll0 (natD ls) = true ∧ PyData.depthAll (natD ls) = 0
  | [] => ⟨by unfold natD; rw [List.map_nil, PyData.canLayAll0], by unfold natD; rw [List.map_nil, PyData.depthAll]⟩
  | _ :: ls => by
    obtain ⟨h1, h2⟩ := lay_nat ls
    unfold natD at *
    rw [List.map_cons, PyData.canLayAll0, PyData.depthAll, h1, h2]
    exact ⟨rfl, rfl⟩
theorem shaped_nat (ls : List Nat) : SeqAt.shaped (.list (natD ls)) = true := by
  obtain ⟨h1, h2⟩ := lay_nat ls
  unfold SeqAt.shaped
  rw [PyData.canLay0, PyData.depth, h1, h2]
  rfl
theorem eqv_nil (ls : List Nat) : PyData.eqv (.list (natD ls)) (.list []) = decide (ls = []) := by
  rw [PyData.eqv]
  cases ls with
  | nil =>
    unfold natD
    rw [List.map_nil, PyData.eqvAll]
    rfl
  | cons i ls =>
    unfold natD
    rw [List.map_cons, PyData.eqvAll]
    rfl
def rPop2 : V → List V → Hp → VK → Prop := rPopAt
def spMixed (K : PySem.W.Frag) : Sp := fun vs H Q _ => ∃ sa m, vs = [.ref sa, .int ((m : Nat) : Int)] ∧ StAt H sa ∧ m ≤ 14 ∧ ∀ fs : List Nat, fs.Perm (List.range m) → RetS K sa (.tuple (natD fs)) H Q
theorem erase_perm {ls : List Nat} {k : Nat} (hk : k < ls.length) : (ls[k] :: ls.eraseIdx k).Perm ls := by
  rw [List.eraseIdx_eq_take_drop_succ]
  refine List.perm_middle.symm.trans ?_
  rw [List.getElem_cons_drop, List.take_append_drop]
theorem natV_erase (ls : List Nat) (k : Nat) : (natV ls).eraseIdx k = natV (ls.eraseIdx k) := by
  unfold natV
  rw [List.eraseIdx_eq_take_drop_succ, List.eraseIdx_eq_take_drop_succ, List.map_append, List.map_take, List.map_drop]
theorem pick_perm {fs ls rs : List Nat} {k : Nat} (h : (fs ++ ls).Perm rs) (hk : k < ls.length) : ((fs ++ [ls[k]]) ++ ls.eraseIdx k).Perm rs := by
  refine List.Perm.trans ?_ h
  rw [List.append_assoc]
  exact List.Perm.append_left fs (erase_perm hk)
section
variable {P : Program} {w : World} {K : PySem.W.Frag} {mg : Str → Option Value} {base : Heap}
abbrev nMixed : List Str := ["_law_state_here", "_law_many", "_law_left", "_law_found"]
theorem sc_mixed : FnScope nMixed ["_law_state_here", "_law_many"] (C8.fnScope (topS 37)) := C8.fnScope_by (by decide +kernel)
theorem cal_mixed (D : DefOk K mg "_law_mixed" (topS 37) ["_law_state_here", "_law_many"]) (Z : Blt mg) (cT : C8.Cal P w K mg base 1 "_law_take" spTake []) : C8.Cal P w K mg base 2 "_law_mixed" (spMixed K) [] := by
  refine cal_of D sc_mixed (fun vs H Q E h => ?_) (fun f cdv A outer s H vs Q E hr h => ?_)
  · obtain ⟨sa, m, rfl, _⟩ := h
    rfl
  obtain ⟨sa, m, rfl, hS, hm, k⟩ := h
  refine ⟨_, pss_cons (ps_set (i := 2) sc_mixed.nd rfl (Or.inl rfl) (pe_listRg rfl (by rfl) Z.lst (prg_1 (by rfl) Z.ran (pv 1))))
    (pss_cons (ps_set (i := 3) sc_mixed.nd rfl (Or.inl rfl) (pe_lst pa_nil))
    (pss_cons (ps_while PassesOwn.never (pt_cmpR (op_neD hr.units) (pv 2) (pe_lst pa_nil) (nomark _))
      (pss_one (ps_expr (pe_bm PySem.F.plainAttrs_list PySem.F.slot_list_append PySem.F.type_list_append mt_append (pv 3) (pa_cons
        (pe_bm PySem.F.plainAttrs_list PySem.F.slot_list_pop PySem.F.type_list_pop mt_popAt (pv 2) (pa_cons
          (C8.pe_c cT hr (by decide) (by rfl) (pa_cons (pv 0) (pa_cons (pe_len Z (pv 2)) pa_nil))) pa_nil)) pa_nil)))))
    (pss_one (ps_ret (pe_callTy call_tuple_of (by rfl) Z.tup bt_tup (pa_cons (pv 3) pa_nil)))))), ?_⟩
  refine ⟨_, rfl, _, rfl, RgOk.of_le (by decide) (by omega) (by decide) (by omega), fun l1 hl1 => ?_⟩
  have e1 : rgV 0 (m : Int) = natV (List.range m) := by
    unfold rgV natV
    rw [show ((m : Int) - 0).toNat = m by omega]
    refine List.map_congr_left fun i _ => congrArg V.int (by omega)
  rw [e1]
  have d1 : Drw sa H (upd H l1 (.lst (natV (List.range m)))) := (Drw.refl hS).mut hS hl1
  have g1 : (upd H l1 (.lst (natV (List.range m)))) l1 = some (.lst (natV (List.range m))) := upd_same
  dsimp only [gName]
  generalize upd H l1 (.lst (natV (List.range m))) = H1 at d1 g1
  refine q_asgL (el_lst ea_nil (by decide)) fun l2 H2 hl2 e2 h2 => ?_
  have n12 : l1 ≠ l2 := fun z => by
    rw [z, hl2] at g1
    cases g1
  have hl2' := Drw.fresh hS d1.b hl2 d1.s
  refine q_while (fun n σ' H' => σ' = [some (.ref sa), some (.int (m : Int)), some (.ref l1), some (.ref l2)] ∧ Drw sa H H' ∧ ∃ ls fs : List Nat, ls.length = n ∧ H' l1 = some (.lst (natV ls)) ∧ H' l2 = some (.lst (natV fs)) ∧ (fs ++ ls).Perm (List.range m)) m ⟨rfl, d1.ex e2, List.range m, [], List.length_range, e2 l1 _ g1, h2, List.Perm.refl _⟩ fun n σ' H' p => ?_
  obtain ⟨rfl, p1, ls, fs, rfl, p3, p4, p5⟩ := p
  have hlen := p5.length_eq
  rw [List.length_append, List.length_range] at hlen
  refine ⟨!decide (ls = []), ?_, fun hb H3 e3 => ?_, fun hb H3 e3 => ?_⟩
  · refine fun H3 e3 Q q => ⟨_, rfl, el_lst (ta := tNil) ea_nil (by decide) H3 (Ex.refl _) _ fun p H4 hp e4 h4 => ⟨.list (natD ls), .list [], .lst (sq_of ((e3.trans e4) l1 _ p3)) (dp_nat ls), .lst (sq_of h4) .nil, shaped_nat ls, by decide, ⟨_, rfl, ?_⟩⟩⟩
    rw [eqv_nil]
    exact q H4 e4
  · rw [Bool.not_eq_true', decide_eq_false_iff_not] at hb
    have h0 : 0 < ls.length := List.length_pos_iff.mpr hb
    refine ⟨fun σ' H' => ∃ n, n < ls.length ∧ σ' = [some (.ref sa), some (.int (m : Int)), some (.ref l1), some (.ref l2)] ∧ Drw sa H H' ∧ ∃ ls fs : List Nat, ls.length = n ∧ H' l1 = some (.lst (natV ls)) ∧ H' l2 = some (.lst (natV fs)) ∧ (fs ++ ls).Perm (List.range m), fun σ2 H2 q => ?_, ?_⟩
    · obtain ⟨n, q1, q2⟩ := q
      exact ⟨n, q1, q2⟩
    · have d3 := p1.ex e3
      have f3 := e3 l1 _ p3
      have f4 := e3 l2 _ p4
      refine ⟨.ref l2, rfl, Or.inl ⟨rfl, _, sq_of f4⟩, ?_⟩
      refine ⟨.ref l1, rfl, Or.inl ⟨rfl, _, sq_of f3⟩, ?_⟩
      refine take_of (m := ls.length) d3.s (ea_cons (ev_var rfl) (ea_cons (ev_is (ev_len (ev_var rfl) (sq_of f3)) (by unfold natV; rw [List.length_map])) ea_nil)) h0 (by omega) fun r H4 hr4 d4 => ?_
      have d34 := d3.trans d4
      have ne1 : l1 ≠ sa := fun z => Drw.ne hS hl1 z.symm
      have ne2 : l2 ≠ sa := fun z => Drw.ne hS hl2' z.symm
      have f3' := d4.b l1 _ ne1 f3
      have f4' := d4.b l2 _ ne2 f4
      refine ⟨l1, natV ls, (r : Int), r, .int ((ls[r] : Nat) : Int), rfl, rfl, f3', by omega, by omega, ?_, ?_, ?_⟩
      · rw [seqIndex_of (by omega) (by unfold natV; rw [List.length_map]; omega)]
        rfl
      · unfold natV
        rw [List.getElem?_map, List.getElem?_eq_getElem hr4]
        rfl
      · have d5 : Drw sa H (upd H4 l1 (.lst ((natV ls).eraseIdx r))) := d34.mut hS hl1
        have f5 : (upd H4 l1 (.lst ((natV ls).eraseIdx r))) l1 = some (.lst ((natV ls).eraseIdx r)) := upd_same
        have f6 : (upd H4 l1 (.lst ((natV ls).eraseIdx r))) l2 = some (.lst (natV fs)) := by
          rw [upd_ne n12.symm]
          exact f4'
        generalize upd H4 l1 (.lst ((natV ls).eraseIdx r)) = H5 at d5 f5 f6
        refine ⟨l2, natV fs, _, rfl, rfl, f6, sz_lt (by unfold natV; rw [List.length_map]; omega), ls.length - 1, by omega, rfl, d5.mut hS hl2', ls.eraseIdx r, fs ++ [ls[r]], ?_, ?_, ?_, pick_perm p5 hr4⟩
        · rw [List.length_eraseIdx, if_pos hr4]
        · rw [upd_ne n12, f5]
          rw [natV_erase]
        · rw [upd_same]
          unfold natV
          rw [List.map_append]
          rfl
  · rw [Bool.not_eq_false', decide_eq_true_eq] at hb
    subst hb
    rw [List.append_nil] at p5
    refine s_retD (d := .tuple (natD fs)) (evd_tupOf (evDl_var rfl (e3 l2 _ p4) (dp_nat fs))) fun u H4 e4 hu => ?_
    exact k fs p5 u H4 (p1.ex (e3.trans e4)) hu
end
/-! ### sorted of ties that differ -/
def sortT (n : Nat) (l : List Tie) : List Tie := grid n fun a b => decide ((a, b) ∈ l)
theorem sortT_wv {n : Nat} (h : n ≤ 14) (l : List Tie) : Wv n (sortT n l) := grid_wv h _
theorem sortT_of {n : Nat} {l us : List Tie} (hd : l.Nodup) (hok : ∀ t ∈ l, t.1 < t.2 ∧ t.2 < n) (p : us.Perm l) (h : us.Pairwise fun x y => ¬ ltT y x) : us = sortT n l :=
  sorted_one (p.trans (perm_of hd (up_nodup (grid_up ..)) fun t => by
    unfold sortT
    rw [mem_grid]
    constructor
    · intro ht
      have := hok t ht
      exact ⟨this.1, this.2, decide_eq_true ht⟩
    · rintro ⟨_, _, h3⟩
      exact of_decide_eq_true h3)) h (grid_up ..)
/-! ### a web renamed -/
def reT (fs : List Nat) (t : Tie) : Tie := (if fs.getD t.2 0 < fs.getD t.1 0 then fs.getD t.2 0 else fs.getD t.1 0, if fs.getD t.1 0 < fs.getD t.2 0 then fs.getD t.2 0 else fs.getD t.1 0)
theorem perm_at {fs : List Nat} {n : Nat} (p : fs.Perm (List.range n)) {a : Nat} (ha : a < n) : fs[a]? = some (fs.getD a 0) ∧ fs.getD a 0 < n := by
  have hl : fs.length = n := by
    have := p.length_eq
    rw [List.length_range] at this
    exact this
  have h1 : fs[a]? = some (fs.getD a 0) := by
    rw [List.getD_eq_getElem?_getD, List.getElem?_eq_getElem (by omega)]
    rfl
  have h2 := p.mem_iff.mp (List.mem_of_getElem? h1)
  exact ⟨h1, List.mem_range.mp h2⟩
theorem perm_inj {fs : List Nat} {n : Nat} (p : fs.Perm (List.range n)) {a b : Nat} (ha : a < n) (hb : b < n) (h : fs.getD a 0 = fs.getD b 0) : a = b := by
  have hl : fs.length = n := by
    have := p.length_eq
    rw [List.length_range] at this
    exact this
  have nd : fs.Nodup := p.nodup_iff.mpr List.nodup_range
  have h1 := (perm_at p ha).1
  have h2 := (perm_at p hb).1
  rw [List.getElem?_eq_getElem (by omega)] at h1 h2
  exact (List.getElem_inj nd).mp ((Option.some.inj h1).trans (h.trans (Option.some.inj h2).symm))
theorem reT_ok {fs : List Nat} {n : Nat} (p : fs.Perm (List.range n)) {t : Tie} (h : t.1 < t.2 ∧ t.2 < n) : (reT fs t).1 < (reT fs t).2 ∧ (reT fs t).2 < n := by
  have h1 := (perm_at p (show t.1 < n by omega)).2
  have h2 := (perm_at p h.2).2
  have h3 : fs.getD t.1 0 ≠ fs.getD t.2 0 := fun z => by
    have := perm_inj p (show t.1 < n by omega) h.2 z
    omega
  unfold reT
  dsimp only
  generalize fs.getD t.1 0 = x at *
  generalize fs.getD t.2 0 = y at *
  split <;> split <;> omega
theorem reT_inj {fs : List Nat} {n : Nat} (p : fs.Perm (List.range n)) {t u : Tie} (ht : t.1 < t.2 ∧ t.2 < n) (hu : u.1 < u.2 ∧ u.2 < n) (h : reT fs t = reT fs u) : t = u := by
  unfold reT at h
  injection h with h1 h2
  have i1 := perm_inj p (a := t.1) (b := u.1) (by omega) (by omega)
  have i2 := perm_inj p (a := t.2) (b := u.2) (by omega) (by omega)
  have i3 := perm_inj p (a := t.1) (b := u.2) (by omega) (by omega)
  have i4 := perm_inj p (a := t.2) (b := u.1) (by omega) (by omega)
  obtain ⟨t1, t2⟩ := t
  obtain ⟨u1, u2⟩ := u
  dsimp only at *
  generalize fs.getD t1 0 = x at *
  generalize fs.getD t2 0 = y at *
  generalize fs.getD u1 0 = z at *
  generalize fs.getD u2 0 = r at *
  have key : (t1 = u1 ∧ t2 = u2) ∨ (t1 = u2 ∧ t2 = u1) := by
    split at h1 <;> split at h1 <;> split at h2 <;> split at h2 <;> first
      | exact .inl ⟨i1 (by omega), i2 (by omega)⟩
      | exact .inr ⟨i3 (by omega), i4 (by omega)⟩
  rcases key with ⟨h5, h6⟩ | ⟨h5, h6⟩
  · rw [h5, h6]
  · omega
theorem map_nodup {f : Tie → Tie} : ∀ {l : List Tie}, l.Nodup → (∀ a ∈ l, ∀ b ∈ l, f a = f b → a = b) → (l.map f).Nodup
  | [], _, _ => by simp
  | t :: l, h, k => by
    have h2 := List.nodup_cons.mp h
    rw [List.map_cons, List.nodup_cons]
    refine ⟨fun z => ?_, map_nodup h2.2 fun a ha b hb => k a (List.mem_cons_of_mem _ ha) b (List.mem_cons_of_mem _ hb)⟩
    obtain ⟨u, hu, e⟩ := List.mem_map.mp z
    have := k u (List.mem_cons_of_mem _ hu) t List.mem_cons_self e
    rw [this] at hu
    exact h2.1 hu
theorem rename_nodup {fs : List Nat} {n : Nat} {ts : List Tie} (p : fs.Perm (List.range n)) (W : Wv n ts) : (ts.map (reT fs)).Nodup := by
  refine map_nodup (up_nodup W.up) fun a ha b hb h => reT_inj p (W.ok a ha) (W.ok b hb) h
def spNamed (K : PySem.W.Frag) : Sp := fun vs H Q _ => ∃ v u n ts fs, vs = [v, u] ∧ Dp K H v (webD n ts) ∧ Wv n ts ∧ ts.length < 64 ∧ Dp K H u (.tuple (natD fs)) ∧ fs.Perm (List.range n) ∧ ∀ us, Wv n us → RetD K (webD n us) H Q
def rMin2 : List V → Hp → VK → Prop := fun xs H Q => ∃ i j, xs = [.int i, .int j] ∧ Q (.int (if j < i then j else i)) H
theorem ev_min2 {σ : St} {H : Hp} {ta tb : TE} {i j : Int} (ha : Ev ta σ H (.int i)) (hb : Ev tb σ H (.int j)) : Ev (tCB rMin2 (tCons ta (tCons tb tNil))) σ H (.int (if j < i then j else i)) := fun H1 e Q q =>
  ha H1 e _ fun H2 e2 => hb H2 (e.trans e2) _ fun H3 e3 => ⟨i, j, rfl, q H3 (e2.trans e3)⟩
theorem ev_minN {σ : St} {H : Hp} {ta tb : TE} {i j : Nat} (ha : Ev ta σ H (.int (i : Int))) (hb : Ev tb σ H (.int (j : Int))) : Ev (tCB rMin2 (tCons ta (tCons tb tNil))) σ H (.int ((if j < i then j else i : Nat) : Int)) := ev_is (ev_min2 ha hb) (congrArg V.int (by split <;> split <;> omega))
theorem ev_maxN {σ : St} {H : Hp} {ta tb : TE} {i j : Nat} (ha : Ev ta σ H (.int (i : Int))) (hb : Ev tb σ H (.int (j : Int))) : Ev (tCB rMax2 (tCons ta (tCons tb tNil))) σ H (.int ((if i < j then j else i : Nat) : Int)) := ev_is (ev_max2 ha hb) (congrArg V.int (by split <;> split <;> omega))
section
variable {P : Program} {w : World} {K : PySem.W.Frag} {mg : Str → Option Value} {base : Heap}
abbrev nNamed : List Str := ["_law_web_here", "_law_names", "_law_ties", "_law_a", "_law_b"]
theorem sc_named : FnScope nNamed ["_law_web_here", "_law_names"] (C8.fnScope (topS 39)) := C8.fnScope_by (by decide +kernel)
theorem cal_named (D : DefOk K mg "_law_named" (topS 39) ["_law_web_here", "_law_names"]) (Z : Blt mg) : C8.Cal P w K mg base 1 "_law_named" (spNamed K) [] := by
  refine cal_of D sc_named (fun vs H Q E h => ?_) (fun f cdv A outer s H vs Q E hr h => ?_)
  · obtain ⟨v, u, n, ts, fs, rfl, _⟩ := h
    rfl
  obtain ⟨v, u, n, ts, fs, rfl, hd, W, h64, hu, hp, k⟩ := h
  refine ⟨_, pss_cons (ps_set (i := 2) sc_named.nd rfl (Or.inl rfl) (pe_lst pa_nil))
    (pss_cons (ps_for PassesOwn.never rfl (pi_tup (pe_ix ix_tup (pv 0) pe_int (fun _ _ => rfl))) (pg_tup rfl (pgs_cons (pg_name (i := 3) sc_named.nd rfl (Or.inl rfl)) (pgs_cons (pg_name (i := 4) sc_named.nd rfl (Or.inl rfl)) pgs_nil)))
      (pss_one (ps_expr (pe_bm PySem.F.plainAttrs_list PySem.F.slot_list_append PySem.F.type_list_append mt_append (pv 2) (pa_cons (pe_tup (pa_cons
        (pe_callB (call_min2 rfl) (by rfl) Z.min bt_min (pa_cons (pe_ix ix_tup (pv 1) (pv 3) (fun _ _ => rfl)) (pa_cons (pe_ix ix_tup (pv 1) (pv 4) (fun _ _ => rfl)) pa_nil))) (pa_cons
        (pe_callB (call_max2 rfl) (by rfl) Z.max bt_max (pa_cons (pe_ix ix_tup (pv 1) (pv 3) (fun _ _ => rfl)) (pa_cons (pe_ix ix_tup (pv 1) (pv 4) (fun _ _ => rfl)) pa_nil))) pa_nil))) pa_nil)))))
    (pss_one (ps_ret (pe_tup (pa_cons (pe_ix ix_tup (pv 0) pe_int (fun _ _ => rfl)) (pa_cons (pe_callTy call_tuple_of (by rfl) Z.tup bt_tup (pa_cons (pe_callB (cr_sortT (d := 2) (B := 64) (by decide)) (by rfl) Z.srt bt_srt (pa_cons (pv 2) pa_nil)) pa_nil)) pa_nil)))))), ?_⟩
  refine q_asgL (el_lst ea_nil (by decide)) fun l H1 hl1 e1 h1 => ?_
  have hd1 := dp_ex e1 _ _ hd
  refine evd_ix1 (evd_var (i := 0) rfl hd1) H1 (Ex.refl H1) _ fun tv H2 e2 htv => ?_
  obtain ⟨a, _, rfl, _⟩ := tup_inv htv
  obtain ⟨xs, hx, ha, hxl⟩ := ties_inv htv
  refine ⟨a, rfl, ⟨xs, hx⟩, for_tup (fun i σ' H' => (∃ s3 s4, σ' = [some v, some u, some (.ref l), s3, s4]) ∧ Ex H H' ∧ DpAll K H' xs (ts.map tieD) ∧ SqT K H' a xs ∧ HasT K H' l ((ts.take i).map (reT fs))) ?_ (fun i σ' H' _ p => p.2.2.2.1) (fun i x σ' H' hi p => ?_) fun σ' H' p => ?_⟩
  · exact ⟨⟨none, none, rfl⟩, e1.trans e2, ha, hx, [], e2 l _ h1, .nil⟩
  · obtain ⟨⟨s3, s4, rfl⟩, p1, p2, p3, p4⟩ := p
    obtain ⟨t, hti, hxt⟩ := ties_at p2 hi
    obtain ⟨b, rfl, hb⟩ := tie_inv hxt
    refine ⟨b, _, rfl, hb, rfl, _, _, rfl, _, _, rfl, rfl, ?_⟩
    have ht := W.ok t (List.mem_of_getElem? hti)
    obtain ⟨au, us, rfl, hus, hua⟩ := tup_inv (dp_ex p1 _ _ hu)
    have hus2 := dp_natV hua
    subst hus2
    have at_ : ∀ c, c < n → (natV fs)[c]? = some (.int ((fs.getD c 0 : Nat) : Int)) := fun c hc => by
      unfold natV
      rw [List.getElem?_map, (perm_at hp hc).1]
      rfl
    have i1 : Ev (tOp (rIxT K) (tVar 1) (tVar 3)) [some v, some (.ref au), some (.ref l), some (.int (t.1 : Int)), some (.int (t.2 : Int))] H' (.int ((fs.getD t.1 0 : Nat) : Int)) := ev_ixT (j := t.1) (ev_var rfl) hus (ev_var rfl) (at_ _ (by omega))
    have i2 : Ev (tOp (rIxT K) (tVar 1) (tVar 4)) [some v, some (.ref au), some (.ref l), some (.int (t.1 : Int)), some (.int (t.2 : Int))] H' (.int ((fs.getD t.2 0 : Nat) : Int)) := ev_ixT (j := t.2) (ev_var rfl) hus (ev_var rfl) (at_ _ ht.2)
    obtain ⟨ys, q1, q2⟩ := p4
    have hil : i < ts.length := by
      have := (List.getElem?_eq_some_iff.mp hti).1
      exact this
    refine s_appD (d := tieD (reT fs t)) q1 q2 (noL_ties _) (ev_var rfl) (evd_pair (ev_minN i1 i2) (ev_maxN i1 i2)) (noL_tie _) (by rw [List.length_map, List.length_map, List.length_take]; omega) fun zs H3 e3 g1 g2 => ?_
    have xt := e3.exT q1
    refine ⟨⟨_, _, rfl⟩, exBut p1 hl1 e3, dpAll_exT xt _ _ (noL_ties _) p2, sqT_exT xt p3, zs, g1, ?_⟩
    rw [List.take_add_one, hti, List.map_append]
    show DpAll K H3 zs (List.map tieD (List.map (reT fs) (List.take i ts) ++ [reT fs t]))
    rw [List.map_append]
    exact g2
  · obtain ⟨⟨s3, s4, rfl⟩, p1, p2, p3, ys, q1, q2⟩ := p
    rw [hxl, List.take_length] at q2
    have hok : ∀ t ∈ ts.map (reT fs), t.1 < t.2 ∧ t.2 < n := fun t ht => by
      obtain ⟨z, hz, rfl⟩ := List.mem_map.mp ht
      exact reT_ok hp (W.ok z hz)
    have hn := W.most
    refine s_retD (d := webD n (sortT n (ts.map (reT fs)))) (evd_tup (eda_cons (evd_int (ev_ix0 (evd_var (i := 0) rfl (dp_ex p1 _ _ hd)))) (eda_cons (evd_tupOf (EvDL.l (evdl_sorted (ts := ts.map (reT fs)) (m := sortT n (ts.map (reT fs))) (evDl_var rfl q1 q2) (by rw [List.length_map]; omega) (fun t ht => by have := hok t ht; omega) fun us p h => sortT_of (rename_nodup hp W) hok p h))) eda_nil)) (by show 2 ≤ 100000; decide)) fun z H3 e3 hz => ?_
    exact k _ (sortT_wv hn _) z H3 (p1.trans e3) hz
end
end Wb
/-! few ties drawn -/
namespace Wb
open PySem PySem.Spec PyProof.Rows L2 Evl Wm RZ
/-- a list of ties of which G holds -/
def EvP (K : PySem.W.Frag) (te : TE) (σ : St) (H : Hp) (G : List Tie → Prop) : Prop := ∀ H1, Ex H H1 → ∀ Q : VK, (∀ p xs H2 us, Ex H1 H2 → H2 p = some (.lst xs) → DpAll K H2 xs ((us : List Tie).map tieD) → G us → Q (.ref p) H2) → te σ H1 Q
section
variable {P : Program} {w : World} {K : PySem.W.Frag} {σ : St} {H : Hp} {te tb tn : TE} {ts : List Tie} {G : List Tie → Prop}
/-- the addresses of ties -/
theorem ties_ks : ∀ {xs : List V} {ts : List Tie}, DpAll K H xs (ts.map tieD) → ∃ ks : List (Addr × List Int), xs = ks.map (fun p => V.ref p.1) ∧ (∀ p ∈ ks, SqT K H p.1 (p.2.map V.int)) ∧ ks.map (·.2) = ts.map fun t => [(t.1 : Int), (t.2 : Int)]
  | _, [], h => by
    cases h
    exact ⟨[], rfl, fun p hp => absurd hp (by simp), rfl⟩
  | _, t :: ts, h => by
    cases h with
    | cons h1 h2 =>
      obtain ⟨a, rfl, hs⟩ := tie_inv h1
      obtain ⟨ks, rfl, k2, k3⟩ := ties_ks h2
      refine ⟨(a, [(t.1 : Int), (t.2 : Int)]) :: ks, rfl, fun p hp => ?_, by rw [List.map_cons, List.map_cons, k3]⟩
      rcases List.mem_cons.mp hp with rfl | hp
      · exact hs
      · exact k2 p hp
/-- .. and back -/
theorem ks_ties : ∀ {L : List (Addr × List Int)}, (∀ p ∈ L, SqT K H p.1 (p.2.map V.int) ∧ ∃ t ∈ ts, p.2 = [(t.1 : Int), (t.2 : Int)]) → ∃ us : List Tie, DpAll K H (L.map fun p => V.ref p.1) (us.map tieD) ∧ L.map (·.2) = us.map (fun t => [(t.1 : Int), (t.2 : Int)]) ∧ ∀ t ∈ us, t ∈ ts
  | [], _ => ⟨[], .nil, rfl, fun t ht => absurd ht (by simp)⟩
  | p :: L, h => by
    obtain ⟨us, u1, u2, u3⟩ := ks_ties (L := L) fun q hq => h q (List.mem_cons_of_mem _ hq)
    obtain ⟨h1, t, ht, e⟩ := h p List.mem_cons_self
    refine ⟨t :: us, .cons ?_ u1, by rw [List.map_cons, List.map_cons, u2, e], fun x hx => ?_⟩
    · rw [e] at h1
      exact dp_tie h1
    · rcases List.mem_cons.mp hx with rfl | hx
      · exact ht
      · exact u3 x hx
theorem code_up : ∀ {L : List (Addr × List Int)} {us : List Tie}, L.map (·.2) = us.map (fun t => [(t.1 : Int), (t.2 : Int)]) → (∀ t ∈ us, t.1 < 64 ∧ t.2 < 64) → L.Pairwise (fun q r => TS.code 64 q.2 ≤ TS.code 64 r.2) → us.Pairwise fun x y => ¬ ltT y x
  | [], [], _, _, _ => List.Pairwise.nil
  | [], _ :: _, e, _, _ => by simp at e
  | _ :: _, [], e, _, _ => by simp at e
  | p :: L, u :: us, e, hb, h => by
    rw [List.map_cons, List.map_cons] at e
    injection e with e1 e2
    have h2 := List.pairwise_cons.mp h
    refine List.pairwise_cons.mpr ⟨fun t ht hlt => ?_, code_up e2 (fun t ht => hb t (List.mem_cons_of_mem _ ht)) h2.2⟩
    have hm : [(t.1 : Int), (t.2 : Int)] ∈ L.map (·.2) := by
      rw [e2]
      exact List.mem_map.mpr ⟨t, ht, rfl⟩
    obtain ⟨q, hq, eq⟩ := List.mem_map.mp hm
    have z := h2.1 q hq
    rw [e1, eq, code_pair, code_pair] at z
    have b1 := hb u List.mem_cons_self
    have b2 := hb t (List.mem_cons_of_mem _ ht)
    unfold ltT at hlt
    omega
/-- sorted(set(ties)) -/
theorem evp_sortset (h : EvDl K te σ H (ts.map tieD)) (hf : ts.length < 64) (hb : ∀ t ∈ ts, t.1 < 64 ∧ t.2 < 64) :
    EvP K (tCB (rSortedT K P w) (tCons (tCB (rSetOfT K P w) (tCons te tNil)) tNil)) σ H (fun us => us.Pairwise ltT ∧ ∀ t ∈ us, t ∈ ts) := fun H1 e Q q => h H1 e _ fun p xs H2 e2 h2 ha => by
  obtain ⟨ks, rfl, k2, k3⟩ := ties_ks ha
  have hlk : ks.length = ts.length := by
    have := congrArg List.length k3
    rw [List.length_map, List.length_map] at this
    exact this
  refine ⟨p, ks, rfl, sq_of h2, k2, by omega, fun a L hna hL1 hL2 => ?_⟩
  have e3 : Ex H2 (upd H2 a (SetTO P w a L)) := Ex.new hna
  have hk : ∀ r ∈ L, SqT K (upd H2 a (SetTO P w a L)) r.1 (r.2.map V.int) ∧ ∃ t ∈ ts, r.2 = [(t.1 : Int), (t.2 : Int)] := fun r hr => by
    refine ⟨ex_t e3 (k2 r (hL1 r hr)), ?_⟩
    have hm : r.2 ∈ ks.map (·.2) := List.mem_map.mpr ⟨r, hL1 r hr, rfl⟩
    rw [k3] at hm
    obtain ⟨t, ht, et⟩ := List.mem_map.mp hm
    exact ⟨t, ht, et.symm⟩
  refine ⟨a, L, 2, 64, rfl, upd_same, fun r hr => (hk r hr).1, by decide, fun r hr => ?_, fun L' r hp hnd hlen hs hrn => ?_⟩
  · obtain ⟨_, t, ht, et⟩ := hk r hr
    have := hb t ht
    rw [et]
    refine ⟨rfl, fun z hz => ?_⟩
    rcases List.mem_cons.mp hz with rfl | hz
    · omega
    · have := List.mem_singleton.mp hz
      omega
  · obtain ⟨us, u1, u2, u3⟩ := ks_ties (L := L') fun r hr => hk r (hp.mem_iff.mp hr)
    have e4 : Ex (upd H2 a (SetTO P w a L)) (upd (upd H2 a (SetTO P w a L)) r (.lst (L'.map fun q => V.ref q.1))) := Ex.new hrn
    refine q r _ _ us ((e2.trans e3).trans e4) upd_same (dpAll_ex e4 _ _ u1) ⟨sorted_up (code_up u2 (fun t ht => hb t (u3 t ht)) hs) ?_, u3⟩
    rw [u2] at hnd
    rw [List.Nodup, List.pairwise_map] at hnd
    exact hnd.imp fun hne e => hne (by rw [e])
/-- xs[:m] -/
theorem evp_take {tm : TE} {m : Nat} (h : EvP K te σ H G) (hm : Ev tm σ H (.int (m : Int))) : EvP K (tSl (rSlL K) te tNoPart (tPart tm)) σ H (fun us => ∃ ws, G ws ∧ us = ws.take m) := fun H1 e Q q => h H1 e _ fun p xs H2 us e2 h2 ha hg => hm H2 (e.trans e2) _ fun H3 e3 => by
  have hl := dpAll_len ha
  rw [List.length_map] at hl
  have ec : cutV xs none (some (m : Int)) = xs.take m := by
    unfold cutV
    rw [HT.sIx_none, HT.sIx_nat, List.drop_zero, Nat.sub_zero]
    by_cases hle : m ≤ xs.length
    · rw [Nat.min_eq_left hle]
    · rw [Nat.min_eq_right (by omega), List.take_of_length_le (Nat.le_refl _), List.take_of_length_le (by omega)]
  refine ⟨(m : Int), rfl, p, xs, rfl, sq_of (e3 p _ h2), fun r hr => ?_⟩
  rw [ec]
  have e4 : Ex H3 (upd H3 r (.lst (xs.take m))) := Ex.new hr
  refine q r _ _ (us.take m) ((e2.trans e3).trans e4) upd_same ?_ ⟨us, hg, rfl⟩
  have tk : ∀ (n : Nat) {ys : List V} {ws : List Tie}, DpAll K H2 ys (ws.map tieD) → DpAll K H2 (ys.take n) ((ws.take n).map tieD) := fun n => by
    induction n with
    | zero =>
      intro ys ws _
      exact .nil
    | succ n ih =>
      intro ys ws hy
      cases ws with
      | nil =>
        cases hy
        exact .nil
      | cons z ws =>
        cases hy with
        | cons y1 y2 => exact .cons y1 (ih y2)
  exact dpAll_ex (e3.trans e4) _ _ (tk m ha)
/-- sorted of what rises already -/
theorem evp_sorted (h : EvP K te σ H G) (hg : ∀ us, G us → us.Pairwise ltT ∧ us.length < 64 ∧ ∀ t ∈ us, t.1 < 64 ∧ t.2 < 64) : EvP K (tCB (rSortU K 2 64) (tCons te tNil)) σ H G := fun H1 e Q q => h H1 e _ fun p xs H2 us e2 h2 ha hgu => by
  obtain ⟨g1, g2, g3⟩ := hg us hgu
  exact evdl_sorted (te := fun _ H Q => Q (.ref p) H) (σ := σ) (H := H2) (ts := us) (m := us) (fun H3 e3 Q q => q p xs H3 (Ex.refl H3) (e3 p _ h2) (dpAll_ex e3 _ _ ha)) g2 g3 (fun ws p h => sorted_one p h g1) H2 (Ex.refl H2) Q fun r ys H3 hr e3 h3 ha3 => q r ys H3 us (e2.trans e3) h3 ha3 hgu
/-- return (n, tuple(ties)) -/
theorem s_retP {n : Nat} {D : Ends} (h : EvP K te σ H G) (hn : Ev tn σ H (.int (n : Int))) (k : ∀ us v H1, Ex H H1 → G us → Dp K H1 v (webD n us) → D.rt v H1) : tRet (tTup (tCons tn (tCons (tCB (rTupOf K) (tCons te tNil)) tNil))) D σ H :=
  hn H (Ex.refl H) _ fun H1 e1 => h H1 e1 _ fun p xs H2 us e2 h2 ha hg => ⟨p, xs, rfl, .inl ⟨sq_of h2, fun l hl => ⟨sz_of (by show 2 ≤ 100000; decide), fun r hr => by
    have e3 : Ex H2 (upd H2 l (.tup xs)) := Ex.new hl
    have e4 : Ex (upd H2 l (.tup xs)) (upd (upd H2 l (.tup xs)) r (.tup [.int (n : Int), .ref l])) := Ex.new hr
    exact k us _ _ (((e1.trans e2).trans e3).trans e4) hg (dp_web (st_of upd_same) (.tup (st_of (e4 l _ upd_same)) (dpAll_ex (e3.trans e4) _ _ ha)))⟩⟩⟩
end
theorem two_sorted {ns : List Int} {r1 r2 m : Nat} (p : ns.Perm [(r1 : Int), (r2 : Int)]) (h : ns.Pairwise (· ≤ ·)) (h1 : r1 < m) (h2 : r2 < m) : ∃ a b : Nat, ns = [(a : Int), (b : Int)] ∧ a ≤ b ∧ b < m := by
  have hl := p.length_eq
  match ns, hl with
  | [x, y], _ =>
    have hx := p.mem_iff (a := x)
    have hy := p.mem_iff (a := y)
    simp at hx hy h
    rcases hx with rfl | rfl <;> rcases hy with rfl | rfl
    · exact ⟨_, _, rfl, by omega, by omega⟩
    · exact ⟨_, _, rfl, by omega, by omega⟩
    · exact ⟨_, _, rfl, by omega, by omega⟩
    · exact ⟨_, _, rfl, by omega, by omega⟩
/-- a, b = sorted([take(state, m), take(state, m)]) -/
theorem two_drawn {K : PySem.W.Frag} {σ : St} {H : Hp} {tA tA2 : TA} {E E2 : XK} {ia ib m : Nat} {sa : Addr} {D : Ends} (hS : StAt H sa) (h0 : 0 < m) (hm : m ≤ 1000) (h : EvA tA σ H [.ref sa, .int (m : Int)]) (h2 : ∀ H1, Drw sa H H1 → EvA tA2 σ H1 [.ref sa, .int (m : Int)])
    (k : ∀ a b H1, a ≤ b → b < m → Drw sa H H1 → D.nx ((σ.set ia (some (.int ((a : Nat) : Int)))).set ib (some (.int ((b : Nat) : Int)))) H1) :
    tAsg (tCB (rSortedI K) (tCons (tLst (tCons (tCall spTake [] E tA) (tCons (tCall spTake [] E2 tA2) tNil))) tNil)) (gLst K 2 (gCons (gName ia) (gCons (gName ib) gNil))) D σ H := by
  refine take_of hS h h0 hm fun r1 H1 hr1 d1 => ?_
  refine take_of d1.s (h2 H1 d1) h0 hm fun r2 H2 hr2 d2 => ?_
  have d12 := d1.trans d2
  refine ⟨sz_of (by show 2 ≤ 100000; decide), fun p hp => ⟨p, [(r1 : Int), (r2 : Int)], rfl, sq_of upd_same, fun ns q hns hs hq => ?_⟩⟩
  obtain ⟨a, b, rfl, hab, hb⟩ := two_sorted hns hs hr1 hr2
  exact ⟨q, _, rfl, sq_of upd_same, rfl, _, _, rfl, _, _, rfl, rfl, k a b _ hab hb ((d12.ex (Ex.new hp)).ex (Ex.new hq))⟩
def spFew (K : PySem.W.Frag) : Sp := fun vs H Q _ => ∃ sa, vs = [.ref sa, .int 7] ∧ StAt H sa ∧ ∀ n us, n ≤ 7 → Wv n us → us.length ≤ 7 → RetS K sa (webD n us) H Q
/-- ties that may be -/
def OkT (n : Nat) (us : List Tie) : Prop := ∀ t ∈ us, t.1 < t.2 ∧ t.2 < n
theorem OkT.snoc {n : Nat} {us : List Tie} (h : OkT n us) {t : Tie} (ht : t.1 < t.2 ∧ t.2 < n) : OkT n (us ++ [t]) := fun x hx => by
  rcases List.mem_append.mp hx with hx | hx
  · exact h x hx
  · rw [List.mem_singleton.mp hx]
    exact ht
theorem sub_up {us : List Tie} (h : us.Pairwise ltT) (m : Nat) : (us.take m).Pairwise ltT := h.sublist (List.take_sublist m us)
section
variable {P : Program} {w : World} {K : PySem.W.Frag} {mg : Str → Option Value} {base : Heap}
abbrev nFew : List Str := ["_law_state_here", "_law_most", "_law_many", "_law_some", "_law_ties", "_law_at", "_law_one", "_law_other", "_law_turn", "_law_a", "_law_b"]
theorem sc_few : FnScope nFew ["_law_state_here", "_law_most"] (C8.fnScope (topS 38)) := C8.fnScope_by (by decide +kernel)
theorem cal_few (D : DefOk K mg "_law_few_ties" (topS 38) ["_law_state_here", "_law_most"]) (Z : Blt mg) (cT : C8.Cal P w K mg base 1 "_law_take" spTake []) (cM : C8.Cal P w K mg base 2 "_law_mixed" (spMixed K) []) : C8.Cal P w K mg base 3 "_law_few_ties" (spFew K) [] := by
  refine cal_of D sc_few (fun vs H Q E h => ?_) (fun f cdv A outer s H vs Q E hr h => ?_)
  · obtain ⟨sa, rfl, _⟩ := h
    rfl
  obtain ⟨sa, rfl, hS, k⟩ := h
  refine ⟨_, pss_cons (ps_set (i := 2) sc_few.nd rfl (Or.inl rfl) (pe_op op_add pe_int (C8.pe_c cT hr (by decide) (by rfl) (pa_cons (pv 0) (pa_cons (pe_callB (call_min2 rfl) (by rfl) Z.min bt_min (pa_cons pe_int (pa_cons (pe_op op_add (pv 1) pe_int) pa_nil))) pa_nil)))))
    (pss_cons (ps_set (i := 3) sc_few.nd rfl (Or.inl rfl) (C8.pe_c cM hr (by decide) (by rfl) (pa_cons (pv 0) (pa_cons (pv 2) pa_nil))))
    (pss_cons (ps_set (i := 4) sc_few.nd rfl (Or.inl rfl) (pe_lst pa_nil))
    (pss_cons (ps_for PassesOwn.never rfl (pi_range2 (by rfl) Z.ran (pa_cons pe_int (pa_cons (pv 2) pa_nil))) (pg_name (i := 5) sc_few.nd rfl (Or.inl rfl))
      (pss_one (ps_if (pt_cmpR op_gt (C8.pe_c cT hr (by decide) (by rfl) (pa_cons (pv 0) (pa_cons pe_int pa_nil))) pe_int (nomark _))
        (pss_cons (ps_par (i := 6) (j := 7) rfl sc_few.nd rfl rfl (by decide) rfl rfl (pa_cons (pe_ix ix_tup (pv 3) (pv 5) (fun _ _ => rfl)) (pa_cons (pe_ix ix_tup (pv 3) (C8.pe_c cT hr (by decide) (by rfl) (pa_cons (pv 0) (pa_cons (pv 5) pa_nil))) (fun _ _ => rfl)) pa_nil)) (by rfl))
        (pss_one (ps_expr (pe_bm PySem.F.plainAttrs_list PySem.F.slot_list_append PySem.F.type_list_append mt_append (pv 4) (pa_cons (pe_tup (pa_cons
          (pe_callB (call_min2 rfl) (by rfl) Z.min bt_min (pa_cons (pv 6) (pa_cons (pv 7) pa_nil))) (pa_cons
          (pe_callB (call_max2 rfl) (by rfl) Z.max bt_max (pa_cons (pv 6) (pa_cons (pv 7) pa_nil))) pa_nil))) pa_nil))))) pss_nil)))
    (pss_cons (ps_for PassesOwn.never rfl (pi_range1 (by rfl) Z.ran (pa_cons (C8.pe_c cT hr (by decide) (by rfl) (pa_cons (pv 0) (pa_cons pe_int pa_nil))) pa_nil)) (pg_name (i := 8) sc_few.nd rfl (Or.inl rfl))
      (pss_cons (ps_asg (pe_callB cr_sortedI (by rfl) Z.srt bt_srt (pa_cons (pe_lst (pa_cons (C8.pe_c cT hr (by decide) (by rfl) (pa_cons (pv 0) (pa_cons (pv 2) pa_nil))) (pa_cons (C8.pe_c cT hr (by decide) (by rfl) (pa_cons (pv 0) (pa_cons (pv 2) pa_nil))) pa_nil))) pa_nil))
        (pg_lst rfl (pgs_cons (pg_name (i := 9) sc_few.nd rfl (Or.inl rfl)) (pgs_cons (pg_name (i := 10) sc_few.nd rfl (Or.inl rfl)) pgs_nil))))
      (pss_one (ps_if (pt_cmpR op_lt (pv 9) (pv 10) (nomark _)) (pss_one (ps_expr (pe_bm PySem.F.plainAttrs_list PySem.F.slot_list_append PySem.F.type_list_append mt_append (pv 4) (pa_cons (pe_tup (pa_cons (pv 9) (pa_cons (pv 10) pa_nil))) pa_nil)))) pss_nil))))
    (pss_one (ps_ret (pe_tup (pa_cons (pv 2) (pa_cons (pe_callTy call_tuple_of (by rfl) Z.tup bt_tup (pa_cons (pe_callB (cr_sortT (d := 2) (B := 64) (by decide)) (by rfl) Z.srt bt_srt (pa_cons
      (pe_slice sl_list (pe_callB (cr_sortedT rfl) (by rfl) Z.srt bt_srt (pa_cons (pe_callTy (cr_setOfT rfl hr.units) (by rfl) Z.set bt_set (pa_cons (pv 4) pa_nil)) pa_nil)) po_none (po_some (pv 1))) pa_nil)) pa_nil)) pa_nil))))))))), ?_⟩
  refine take_of (m := 7) hS (ea_cons (ev_var rfl) (ea_cons (ev_is (ev_min2 ev_c (ev_op (ev_var rfl) ev_c rv_I0)) rfl) ea_nil)) (by decide) (by decide) fun r0 H1 hr0 d1 => ⟨_, _, rfl, rfl, ?_⟩
  dsimp only [gName]
  have em : (1 : Int) + ((r0 : Nat) : Int) = ((r0 + 1 : Nat) : Int) := by omega
  rw [em]
  generalize hm : r0 + 1 = m
  have hm0 : 0 < m := by omega
  have hm7 : m ≤ 7 := by omega
  refine ⟨_, rfl, _, rfl, sa, m, rfl, d1.s, by omega, fun fs hp sv H2 d2 hsv => ?_⟩
  have d02 := d1.trans d2
  dsimp only [gName]
  refine q_asgL (el_lst ea_nil (by decide)) fun l H3 hl3 e3 h3 => ?_
  have hl := Drw.fresh hS d02.b hl3 d02.s
  have hne := Drw.ne hS hl
  have hsv3 := dp_ex e3 _ _ hsv
  have at_ : ∀ c, c < m → (natV fs)[c]? = some (.int ((fs.getD c 0 : Nat) : Int)) := fun c hc => by
    unfold natV
    rw [List.getElem?_map, (perm_at hp hc).1]
    rfl
  refine q_forR2 (lo := 1) (n := (m : Int)) (ea_cons ev_c (ea_cons (ev_var rfl) ea_nil)) (by omega)
    (fun i σ' H' => (∃ s5 s6 s7, σ' = [some (.ref sa), some (.int 7), some (.int (m : Int)), some sv, some (.ref l), s5, s6, s7, none, none, none]) ∧ Drw sa H H' ∧ Dp K H' sv (.tuple (natD fs)) ∧ ∃ us, HasT K H' l us ∧ OkT m us ∧ us.length ≤ i) (fun H4 e4 => ?_) (fun i σ' H' hi p => ?_) (fun σ' H' p => ?_)
  · exact ⟨⟨_, _, _, rfl⟩, (d02.ex e3).ex e4, dp_ex e4 _ _ hsv3, [], ⟨[], e4 l _ h3, .nil⟩, (fun t ht => absurd ht (by simp)), Nat.zero_le _⟩
  · obtain ⟨⟨s5, s6, s7, rfl⟩, p1, p2, us, p3, p4, p5⟩ := p
    have ei : (1 : Int) + (i : Int) = ((i + 1 : Nat) : Int) := by omega
    rw [ei]
    have hi' : i + 1 < m := by omega
    refine take_of (m := 8) p1.s (ea_cons (ev_var rfl) (ea_cons ev_c ea_nil)) (by decide) (by decide) fun r H4 _ d4 => ⟨_, _, rfl, rfl, _, rfl, ?_⟩
    have d14 := p1.trans d4
    have sv4 := d4.dp p1.s (by unfold noL; exact noL_nat fs) p2
    have has4 : HasT K H4 l us := by
      obtain ⟨ys, y1, y2⟩ := p3
      exact ⟨ys, d4.b l _ (fun z => hne z.symm) y1, d4.dps p1.s (noL_ties us) y2⟩
    dsimp only
    split
    · obtain ⟨au, us2, rfl, hus, hua⟩ := tup_inv sv4
      have hus2 := dp_natV hua
      subst hus2
      refine ⟨_, rfl, _, rfl, au, _, ((i + 1 : Nat) : Int), _, rfl, rfl, hus, atI_nat (at_ (i + 1) hi'), ?_⟩
      refine ⟨_, rfl, take_of (m := i + 1) d14.s (ea_cons (ev_var rfl) (ea_cons (ev_var rfl) ea_nil)) (by omega) (by omega) fun r2 H5 hr2 d5 => ⟨au, _, (r2 : Int), _, rfl, rfl, sqT_exT (d14.s.exT d5.b) hus, atI_nat (at_ r2 (by omega)), _, _, rfl, ?_⟩⟩
      have d15 := d14.trans d5
      have sv5 := d5.dp d14.s (by unfold noL; exact noL_nat fs) sv4
      obtain ⟨ys, y1, y2⟩ := has4
      have y1' := d5.b l _ (fun z => hne z.symm) y1
      have y2' := d5.dps d14.s (noL_ties us) y2
      have hx := (perm_at hp hi').2
      have hy := (perm_at hp (show r2 < m by omega)).2
      have hxy : fs.getD (i + 1) 0 ≠ fs.getD r2 0 := fun z => by
        have := perm_inj hp hi' (show r2 < m by omega) z
        omega
      refine s_appD (d := tieD (_, _)) y1' y2' (noL_ties _) (ev_var rfl) (evd_pair (ev_minN (ev_var rfl) (ev_var rfl)) (ev_maxN (ev_var rfl) (ev_var rfl))) (noL_tie _) (by rw [List.length_map]; omega) fun zs H6 e6 g1 g2 => ?_
      refine ⟨⟨_, _, _, rfl⟩, d15.mutB hS hl e6, dp_exT (e6.exT y1') _ _ (by unfold noL; exact noL_nat fs) sv5, us ++ [_], ⟨zs, g1, by rw [List.map_append]; exact g2⟩, p4.snoc ?_, by rw [List.length_append, List.length_singleton]; omega⟩
      generalize fs.getD (i + 1) 0 = x at *
      generalize fs.getD r2 0 = y at *
      dsimp only
      split <;> split <;> omega
    · exact ⟨⟨_, _, _, rfl⟩, d14, sv4, us, has4, p4, by omega⟩
  · obtain ⟨⟨s5, s6, s7, rfl⟩, p1, p2, us, p3, p4, p5⟩ := p
    have h6 : us.length ≤ 6 := by omega
    refine take_of (m := 4) p1.s (ea_cons (ev_var rfl) (ea_cons ev_c ea_nil)) (by decide) (by decide) fun r H4 hr4 d4 => ⟨(r : Int), rfl, by omega, by omega, ?_⟩
    have d14 := p1.trans d4
    have has4 : HasT K H4 l us := by
      obtain ⟨ys, y1, y2⟩ := p3
      exact ⟨ys, d4.b l _ (fun z => hne z.symm) y1, d4.dps p1.s (noL_ties us) y2⟩
    refine for_range (lo := 0) (n := ((r : Int)).toNat) (fun i σ' H' => (∃ s8 s9 s10, σ' = [some (.ref sa), some (.int 7), some (.int (m : Int)), some sv, some (.ref l), s5, s6, s7, s8, s9, s10]) ∧ Drw sa H H' ∧ ∃ us, HasT K H' l us ∧ OkT m us ∧ us.length ≤ 6 + i) ⟨⟨_, _, _, rfl⟩, d14, us, has4, p4, by omega⟩ (fun i σ' H' hi q => ?_) (fun σ' H' q => ?_)
    · obtain ⟨⟨s8, s9, s10, rfl⟩, q1, us, ⟨ys, y1, y2⟩, q3, q4⟩ := q
      refine two_drawn (ia := 9) (ib := 10) (m := m) q1.s (by omega) (by omega) (ea_cons (ev_var rfl) (ea_cons (ev_var rfl) ea_nil)) (fun H5 d5 => ea_cons (ev_var rfl) (ea_cons (ev_var rfl) ea_nil)) fun a b H5 hab hb d5 => ?_
      have d15 := q1.trans d5
      have y1' := d5.b l _ (fun z => hne z.symm) y1
      have y2' := d5.dps q1.s (noL_ties us) y2
      refine s_when (b := decide ((a : Int) < (b : Int))) (et_test (ev_op (ev_var rfl) (ev_var rfl) rv_I0)) (fun hc H6 e6 => ?_) (fun hc H6 e6 => ?_)
      · have hc := of_decide_eq_true hc
        refine s_appD (d := tieD (a, b)) (e6 l _ y1') (dpAll_ex e6 _ _ y2') (noL_ties _) (ev_var rfl) (evd_pair (ev_var rfl) (ev_var rfl)) (noL_tie _) (by rw [List.length_map]; omega) fun zs H7 e7 g1 g2 => ?_
        exact ⟨⟨_, _, _, rfl⟩, (d15.ex e6).mutB hS hl e7, us ++ [(a, b)], ⟨zs, g1, by rw [List.map_append]; exact g2⟩, q3.snoc ⟨by show a < b; omega, hb⟩, by rw [List.length_append, List.length_singleton]; omega⟩
      · exact ⟨⟨_, _, _, rfl⟩, d15.ex e6, us, ⟨ys, e6 l _ y1', dpAll_ex e6 _ _ y2'⟩, q3, by omega⟩
    · obtain ⟨⟨s8, s9, s10, rfl⟩, q1, us, ⟨ys, y1, y2⟩, q3, q4⟩ := q
      have q5 : us.length ≤ 9 := by omega
      have hb : ∀ t ∈ us, t.1 < 64 ∧ t.2 < 64 := fun t ht => by
        have := q3 t ht
        omega
      refine s_retP (n := m) (evp_sorted (evp_take (m := 7) (evp_sortset (evDl_var rfl y1 y2) (by omega) hb) (ev_var rfl)) fun us' hg => ?_) (ev_var rfl) fun us' v H5 e5 hg hv => ?_
      · obtain ⟨ws, ⟨w1, w2⟩, rfl⟩ := hg
        refine ⟨sub_up w1 7, ?_, fun t ht => hb t (w2 t (List.mem_of_mem_take ht))⟩
        rw [List.length_take]
        omega
      · obtain ⟨ws, ⟨w1, w2⟩, rfl⟩ := hg
        refine k m _ hm7 ⟨by omega, fun t ht => q3 t (w2 t (List.mem_of_mem_take ht)), sub_up w1 7⟩ ?_ v H5 (q1.ex e5) hv
        rw [List.length_take]
        omega
end
end Wb
/-! a web drawn -/
namespace Wb
open PySem PySem.Spec PyProof.Rows L2 Evl Wm RZ
def spLWeb (K : PySem.W.Frag) : Sp := fun vs H Q _ => ∃ sa, vs = [.ref sa, .int 7] ∧ StAt H sa ∧ ∀ n us, Wv n us → RetS K sa (webD n us) H Q
theorem seven_grid : ∀ n, n ≤ 7 → (grid n fun _ _ => true).length ≤ 21 := by decide
theorem wv_len {n : Nat} {us : List Tie} (W : Wv n us) (h : n ≤ 7) : us.length ≤ 21 := Nat.le_trans (up_len W) (seven_grid n h)
theorem filter_len {us : List Tie} {t : Tie} : (us.filter fun u => !decide (u = t)).length ≤ us.length := List.length_filter_le ..
theorem up_filter {us : List Tie} (f : Tie → Bool) (h : us.Nodup) : (us.filter f).Nodup := h.sublist List.filter_sublist
theorem nodup_snoc {us : List Tie} {t : Tie} (h : us.Nodup) (n : t ∉ us) : (us ++ [t]).Nodup := by
  rw [List.nodup_append]
  exact ⟨h, by simp, fun a ha b hb e => n (by rw [List.mem_singleton.mp hb] at e; rw [← e]; exact ha)⟩
/-- t != (a, b) -/
theorem ev_neTie {K : PySem.W.Frag} {σ : St} {H : Hp} {ta tb : TE} {t u : Tie} (ha : EvD K ta σ H (tieD t)) (hb : EvD K tb σ H (tieD u)) : Ev (tOp (rNeD K) ta tb) σ H (.bl (!decide (t = u))) := fun H1 e1 Q q => ha H1 e1 _ fun v H2 e2 hv => hb H2 (e1.trans e2) _ fun w H3 e3 hw =>
  ⟨_, _, dp_ex e3 _ _ hv, hw, shaped_tie t, shaped_tie u, by
    rw [eqv_tie]
    exact q H3 (e2.trans e3)⟩
/-- return (n, tuple(sorted(ties))) -/
theorem s_retSort {K : PySem.W.Frag} {σ : St} {H : Hp} {tn : TE} {D : Ends} {l : Addr} {j n : Nat} {us : List Tie} (hn : n ≤ 14) (hT : HasT K H l us) (hv : σ[j]? = some (some (.ref l))) (htn : Ev tn σ H (.int (n : Int))) (nd : us.Nodup) (ok : OkT n us) (h64 : us.length < 64)
    (k : ∀ v H1, Ex H H1 → Dp K H1 v (webD n (sortT n us)) → D.rt v H1) : tRet (tTup (tCons tn (tCons (tCB (rTupOf K) (tCons (tCB (rSortU K 2 64) (tCons (tVar j) tNil)) tNil)) tNil))) D σ H := by
  obtain ⟨ys, h1, h2⟩ := hT
  exact s_retD (d := webD n (sortT n us)) (evd_tup (eda_cons (evd_int htn) (eda_cons (evd_tupOf (EvDL.l (evdl_sorted (ts := us) (m := sortT n us) (evDl_var hv h1 h2) h64 (fun t ht => by have := ok t ht; omega) fun ws p h => sortT_of nd ok p h))) eda_nil)) (by show 2 ≤ 100000; decide)) fun v H1 e hd => k v H1 e hd
theorem pick6 : ∀ r, r < 6 → ∃ c : Nat, c ≤ 7 ∧ [V.int 0, V.int 0, V.int 1, V.int 2, V.int 3, V.int 7][r]? = some (.int (c : Int))
  | 0, _ => ⟨0, by decide, rfl⟩
  | 1, _ => ⟨0, by decide, rfl⟩
  | 2, _ => ⟨1, by decide, rfl⟩
  | 3, _ => ⟨2, by decide, rfl⟩
  | 4, _ => ⟨3, by decide, rfl⟩
  | 5, _ => ⟨7, by decide, rfl⟩
section
variable {P : Program} {w : World} {K : PySem.W.Frag} {mg : Str → Option Value} {base : Heap}
abbrev nLWeb : List Str := ["_law_state_here", "_law_most", "_law_way", "_law_many", "_law_web_here", "_law_a", "_law_b", "_law_ties", "_law_tie"]
theorem sc_lweb : FnScope nLWeb ["_law_state_here", "_law_most"] (C8.fnScope (topS 40)) := C8.fnScope_by (by decide +kernel)
theorem cal_lweb (D : DefOk K mg "_law_web" (topS 40) ["_law_state_here", "_law_most"]) (Z : Blt mg) (cT : C8.Cal P w K mg base 1 "_law_take" spTake []) (cX : C8.Cal P w K mg base 2 "_law_mixed" (spMixed K) []) (cF : C8.Cal P w K mg base 3 "_law_few_ties" (spFew K) [])
    (cD : C8.Cal P w K mg base 2 "_law_drawn" (spDrawn K) []) (cM : C8.Cal P w K mg base 1 "_law_made" (spMade K) []) (cN : C8.Cal P w K mg base 1 "_law_named" (spNamed K) []) : C8.Cal P w K mg base 4 "_law_web" (spLWeb K) [] := by
  refine cal_of D sc_lweb (fun vs H Q E h => ?_) (fun f cdv A outer s H vs Q E hr h => ?_)
  · obtain ⟨sa, rfl, _⟩ := h
    rfl
  obtain ⟨sa, rfl, hS, k⟩ := h
  refine ⟨_, pss_cons (ps_set (i := 2) sc_lweb.nd rfl (Or.inl rfl) (C8.pe_c cT hr (by decide) (by rfl) (pa_cons (pv 0) (pa_cons pe_int pa_nil))))
    (pss_cons (ps_if (pt_cmpR op_lt (pv 2) pe_int (nomark _))
      (pss_cons (ps_set (i := 3) sc_lweb.nd rfl (Or.inl rfl) (pe_op op_sub (pv 1) (pe_ix ix_list (pe_lst (pa_cons pe_int (pa_cons pe_int (pa_cons pe_int (pa_cons pe_int (pa_cons pe_int (pa_cons (pv 1) pa_nil))))))) (C8.pe_c cT hr (by decide) (by rfl) (pa_cons (pv 0) (pa_cons pe_int pa_nil))) (fun _ _ => rfl))))
      (pss_one (ps_ret (C8.pe_c cD hr (by decide) (by rfl) (pa_cons (pv 0) (pa_cons (pe_callB (call_max2 rfl) (by rfl) Z.max bt_max (pa_cons pe_int (pa_cons (pv 3) pa_nil))) (pa_cons (pe_op op_add (pv 2) pe_int) pa_nil))))))) pss_nil)
    (pss_cons (ps_set (i := 4) sc_lweb.nd rfl (Or.inl rfl) (C8.pe_c cM hr (by decide) (by rfl) (pa_cons (C8.pe_c cF hr (by decide) (by rfl) (pa_cons (pv 0) (pa_cons (pv 1) pa_nil))) pa_nil)))
    (pss_cons (ps_set (i := 4) sc_lweb.nd rfl (Or.inl rfl) (C8.pe_c cN hr (by decide) (by rfl) (pa_cons (pv 4) (pa_cons (C8.pe_c cX hr (by decide) (by rfl) (pa_cons (pv 0) (pa_cons (pe_ix ix_tup (pv 4) pe_int (fun _ _ => rfl)) pa_nil))) pa_nil))))
    (pss_cons (ps_if (PW.pt (pw_or (pt_cmpR op_eq (pv 2) pe_int (nomark _)) (pw_or1 (pt_cmpR op_lt (pe_ix ix_tup (pv 4) pe_int (fun _ _ => rfl)) pe_int (nomark _))))) (pss_one (ps_ret (pv 4))) pss_nil)
    (pss_cons (ps_asg (pe_callB cr_sortedI (by rfl) Z.srt bt_srt (pa_cons (pe_lst (pa_cons (C8.pe_c cT hr (by decide) (by rfl) (pa_cons (pv 0) (pa_cons (pe_ix ix_tup (pv 4) pe_int (fun _ _ => rfl)) pa_nil))) (pa_cons (C8.pe_c cT hr (by decide) (by rfl) (pa_cons (pv 0) (pa_cons (pe_ix ix_tup (pv 4) pe_int (fun _ _ => rfl)) pa_nil))) pa_nil))) pa_nil))
        (pg_lst rfl (pgs_cons (pg_name (i := 5) sc_lweb.nd rfl (Or.inr rfl)) (pgs_cons (pg_name (i := 6) sc_lweb.nd rfl (Or.inr rfl)) pgs_nil))))
    (pss_cons (ps_setLc (i := 7) (own := [("_law_tie", 8)]) (g := gName 8) (tt := tTest (tOp (rNeD K) (tVar 8) (tTup (tCons (tVar 5) (tCons (tVar 6) tNil))))) (te := tVar 8)
        rfl sc_lweb.nd rfl rfl (sw_true rfl rfl rfl (by decide +kernel)) (pi_tup (pe_ix ix_tup (pv 4) pe_int (fun _ _ => rfl))) (blkOk_by (N := nLWeb) (sc := C8.fnScope (topS 40)) (by decide +kernel))
        (fun _ _ _ _ _ => pg_name (i := 8) sc_lweb.nd rfl (Or.inl rfl)) (fun _ _ _ _ _ => pts_one (pt_cmpR (op_neD hr.units) (pv 8) (pe_tup (pa_cons (pv 5) (pa_cons (pv 6) pa_nil))) (nomark _))) (fun _ _ _ _ _ => pv 8))
    (pss_cons (ps_if (PW.pt (pw_and (pt_cmpR op_lt (pv 5) (pv 6) (nomark _)) (pw_and1 (pt_cmpR op_eq (pe_len Z (pv 7)) (pe_len Z (pe_ix ix_tup (pv 4) pe_int (fun _ _ => rfl))) (nomark _)))))
      (pss_one (ps_expr (pe_bm PySem.F.plainAttrs_list PySem.F.slot_list_append PySem.F.type_list_append mt_append (pv 7) (pa_cons (pe_tup (pa_cons (pv 5) (pa_cons (pv 6) pa_nil))) pa_nil)))) pss_nil)
    (pss_one (ps_ret (pe_tup (pa_cons (pe_ix ix_tup (pv 4) pe_int (fun _ _ => rfl)) (pa_cons (pe_callTy call_tuple_of (by rfl) Z.tup bt_tup (pa_cons (pe_callB (cr_sortT (d := 2) (B := 64) (by decide)) (by rfl) Z.srt bt_srt (pa_cons (pv 7) pa_nil)) pa_nil)) pa_nil)))))))))))), ?_⟩
  refine take_of (m := 6) hS (ea_cons (ev_var rfl) (ea_cons ev_c ea_nil)) (by decide) (by decide) fun r0 H1 hr0 d1 => ?_
  dsimp only [gName]
  refine q_when (et_test (ev_op (ev_var rfl) ev_c rv_I0)) (fun hb H2 e2 => ?_) (fun hb H2 e2 => ?_)
  · have d2 := d1.ex e2
    refine ⟨_, rfl, el_lst (vs := [V.int 0, V.int 0, V.int 1, V.int 2, V.int 3, V.int 7]) (ea_cons ev_c (ea_cons ev_c (ea_cons ev_c (ea_cons ev_c (ea_cons ev_c (ea_cons (ev_var rfl) ea_nil)))))) (by show 6 ≤ 100000; decide) H2 (Ex.refl H2) _ fun p H3 hp e3 h3 => ?_⟩
    have d3 := d2.ex e3
    refine take_of (m := 6) d3.s (ea_cons (ev_var rfl) (ea_cons ev_c ea_nil)) (by decide) (by decide) fun r H4 hr4 d4 => ?_
    obtain ⟨c, hc, hat⟩ := pick6 r hr4
    have d34 := d3.trans d4
    have hpn : p ≠ sa := fun z => Drw.ne d2.s hp z.symm
    refine ⟨p, _, (r : Int), _, rfl, rfl, sq_of (d4.b p _ hpn h3), atI_nat hat, _, _, rfl, rfl, ?_⟩
    dsimp only [gName]
    have ec : (if (7 : Int) - (c : Int) > 0 then (7 : Int) - (c : Int) else 0) = ((7 - c : Nat) : Int) := by split <;> omega
    refine ⟨_, rfl, ⟨_, rfl, _, _, rfl, _, rfl, _, _, rfl, rfl, sa, 7 - c, (r0 : Int) + 1, by rw [ec]; rfl, d34.s, by omega, fun us W v H6 d6 hv => ?_⟩⟩
    exact k _ us W v H6 (d34.trans d6) hv
  · have hb := of_decide_eq_false hb
    have d2 := d1.ex e2
    refine ⟨_, rfl, _, rfl, sa, rfl, d2.s, fun n us hn W hlen v H4 d4 hv => ?_⟩
    refine ⟨v, n, us, rfl, hv, by omega, fun v2 H5 e5 hv2 => ?_⟩
    have d5 := (d2.trans d4).ex e5
    generalize hm : us.length = m at *
    have Wm : Wv m (madeT us) := by
      unfold madeT
      rw [hm]
      exact grid_wv (by omega) _
    have hm21 := wv_len Wm hlen
    dsimp only [gName]
    refine ⟨v2, rfl, ?_⟩
    refine ⟨_, rfl, ev_ix0 (σ := [some (.ref sa), some (.int 7), some (.int (r0 : Int)), none, some v2, none, none, none, none]) (evd_var (K := K) (i := 4) rfl hv2) H5 (Ex.refl H5) _ fun H6 e6 => ?_⟩
    refine ⟨sa, m, rfl, d5.s.ex e6, by omega, fun fs hp nv H7 d7 hnv => ?_⟩
    have d6 := d5.ex e6
    refine ⟨v2, nv, m, madeT us, fs, rfl, d7.dp d6.s (noL_web _ _) (dp_ex e6 _ _ hv2), Wm, by omega, hnv, hp, fun ws Ww u H8 e8 hu => ?_⟩
    have d8 := (d6.trans d7).ex e8
    have hws := wv_len Ww hlen
    dsimp only [gName]
    refine q_when (et_or (et_test (ev_op (ev_var rfl) ev_c (rv_eq rfl))) fun _ => et_test (ev_op (ev_ix0 (evd_var (K := K) (i := 4) rfl hu)) ev_c rv_I0)) (fun hc H9 e9 => ?_) (fun hc H9 e9 => ?_)
    · exact s_ret (ev_var rfl) fun H10 e10 => k m ws Ww u H10 ((d8.ex e9).ex e10) (dp_ex (e9.trans e10) _ _ hu)
    · rw [Bool.or_eq_false_iff] at hc
      have hm2 := of_decide_eq_false hc.2
      have d9 := d8.ex e9
      have hu9 := dp_ex e9 _ _ hu
      refine two_drawn (ia := 5) (ib := 6) (m := m) d9.s (by omega) (by omega) (ea_cons (ev_var rfl) (ea_cons (ev_ix0 (evd_var (K := K) (i := 4) rfl hu9)) ea_nil)) (fun H10 d10 => ea_cons (ev_var rfl) (ea_cons (ev_ix0 (evd_var (K := K) (i := 4) rfl (d10.dp d9.s (noL_web _ _) hu9))) ea_nil)) fun a b H10 hab hbm d10 => ?_
      have dd := d9.trans d10
      have hu10 := d10.dp d9.s (noL_web _ _) hu9
      dsimp only
      refine q_asgDL (K := K) (ds := (ws.filter fun t => !decide (t = (a, b))).map tieD) ?_ fun l xs H11 hl e11 h11 a11 => ?_
      · refine edl_lcTs (fun t => !decide (t = (a, b))) tieD (fun _ => rfl) (fun x _ => [some (.ref sa), some (.int 7), some (.int (r0 : Int)), none, some u, some (.int (a : Int)), some (.int (b : Int)), none, some x]) (evd_ix1 (evd_var (i := 4) rfl hu10)) (by omega)
          (fun x t H3 e3 hx Q q => q) (fun x t => rfl) (fun x t H3 e3 ht hx => et_test (ev_neTie (evd_var (i := 8) rfl hx) (evd_pair (ev_var rfl) (ev_var rfl)))) (fun x t H3 e3 ht hx => evd_var (i := 8) rfl hx)
      · have hl0 := Drw.fresh hS dd.b hl dd.s
        have d11 := dd.ex e11
        have hu11 := dp_ex e11 _ _ hu10
        have hfl := filter_len (us := ws) (t := (a, b))
        have ok0 : OkT m (ws.filter fun t => !decide (t = (a, b))) := fun t ht => Ww.ok t (List.mem_filter.mp ht).1
        have nd0 : (ws.filter fun t => !decide (t = (a, b))).Nodup := up_filter _ (up_nodup Ww.up)
        have nm : (a, b) ∉ ws.filter fun t => !decide (t = (a, b)) := fun z => by
          have := (List.mem_filter.mp z).2
          simp at this
        generalize (ws.filter fun t => !decide (t = (a, b))) = fs1 at *
        refine q_when (et_and (et_test (ev_op (ev_var rfl) (ev_var rfl) rv_I0)) fun _ => et_test (ev_op (ev_len (ev_var rfl) (sq_of h11)) (ev_lenTs (evd_ix1 (evd_var (K := K) (i := 4) rfl hu11))) (rv_eq rfl))) (fun hc H12 e12 => ?_) (fun hc H12 e12 => ?_)
        · rw [Bool.and_eq_true] at hc
          have hlt := of_decide_eq_true hc.1
          refine s_appD (d := tieD (a, b)) (e12 l _ h11) (dpAll_ex e12 _ _ a11) (noL_ties _) (ev_var rfl) (evd_pair (ev_var rfl) (ev_var rfl)) (noL_tie _) (by rw [List.length_map]; omega) fun zs H13 e13 g1 g2 => ?_
          have hu13 : Dp K H13 u (webD m ws) := dp_exT (e13.exT (e12 l _ h11)) _ _ (noL_web _ _) (dp_ex e12 _ _ hu11)
          refine s_retSort (n := m) (us := fs1 ++ [(a, b)]) (j := 7) (by omega) ⟨zs, g1, by rw [List.map_append]; exact g2⟩ rfl (ev_ix0 (evd_var (K := K) (i := 4) rfl hu13)) (nodup_snoc nd0 nm) (ok0.snoc ⟨by show a < b; omega, hbm⟩) (by rw [List.length_append, List.length_singleton]; omega) fun v14 H14 e14 hv14 => ?_
          exact k m _ (sortT_wv (by omega) _) v14 H14 (((d11.ex e12).mutB hS hl0 e13).ex e14) hv14
        · refine s_retSort (n := m) (us := fs1) (j := 7) (by omega) ⟨xs, e12 l _ h11, dpAll_ex e12 _ _ a11⟩ rfl (ev_ix0 (evd_var (K := K) (i := 4) rfl (dp_ex e12 _ _ hu11))) nd0 ok0 (by omega) fun v14 H14 e14 hv14 => ?_
          exact k m _ (sortT_wv (by omega) _) v14 H14 ((d11.ex e12).ex e14) hv14
end
end Wb
/-! things that are no webs -/
namespace Wb
open PySem PySem.Spec PyProof.Rows L2 Evl Wm RZ
/-- the heap without what stands at a -/
def dl (sa : Addr) (H : Hp) : Hp := fun b => if b = sa then none else H b
theorem dl_of {sa : Addr} {H : Hp} {b : Addr} (n : b ≠ sa) : dl sa H b = H b := if_neg n
theorem dl_ex {sa : Addr} {H H' : Hp} (e : Ex H H') : Ex (dl sa H) (dl sa H') := fun b o h => by
  by_cases hb : b = sa
  · unfold dl at h
    rw [if_pos hb] at h
    cases h
  · rw [dl_of hb] at h ⊢
    exact e b o h
theorem dl_exB {sa : Addr} {H H' : Hp} (e : ExB sa H H') : Ex (dl sa H) (dl sa H') := fun b o h => by
  by_cases hb : b = sa
  · unfold dl at h
    rw [if_pos hb] at h
    cases h
  · rw [dl_of hb] at h ⊢
    exact e b o hb h
theorem dl_sub {sa : Addr} {H : Hp} : Ex (dl sa H) H := fun b o h => by
  by_cases hb : b = sa
  · unfold dl at h
    rw [if_pos hb] at h
    cases h
  · rw [dl_of hb] at h
    exact h
def Kno (sa : Addr) (H : Hp) : Prop := ∃ o, H sa = some o
theorem Kno.ex {sa : Addr} {H H' : Hp} (k : Kno sa H) (e : Ex H H') : Kno sa H' := by
  obtain ⟨o, h⟩ := k
  exact ⟨o, e sa o h⟩
theorem Kno.ne {sa : Addr} {H : Hp} {p : Addr} (k : Kno sa H) (h : H p = none) : p ≠ sa := fun z => by
  obtain ⟨o, k⟩ := k
  rw [z, k] at h
  cases h
/-- data beside what stands at sa -/
def EvN (K : PySem.W.Frag) (sa : Addr) (te : TE) (σ : St) (d : PyData) : Prop := ∀ H, Kno sa H → ∀ Q : VK, (∀ v H2, Ex H H2 → Dp K (dl sa H2) v d → Q v H2) → te σ H Q
def EvNA (K : PySem.W.Frag) (sa : Addr) (ta : TA) (σ : St) (ds : List PyData) : Prop := ∀ H, Kno sa H → ∀ Q : List V → Hp → Prop, (∀ vs H2, Ex H H2 → DpAll K (dl sa H2) vs ds → Q vs H2) → ta σ H Q
section
variable {K : PySem.W.Frag} {sa : Addr} {σ : St} {te : TE} {ta tr : TA} {d : PyData} {ds : List PyData} {v : V}
theorem n_c (h : ∀ H, Dp K H v d) : EvN K sa (tC v) σ d := fun H k Q q => q v H (Ex.refl H) (h _)
theorem n_int {i : Int} : EvN K sa (tC (.int i)) σ (.int i) := n_c fun _ => .int i
theorem n_bl {i : Bool} : EvN K sa (tC (.bl i)) σ (.bool i) := n_c fun _ => .bl i
theorem n_non : EvN K sa (tC .non) σ .none := n_c fun _ => .non
theorem n_str {i : Str} : EvN K sa (tC (.str i)) σ (.str i) := n_c fun _ => .str i
theorem n_neg {i : Int} : EvN K sa (tUn (rU fun i => .int (-i)) (tC (.int i))) σ (.int (-i)) := fun H k Q q => ⟨i, rfl, q _ H (Ex.refl H) (.int _)⟩
theorem n_nil : EvNA K sa tNil σ [] := fun H k Q q => q [] H (Ex.refl H) .nil
theorem n_cons (h : EvN K sa te σ d) (hr : EvNA K sa tr σ ds) : EvNA K sa (tCons te tr) σ (d :: ds) := fun H k Q q =>
  h H k _ fun v H1 e1 hv => hr H1 (k.ex e1) _ fun vs H2 e2 hvs => q (v :: vs) H2 (e1.trans e2) (.cons (dp_ex (dl_ex e2) _ _ hv) hvs)
theorem n_tup (h : EvNA K sa ta σ ds) (hl : ds.length ≤ 100 := by decide) : EvN K sa (tTup ta) σ (.tuple ds) := fun H k Q q =>
  h H k _ fun vs H1 e1 hvs => ⟨by rw [dpAll_len hvs]; exact sz_of (by omega), fun p hp => by
    have e2 : Ex H1 (upd H1 p (.tup vs)) := Ex.new hp
    refine q _ _ (e1.trans e2) (.tup (st_of ?_) (dpAll_ex (dl_ex e2) _ _ hvs))
    rw [dl_of ((k.ex e1).ne hp)]
    exact upd_same⟩
theorem n_lst (h : EvNA K sa ta σ ds) (hl : ds.length ≤ 100 := by decide) : EvN K sa (tLst ta) σ (.list ds) := fun H k Q q =>
  h H k _ fun vs H1 e1 hvs => ⟨by rw [dpAll_len hvs]; exact sz_of (by omega), fun p hp => by
    have e2 : Ex H1 (upd H1 p (.lst vs)) := Ex.new hp
    refine q _ _ (e1.trans e2) (.lst (sq_of ?_) (dpAll_ex (dl_ex e2) _ _ hvs))
    rw [dl_of ((k.ex e1).ne hp)]
    exact upd_same⟩
def fewB : PyData → Bool
  | .tuple [_, .tuple ds] => decide (ds.length ≤ 1000)
  | _ => true
theorem few_of {d : PyData} (h : fewB d = true) : fewD d := fun d0 ds e => by
  subst e
  exact of_decide_eq_true h
/-- no web, beside what stands at sa -/
def EvX (K : PySem.W.Frag) (sa : Addr) (te : TE) (σ : St) : Prop := ∀ H, Kno sa H → ∀ Q : VK, (∀ v H2, Ex H H2 → AskV K (dl sa H2) v false → Q v H2) → te σ H Q
def EvXA (K : PySem.W.Frag) (sa : Addr) (ta : TA) (σ : St) (n : Nat) : Prop := ∀ H, Kno sa H → ∀ Q : List V → Hp → Prop, (∀ vs H2, Ex H H2 → vs.length = n → (∀ x ∈ vs, AskV K (dl sa H2) x false) → Q vs H2) → ta σ H Q
def EvXL (K : PySem.W.Frag) (sa : Addr) (te : TE) (σ : St) (H0 : Hp) (n : Nat) : Prop := ∀ H, Ex H0 H → ∀ Q : VK, (∀ p xs H2, Ex H H2 → p ≠ sa → H2 p = some (.lst xs) → xs.length = n → (∀ x ∈ xs, AskV K (dl sa H2) x false) → Q (.ref p) H2) → te σ H Q
theorem x_of (h : EvN K sa te σ d) (hw : isWebD d = false) (hf : fewB d = true) : EvX K sa te σ := fun H k Q q => h H k Q fun v H2 e2 hd => q v H2 e2 (.inl ⟨d, hd, few_of hf, hw⟩)
theorem x_dict : EvX K sa tDNewK σ := fun H k Q q p hp => q _ _ (Ex.new hp) (.inr ⟨p, [], rfl, by rw [dl_of (k.ne hp)]; exact upd_same, rfl⟩)
theorem x_nil : EvXA K sa tNil σ 0 := fun H k Q q => q [] H (Ex.refl H) rfl fun x hx => absurd hx (by simp)
theorem x_cons {n : Nat} (h : EvX K sa te σ) (hr : EvXA K sa tr σ n) : EvXA K sa (tCons te tr) σ (n + 1) := fun H k Q q =>
  h H k _ fun v H1 e1 hv => hr H1 (k.ex e1) _ fun vs H2 e2 hn hvs => q (v :: vs) H2 (e1.trans e2) (by rw [List.length_cons, hn]) fun x hx => by
    rcases List.mem_cons.mp hx with rfl | hx
    · exact hv.ex (dl_ex e2)
    · exact hvs x hx
theorem x_lst {n : Nat} {H0 : Hp} (k0 : Kno sa H0) (h : EvXA K sa ta σ n) (hn : n ≤ 100) : EvXL K sa (tLst ta) σ H0 n := fun H e Q q =>
  h H (k0.ex e) _ fun vs H1 e1 hl hvs => ⟨by rw [hl]; exact sz_of (by omega), fun p hp => q p vs _ (e1.trans (Ex.new hp)) (((k0.ex e).ex e1).ne hp) upd_same hl fun x hx => (hvs x hx).ex (dl_ex (Ex.new hp))⟩
theorem x_cat {i n m : Nat} {H0 : Hp} {p : Addr} {xs : List V} (k0 : Kno sa H0) (hp : σ[i]? = some (some (.ref p))) (h0 : H0 p = some (.lst xs)) (hl : xs.length = n) (hx : ∀ x ∈ xs, AskV K (dl sa H0) x false) (h : EvXL K sa te σ H0 m) (hn : n + m ≤ 100) : EvXL K sa (tOp rCat (tVar i) te) σ H0 (n + m) := fun H e Q q =>
  ⟨_, hp, h H e _ fun r ys H1 e1 hr h1 hl1 hy => ⟨p, r, xs, ys, rfl, rfl, (e.trans e1) p _ h0, h1, by rw [hl, hl1]; exact sz_of (by omega), fun l hll => q l _ _ (e1.trans (Ex.new hll)) ((k0.ex (e.trans e1)).ne hll) upd_same (by rw [List.length_append, hl, hl1]) fun x hx2 => by
    rcases List.mem_append.mp hx2 with hx2 | hx2
    · exact (hx x hx2).ex (dl_ex ((e.trans e1).trans (Ex.new hll)))
    · exact (hy x hx2).ex (dl_ex (Ex.new hll))⟩⟩
theorem q_asgX {i n : Nat} {H : Hp} {tz : TS} {D : Ends} (h : EvXL K sa te σ H n) (k : ∀ p xs H1, Ex H H1 → p ≠ sa → H1 p = some (.lst xs) → xs.length = n → (∀ x ∈ xs, AskV K (dl sa H1) x false) → tz D (σ.set i (some (.ref p))) H1) : tSeq (tAsg te (gName i)) tz D σ H := h H (Ex.refl H) _ k
end
def spBad (K : PySem.W.Frag) : Sp := fun vs H Q _ => ∃ sa, vs = [.ref sa] ∧ StAt H sa ∧ ∀ v H', Drw sa H H' → AskV K H' v false → Q v H'
section
variable {P : Program} {w : World} {K : PySem.W.Frag} {mg : Str → Option Value} {base : Heap}
abbrev nBad : List Str := ["_law_state_here", "_law_some"]
theorem sc_bad : FnScope nBad ["_law_state_here"] (C8.fnScope (topS 44)) := C8.fnScope_by (by decide +kernel)
theorem cal_bad (D : DefOk K mg "_law_bad_web" (topS 44) ["_law_state_here"]) (cT : C8.Cal P w K mg base 1 "_law_take" spTake []) : C8.Cal P w K mg base 2 "_law_bad_web" (spBad K) [] := by
  refine cal_of D sc_bad (fun vs H Q E h => ?_) (fun f cdv A outer s H vs Q E hr h => ?_)
  · obtain ⟨sa, rfl, _⟩ := h
    rfl
  obtain ⟨sa, rfl, hS, k⟩ := h
  refine ⟨_, pss_cons (ps_set (i := 1) sc_bad.nd rfl (Or.inl rfl) (pe_lst (pa_cons pe_non (pa_cons pe_int (pa_cons (pe_tup pa_nil) (pa_cons (pe_tup (pa_cons pe_int (pa_cons (pe_tup pa_nil) pa_nil))) (pa_cons (pe_tup (pa_cons (pe_un un_neg pe_int) (pa_cons (pe_tup pa_nil) pa_nil)))
      (pa_cons (pe_tup (pa_cons pe_bl (pa_cons (pe_tup pa_nil) pa_nil))) (pa_cons (pe_tup (pa_cons pe_int (pa_cons (pe_lst pa_nil) pa_nil))) (pa_cons (pe_lst (pa_cons pe_int (pa_cons (pe_tup pa_nil) pa_nil)))
      (pa_cons (pe_tup (pa_cons pe_int (pa_cons (pe_tup (pa_cons (pe_tup (pa_cons pe_int (pa_cons pe_int pa_nil))) pa_nil)) pa_nil))) (pa_cons (pe_tup (pa_cons pe_int (pa_cons (pe_tup (pa_cons (pe_tup (pa_cons pe_int (pa_cons pe_int pa_nil))) pa_nil)) pa_nil))) pa_nil))))))))))))
    (pss_cons (ps_set (i := 1) sc_bad.nd rfl (Or.inl rfl) (pe_op op_cat (pv 1) (pe_lst (pa_cons (pe_tup (pa_cons pe_int (pa_cons (pe_tup (pa_cons (pe_tup (pa_cons pe_int (pa_cons pe_int pa_nil))) (pa_cons (pe_tup (pa_cons pe_int (pa_cons pe_int pa_nil))) pa_nil))) pa_nil)))
      (pa_cons (pe_tup (pa_cons pe_int (pa_cons (pe_tup (pa_cons (pe_tup (pa_cons pe_int (pa_cons pe_int pa_nil))) (pa_cons (pe_tup (pa_cons pe_int (pa_cons pe_int pa_nil))) pa_nil))) pa_nil)))
      (pa_cons (pe_tup (pa_cons pe_int (pa_cons (pe_tup (pa_cons (pe_tup (pa_cons pe_int (pa_cons pe_int (pa_cons pe_int pa_nil)))) pa_nil)) pa_nil)))
      (pa_cons (pe_tup (pa_cons pe_int (pa_cons (pe_tup (pa_cons (pe_tup (pa_cons pe_int (pa_cons pe_bl pa_nil))) pa_nil)) pa_nil)))
      (pa_cons (pe_tup (pa_cons pe_int pa_nil)) pa_nil))))))))
    (pss_cons (ps_set (i := 1) sc_bad.nd rfl (Or.inl rfl) (pe_op op_cat (pv 1) (pe_lst (pa_cons (pe_tup (pa_cons pe_int (pa_cons (pe_tup (pa_cons (pe_tup (pa_cons pe_int (pa_cons pe_int pa_nil))) pa_nil)) pa_nil)))
      (pa_cons pe_str (pa_cons pe_dnewK pa_nil))))))
    (pss_cons (ps_set (i := 1) sc_bad.nd rfl (Or.inl rfl) (pe_op op_cat (pv 1) (pe_lst (pa_cons (pe_tup (pa_cons pe_int (pa_cons (pe_tup (pa_cons (pe_lst (pa_cons pe_int (pa_cons pe_int pa_nil))) pa_nil)) pa_nil)))
      (pa_cons (pe_tup (pa_cons pe_int (pa_cons (pe_tup pa_nil) (pa_cons (pe_tup pa_nil) pa_nil)))) (pa_cons (pe_tup (pa_cons pe_int (pa_cons pe_non pa_nil))) (pa_cons (pe_tup (pa_cons pe_str (pa_cons (pe_tup pa_nil) pa_nil))) pa_nil)))))))
    (pss_one (ps_ret (pe_ix ix_list (pv 1) (C8.pe_c cT hr (by decide) (by rfl) (pa_cons (pv 0) (pa_cons pe_int pa_nil))) (fun _ _ => rfl))))))), ?_⟩
  have ko : Kno sa H := by
    obtain ⟨x, b, h1, _⟩ := hS
    exact ⟨_, h1⟩
  refine q_asgX (K := K) (x_lst (n := 10) ko (x_cons (x_of n_non rfl rfl) (x_cons (x_of n_int rfl rfl) (x_cons (x_of (n_tup n_nil) rfl rfl) (x_cons (x_of (n_tup (n_cons n_int (n_cons (n_tup n_nil) n_nil))) rfl rfl) (x_cons (x_of (n_tup (n_cons n_neg (n_cons (n_tup n_nil) n_nil))) rfl rfl)
    (x_cons (x_of (n_tup (n_cons n_bl (n_cons (n_tup n_nil) n_nil))) rfl rfl) (x_cons (x_of (n_tup (n_cons n_int (n_cons (n_lst n_nil) n_nil))) rfl rfl) (x_cons (x_of (n_lst (n_cons n_int (n_cons (n_tup n_nil) n_nil))) rfl rfl)
    (x_cons (x_of (n_tup (n_cons n_int (n_cons (n_tup (n_cons (n_tup (n_cons n_int (n_cons n_int n_nil))) n_nil)) n_nil))) rfl rfl) (x_cons (x_of (n_tup (n_cons n_int (n_cons (n_tup (n_cons (n_tup (n_cons n_int (n_cons n_int n_nil))) n_nil)) n_nil))) rfl rfl) x_nil)))))))))) (by decide)) fun p1 xs1 H1 e1 n1 h1 l1 a1 => ?_
  have k1 := ko.ex e1
  refine q_asgX (K := K) (x_cat (n := 10) (m := 5) k1 rfl h1 l1 a1 (x_lst k1 (x_cons (x_of (n_tup (n_cons n_int (n_cons (n_tup (n_cons (n_tup (n_cons n_int (n_cons n_int n_nil))) (n_cons (n_tup (n_cons n_int (n_cons n_int n_nil))) n_nil))) n_nil))) rfl rfl)
    (x_cons (x_of (n_tup (n_cons n_int (n_cons (n_tup (n_cons (n_tup (n_cons n_int (n_cons n_int n_nil))) (n_cons (n_tup (n_cons n_int (n_cons n_int n_nil))) n_nil))) n_nil))) rfl rfl)
    (x_cons (x_of (n_tup (n_cons n_int (n_cons (n_tup (n_cons (n_tup (n_cons n_int (n_cons n_int (n_cons n_int n_nil)))) n_nil)) n_nil))) rfl rfl)
    (x_cons (x_of (n_tup (n_cons n_int (n_cons (n_tup (n_cons (n_tup (n_cons n_int (n_cons n_bl n_nil))) n_nil)) n_nil))) rfl rfl)
    (x_cons (x_of (n_tup (n_cons n_int n_nil)) rfl rfl) x_nil))))) (by decide)) (by decide)) fun p2 xs2 H2 e2 n2 h2 l2 a2 => ?_
  have k2 := k1.ex e2
  refine q_asgX (K := K) (x_cat (n := 15) (m := 3) k2 rfl h2 l2 a2 (x_lst k2 (x_cons (x_of (n_tup (n_cons n_int (n_cons (n_tup (n_cons (n_tup (n_cons n_int (n_cons n_int n_nil))) n_nil)) n_nil))) rfl rfl) (x_cons (x_of n_str rfl rfl) (x_cons x_dict x_nil))) (by decide)) (by decide)) fun p3 xs3 H3 e3 n3 h3 l3 a3 => ?_
  have k3 := k2.ex e3
  refine q_asgX (K := K) (x_cat (n := 18) (m := 4) k3 rfl h3 l3 a3 (x_lst k3 (x_cons (x_of (n_tup (n_cons n_int (n_cons (n_tup (n_cons (n_lst (n_cons n_int (n_cons n_int n_nil))) n_nil)) n_nil))) rfl rfl)
    (x_cons (x_of (n_tup (n_cons n_int (n_cons (n_tup n_nil) (n_cons (n_tup n_nil) n_nil)))) rfl rfl) (x_cons (x_of (n_tup (n_cons n_int (n_cons n_non n_nil))) rfl rfl) (x_cons (x_of (n_tup (n_cons n_str (n_cons (n_tup n_nil) n_nil))) rfl rfl) x_nil)))) (by decide)) (by decide)) fun p4 xs4 H4 e4 n4 h4 l4 a4 => ?_
  have d4 := Drw.of hS (((e1.trans e2).trans e3).trans e4)
  refine ⟨_, rfl, take_of (m := 22) d4.s (ea_cons (ev_var rfl) (ea_cons ev_c ea_nil)) (by decide) (by decide) fun r H5 hr5 d5 => ?_⟩
  have hlt : r < xs4.length := by omega
  refine ⟨p4, xs4, (r : Int), xs4[r], rfl, rfl, sq_of (d5.b p4 _ n4 h4), atI_nat (List.getElem?_eq_getElem hlt), ?_⟩
  exact k _ H5 (d4.trans d5) (((a4 _ (List.getElem_mem hlt)).ex (dl_exB d5.b)).ex dl_sub)
end
end Wb
/-! the law's same, of equal data -/
namespace Wb
open PySem PySem.Spec PyProof.Rows L2 Evl Wm RZ
/-- ints in tuples and lists, n deep -/
def okD : Nat → PyData → Bool
  | _, .int _ => true
  | n + 1, .tuple ds => decide (ds.length ≤ 1000) && ds.all (okD n)
  | n + 1, .list ds => decide (ds.length ≤ 1000) && ds.all (okD n)
  | _, _ => false
def spS (K : PySem.W.Frag) : Nat → Sp
  | 0 => fun _ _ _ _ => False
  | n + 1 => fun vs H Q _ => ∃ u v d, vs = [u, v] ∧ Dp K H u d ∧ Dp K H v d ∧ okD n d = true ∧ RetV (.bl true) H Q
theorem ok_int (n : Nat) (i : Int) : okD n (.int i) = true := by cases n <;> rw [okD]
theorem ok_tie (n : Nat) (t : Tie) : okD (n + 1) (tieD t) = true := by
  unfold tieD
  rw [okD]
  simp only [List.all_cons, List.all_nil, Bool.and_true, ok_int]
  rfl
theorem ok_ties {n : Nat} {ts : List Tie} (h : ts.length ≤ 1000) : okD (n + 2) (tiesD ts) = true := by
  unfold tiesD
  rw [okD, Bool.and_eq_true]
  refine ⟨decide_eq_true (by rw [List.length_map]; exact h), ?_⟩
  rw [List.all_map, List.all_eq_true]
  exact fun t _ => ok_tie n t
theorem ok_web {m : Nat} {ts : List Tie} (h : ts.length ≤ 1000) : okD 3 (webD m ts) = true := by
  unfold webD
  rw [okD]
  simp only [List.all_cons, List.all_nil, Bool.and_true]
  rw [ok_ties (n := 0) h]
  rfl
section
variable {P : Program} {w : World} {K : PySem.W.Frag} {mg : Str → Option Value} {base : Heap}
theorem kit_lst : ∀ d, kitB (tyN d) "list" = some (match d with | .list _ => true | _ => false)
  | .none => (by decide +kernel : kitB "NoneType" "list" = some false)
  | .bool _ => (by decide +kernel : kitB "bool" "list" = some false)
  | .int _ => (by decide +kernel : kitB "int" "list" = some false)
  | .str _ => (by decide +kernel : kitB "str" "list" = some false)
  | .list _ => (by decide +kernel : kitB "list" "list" = some true)
  | .tuple _ => (by decide +kernel : kitB "tuple" "list" = some false)
  | .dict _ => (by decide +kernel : kitB "dict" "list" = some false)
def isLstN : PyData → Bool
  | .list _ => true
  | _ => false
theorem kit_lst2 (d : PyData) : kitB (tyN d) "list" = some (isLstN d) := by
  rw [kit_lst]
  cases d <;> rfl
/-- isinstance(x, (tuple, list)) -/
theorem ev_isiTL {σ : St} {H : Hp} {ta : TE} {v : V} {d : PyData} (ha : Ev ta σ H v) (hd : Dp K H v d) : Ev (tCB (rIsiT K) (tCons ta (tCons (tTup (tCons (tC (.ty "tuple")) (tCons (tC (.ty "list")) tNil))) tNil))) σ H (.bl (isTupN d || isLstN d)) := fun H1 e Q q =>
  ha H1 e _ fun H2 e2 => ⟨sz_of (by show 2 ≤ 100000; decide), fun p hp => by
    have e3 : Ex H2 (upd H2 p (.tup [.ty "tuple", .ty "list"])) := Ex.new hp
    refine ⟨v, p, _, _, [.type "tuple", .type "list"], isTupN d || isLstN d, rfl, upd_same, .cons (.ty "tuple") (.cons (.ty "list") .nil), dp_ty (dp_ex ((e.trans e2).trans e3) d v hd), ?_, q _ (e2.trans e3)⟩
    refine kitAny_cons (kit_ty (kit_tup d)) (fun h => ?_) fun h => by rw [h]; rfl
    rw [h, Bool.false_or]
    exact kitAny_cons (kit_ty (kit_lst2 d)) (fun h => by rw [h]; rfl) fun h => h⟩
abbrev nSame : List Str := ["_law_found", "_law_due", "_law_one", "_law_other"]
theorem sc_same : FnScope nSame ["_law_found", "_law_due"] (C8.fnScope (topS 42)) := C8.fnScope_by (by decide +kernel)
/-- all of new Trues -/
theorem all_true (n : Nat) : ((List.replicate n true).all id) = true := by
  rw [List.all_eq_true]
  intro b hb
  rw [(List.mem_replicate.mp hb).2]
  rfl
theorem rep_snoc (n : Nat) : (List.replicate (n + 1) true).map V.bl = (List.replicate n true).map V.bl ++ [.bl true] := by
  rw [List.replicate_succ', List.map_append]
  rfl
/-- [same(x, y) for x, y in zip(a, b)] -/
theorem el_same {σ : St} {H : Hp} {n : Nat} {a b : Addr} {u v : V} {xs ys : List V} {ds : List PyData} (hσ : σ = [some u, some v, none, none]) (hu : u = .ref a) (hv : v = .ref b) (h : (SqL K H a xs ∧ SqL K H b ys) ∨ (SqT K H a xs ∧ SqT K H b ys)) (hx : DpAll K H xs ds) (hy : DpAll K H ys ds) (hl : ds.length ≤ 1000) (hd : ds.all (okD n) = true) :
    EvL (tLc (iZipA K (tCons (tVar 0) (tCons (tVar 1) tNil))) (gTup K 2 (gCons (gName 2) (gCons (gName 3) gNil))) tYes (tCall (spS K (n + 1)) [] C8.E0 (tCons (tVar 2) (tCons (tVar 3) tNil))) [2, 3]) σ H ((List.replicate ds.length true).map V.bl) := fun H0 e0 Q q => by
  subst hσ hu hv
  have hlx := dpAll_len hx
  have hly := dpAll_len hy
  have hn : ds.length = min xs.length ys.length := by omega
  have step : ∀ (i : Nat) (H' : Hp) (D : Addr) (T : Addr) (x z : V), Ex H0 H' → H0 D = none → H' D = some (.lst ((List.replicate i true).map V.bl)) → H' T = none → xs[i]? = some x → ys[i]? = some z → i < ds.length →
      gTup K 2 (gCons (gName 2) (gCons (gName 3) gNil)) (.ref T) (wipe [some (.ref a), some (.ref b), none, none] [2, 3]) (upd H' T (.tup [x, z])) fun σ2 H2 => wipe σ2 [2, 3] = wipe [some (.ref a), some (.ref b), none, none] [2, 3] ∧ tYes σ2 H2 fun b0 H3 =>
        if b0 = true then tCall (spS K (n + 1)) [] C8.E0 (tCons (tVar 2) (tCons (tVar 3) tNil)) σ2 H3 fun y H4 => ∃ acc, H4 D = some (.lst acc) ∧ acc.length < sizeLine ∧ (Ex H0 (upd H4 D (.lst (acc ++ [y]))) ∧ (upd H4 D (.lst (acc ++ [y]))) D = some (.lst ((List.replicate (i + 1) true).map V.bl))) else (Ex H0 H3 ∧ H3 D = some (.lst ((List.replicate (i + 1) true).map V.bl))) := fun i H' D T x z p1 hD p2 hT f1 f2 hi => by
    have eT : Ex H' (upd H' T (.tup [x, z])) := Ex.new hT
    have e1 := (e0.trans p1).trans eT
    obtain ⟨d, hd1, hd2⟩ := dpAll_get hx f1
    obtain ⟨d', hd3, hd4⟩ := dpAll_get hy f2
    have hdd : d' = d := Option.some.inj (hd3.symm.trans hd1)
    subst hdd
    refine ⟨T, _, rfl, st_of upd_same, rfl, _, _, rfl, _, _, rfl, rfl, rfl, yes_if ?_⟩
    refine ⟨_, rfl, _, rfl, x, z, d', rfl, dp_ex e1 _ _ hd2, dp_ex e1 _ _ hd4, ?_, fun H4 e4 => ?_⟩
    · rw [List.all_eq_true] at hd
      exact hd d' (List.mem_of_getElem? hd1)
    · refine ⟨_, e4 D _ (eT D _ p2), by rw [List.length_map, List.length_replicate]; exact sz_lt (by omega), Ex.mut ((p1.trans eT).trans e4) hD, ?_⟩
      rw [upd_same, rep_snoc]
  rcases h with ⟨h1, h2⟩ | ⟨h1, h2⟩
  · refine ⟨_, rfl, _, rfl, a, b, xs, ys, rfl, .inl ⟨ex_l e0 h1, ex_l e0 h2, fun D hD => ?_⟩⟩
    refine lc_it (walk_zip (K := K) (a := a) (b := b) hn) (fun i H' => Ex H0 H' ∧ H' D = some (.lst ((List.replicate i true).map V.bl))) ⟨Ex.new hD, upd_same⟩ (fun i H' _ p => ⟨ex_l (e0.trans p.1) h1, ex_l (e0.trans p.1) h2⟩) (fun i v H' H'' hi p y => ?_) fun H' p => q D H' hD p.1 p.2
    obtain ⟨T, x, z, rfl, hT, rfl, f1, f2⟩ := y
    exact step i H' D T x z p.1 hD p.2 hT f1 f2 hi
  · refine ⟨_, rfl, _, rfl, a, b, xs, ys, rfl, .inr ⟨ex_t e0 h1, ex_t e0 h2, fun D hD => ?_⟩⟩
    refine lc_it (walk_zipT (K := K) (a := a) (b := b) hn) (fun i H' => Ex H0 H' ∧ H' D = some (.lst ((List.replicate i true).map V.bl))) ⟨Ex.new hD, upd_same⟩ (fun i H' _ p => ⟨ex_t (e0.trans p.1) h1, ex_t (e0.trans p.1) h2⟩) (fun i v H' H'' hi p y => ?_) fun H' p => q D H' hD p.1 p.2
    obtain ⟨T, x, z, rfl, hT, rfl, f1, f2⟩ := y
    exact step i H' D T x z p.1 hD p.2 hT f1 f2 hi
/-- len of a list or a tuple -/
theorem ev_lenA {σ : St} {H : Hp} {ta : TE} {p : Addr} {xs : List V} (ha : Ev ta σ H (.ref p)) (h : SqL K H p xs ∨ SqT K H p xs) : Ev (tCB (rLenS K) (tCons ta tNil)) σ H (.int (xs.length : Int)) := fun H1 e Q q =>
  ha H1 e _ fun H2 e2 => ⟨p, xs, rfl, h.imp (ex_l (e.trans e2)) (ex_t (e.trans e2)), q H2 e2⟩
theorem seq_inv {d : PyData} {v : V} {H : Hp} {ds : List PyData} (h : d = .tuple ds ∨ d = .list ds) (hd : Dp K H v d) : ∃ a xs, v = .ref a ∧ DpAll K H xs ds ∧ ((d = .list ds ∧ SqL K H a xs) ∨ (d = .tuple ds ∧ SqT K H a xs)) := by
  rcases h with rfl | rfl
  · obtain ⟨a, xs, e, hs, ha⟩ := tup_inv hd
    exact ⟨a, xs, e, ha, .inr ⟨rfl, hs⟩⟩
  · obtain ⟨a, xs, e, hs, ha⟩ := lst_inv hd
    exact ⟨a, xs, e, ha, .inl ⟨rfl, hs⟩⟩
theorem sc_bl {a b : Bool} (h : a = b) : (!decide (V.bl a = V.bl b)) = false := by
  rw [h]
  simp
theorem shaped_int (i : Int) : SeqAt.shaped (.int i) = true := by
  unfold SeqAt.shaped
  rw [PyData.canLay0, PyData.depth]
  rfl
theorem cal_same (D : DefOk K mg "_law_same" (topS 42) ["_law_found", "_law_due"]) (Z : Blt mg) : ∀ n, C8.Cal P w K mg base n "_law_same" (spS K n) []
  | 0 => by
    obtain ⟨f, fd, F, b⟩ := D.ex
    exact ⟨f, fd, ["_law_found", "_law_due"], [], ⟨fun vs H Q E h => h.elim, fun A outer s H args us vs Q E _ _ _ _ h => h.elim⟩, F.mgf, F.kp, b, .nil⟩
  | n + 1 => by
    have c := cal_same D Z n
    refine cal_of D sc_same (fun vs H Q E h => ?_) (fun f cdv A outer s H vs Q E hr h => ?_)
    · obtain ⟨u, v, d, rfl, _⟩ := h
      rfl
    obtain ⟨u, v, d, rfl, hu, hv, hd, k⟩ := h
    refine ⟨_, pss_cons (ps_if (pt_val (pe_callB call_isiT (by rfl) Z.isi bt_isi (pa_cons (pv 1) (pa_cons (pe_tup (pa_cons (pe_tyn Z.tup bt_tup) (pa_cons (pe_tyn Z.lst bt_lst) pa_nil))) pa_nil))))
      (pss_cons (ps_if (PW.pt (pw_or (pt_cmpR op_ne (pe_isi Z (pv 0) (pe_tyn Z.tup bt_tup)) (pe_isi Z (pv 1) (pe_tyn Z.tup bt_tup)) (nomark _)) (pw_or1 (pt_cmpR op_ne (pe_isi Z (pv 0) (pe_tyn Z.lst bt_lst)) (pe_isi Z (pv 1) (pe_tyn Z.lst bt_lst)) (nomark _)))))
        (pss_one (ps_ret pe_bl)) pss_nil)
      (pss_cons (ps_if (pt_cmpR op_ne (pe_len Z (pv 0)) (pe_len Z (pv 1)) (nomark _)) (pss_one (ps_ret pe_bl)) pss_nil)
      (pss_one (ps_ret (pe_callB (cr_all rfl) (by rfl) Z.all bt_all (pa_cons (pe_lc (own := [("_law_one", 2), ("_law_other", 3)]) (g := gTup K 2 (gCons (gName 2) (gCons (gName 3) gNil))) (tt := tYes) (te := tCall (spS K n) [] C8.E0 (tCons (tVar 2) (tCons (tVar 3) tNil))) rfl sc_same.nd (pi_zipA (by rfl) Z.zip (pa_cons (pv 0) (pa_cons (pv 1) pa_nil)))
        (blkOk_by (N := nSame) (sc := C8.fnScope (topS 42)) (by decide +kernel)) (fun _ _ _ _ _ => pg_tup rfl (pgs_cons (pg_name (i := 2) sc_same.nd rfl (Or.inl rfl)) (pgs_cons (pg_name (i := 3) sc_same.nd rfl (Or.inl rfl)) pgs_nil))) (fun _ _ _ _ _ => pts_nil)
        (fun _ _ _ _ _ => C8.pe_c c hr (Nat.le_refl _) (by rfl) (pa_cons (pv 2) (pa_cons (pv 3) pa_nil)))) pa_nil)))))) pss_nil)
      (pss_one (ps_ret (pe_and (pe_cmpR (op_eqD hr.units) (pv 0) (pv 1) (nomark _)) (pe_one (pe_cmpR op_eq (pe_isi Z (pv 0) (pe_tyn Z.boo bt_boo)) (pe_isi Z (pv 1) (pe_tyn Z.boo bt_boo)) (nomark _)))))), ?_⟩
    have vu : ∀ H1, Ex H H1 → Dp K H1 u d := fun H1 e => dp_ex e _ _ hu
    have vv : ∀ H1, Ex H H1 → Dp K H1 v d := fun H1 e => dp_ex e _ _ hv
    refine q_when (et_B (ev_isiTL (ev_var rfl) hv)) (fun hb H1 e1 => ?_) (fun hb H1 e1 => ?_)
    · obtain ⟨ds, hds⟩ : ∃ ds, d = .tuple ds ∨ d = .list ds := by
        cases d with
        | tuple ds => exact ⟨ds, .inl rfl⟩
        | list ds => exact ⟨ds, .inr rfl⟩
        | none => cases hb
        | bool _ => cases hb
        | int _ => cases hb
        | str _ => cases hb
        | dict _ => cases hb
      obtain ⟨m, rfl⟩ : ∃ m, n = m + 1 := by
        cases n with
        | zero => rcases hds with rfl | rfl <;> (rw [okD] at hd; cases hd; all_goals (intros; simp_all))
        | succ m => exact ⟨m, rfl⟩
      obtain ⟨hl, hall⟩ : ds.length ≤ 1000 ∧ ds.all (okD m) = true := by
        rcases hds with rfl | rfl <;> (rw [okD, Bool.and_eq_true] at hd; exact ⟨of_decide_eq_true hd.1, hd.2⟩)
      obtain ⟨a, xs, rfl, hxa, sa⟩ := seq_inv hds (vu H1 e1)
      obtain ⟨b, ys, rfl, hyb, sb⟩ := seq_inv hds (vv H1 e1)
      have both : (SqL K H1 a xs ∧ SqL K H1 b ys) ∨ (SqT K H1 a xs ∧ SqT K H1 b ys) := by
        rcases sa with ⟨z, s1⟩ | ⟨z, s1⟩ <;> rcases sb with ⟨z2, s2⟩ | ⟨z2, s2⟩
        · exact .inl ⟨s1, s2⟩
        · rw [z] at z2
          cases z2
        · rw [z] at z2
          cases z2
        · exact .inr ⟨s1, s2⟩
      have one : SqL K H1 a xs ∨ SqT K H1 a xs := both.imp (·.1) (·.1)
      have two : SqL K H1 b ys ∨ SqT K H1 b ys := both.imp (·.2) (·.2)
      have hlen : xs.length = ys.length := by rw [dpAll_len hxa, dpAll_len hyb]
      refine q_when (b := false) (et_is (et_or (a := false) (et_is (et_test (ev_op (ev_isi (ev_var rfl) (vu H1 e1) (kit_tup d)) (ev_isi (ev_var rfl) (vv H1 e1) (kit_tup d)) (rv_ne rfl))) (sc_bl rfl)) fun _ => et_is (et_test (ev_op (ev_isi (ev_var rfl) (vu H1 e1) (kit_lst2 d)) (ev_isi (ev_var rfl) (vv H1 e1) (kit_lst2 d)) (rv_ne rfl))) (sc_bl rfl)) rfl) (fun z => nomatch z) (fun _ H2 e2 => ?_)
      have two' := two.imp (ex_l e2) (ex_t e2)
      have one' := one.imp (ex_l e2) (ex_t e2)
      refine q_when (b := false) (et_is (et_test (ev_op (ev_lenA (ev_var rfl) one') (ev_lenA (ev_var rfl) two') (rv_ne rfl))) (by rw [hlen]; simp)) (fun z => nomatch z) (fun _ H3 e3 => ?_)
      have e23 := e2.trans e3
      have both' : (SqL K H3 a xs ∧ SqL K H3 b ys) ∨ (SqT K H3 a xs ∧ SqT K H3 b ys) := both.imp (fun z => ⟨ex_l e23 z.1, ex_l e23 z.2⟩) fun z => ⟨ex_t e23 z.1, ex_t e23 z.2⟩
      refine s_ret (v := .bl true) (ev_is (ev_all (el_same (n := m) rfl rfl rfl both' (dpAll_ex e23 _ _ hxa) (dpAll_ex e23 _ _ hyb) hl hall)) (by rw [all_true])) fun H4 e4 => k H4 ((e1.trans e23).trans e4)
    · obtain ⟨i, rfl⟩ : ∃ i, d = .int i := by
        cases d with
        | int i => exact ⟨i, rfl⟩
        | tuple ds => cases hb
        | list ds => cases hb
        | none => (cases n <;> (rw [okD] at hd; cases hd; all_goals (intros; simp_all)))
        | bool _ => (cases n <;> (rw [okD] at hd; cases hd; all_goals (intros; simp_all)))
        | str _ => (cases n <;> (rw [okD] at hd; cases hd; all_goals (intros; simp_all)))
        | dict _ => (cases n <;> (rw [okD] at hd; cases hd; all_goals (intros; simp_all)))
      have ei : PyData.eqv (.int i) (.int i) = true := by simp [PyData.eqv]
      refine s_ret (v := .bl true) (ev_is (ev_andV (a := true) (b := true) (fun H2 e2 Q q => ⟨u, rfl, v, rfl, .int i, .int i, vu H2 (e1.trans e2), vv H2 (e1.trans e2), shaped_int i, shaped_int i, by rw [ei]; exact q H2 (Ex.refl H2)⟩) fun _ => ev_is (ev_op (ev_isi (ev_var rfl) (vu H1 e1) (kit_bool (.int i))) (ev_isi (ev_var rfl) (vv H1 e1) (kit_bool (.int i))) (rv_eq rfl)) (congrArg V.bl (by simp))) rfl) fun H4 e4 => k H4 (e1.trans e4)
end
end Wb
/-! refused, too great -/
namespace Wb
open PySem PySem.Spec PyProof.Rows L2 Evl Wm RZ LamX
abbrev nm13 : List Str := ["NoWeb", "NoPlace", "NoPlaces", "NoSharing", "NoRoot", "NoNumber", "NotJoined", "NoTie", "NoText", "NoLine", "NoDeed", "TooGreat", "NoMap"]
/-- the exception classes in the order of the marks, their base -/
structure Cls13 (mg : Str → Option Value) (cs : Nat → Addr) (CE : Addr) : Prop where
  g : ∀ i x, nm13[i]? = some x → mg x = some (.ref (cs i))
  e : mg "WebError" = some (.ref CE)
/-- an exception of the class D, the j-th of them -/
structure RefK (K : PySem.W.Frag) (cs : Nat → Addr) (CE D : Addr) (j : Nat) : Prop where
  c : ExcD K D
  x : PySem.W.exmOne K (.ref D) (.ref CE) = some true
  s : ∀ i, i < 13 → PySem.W.kitOne K (.ref D) (.ref (cs i)) = some (decide (i = j))
  v : PySem.W.kitOne K (.ref D) (.type "ValueError") = some true
/-- called in H, it raises D -/
def Raises (tl : TLam) (H : Hp) (D : Addr) : Prop := ∀ H1, Ex H H1 → ∀ (E : XK) (Q : VK), (∀ d H2, Ex H1 H2 → DictAt H2 d → E (.ref D) d H2) → tl E H1 Q
def bs13 (j : Nat) : List Bool := (List.range 13).map fun i => decide (i = j)
theorem given13 : ∀ j, j < 13 → given 13 (fun i => decide (i = j)) (fun i => V.int (i : Int)) = [V.int (j : Int)] := by decide
theorem bs_at {i j : Nat} (h : i < 13) : ((bs13 j).map V.bl)[i]? = some (.bl (decide (i = j))) := by
  unfold bs13
  rw [List.getElem?_map, List.getElem?_map, List.getElem?_range h]
  rfl
def TTref (K : PySem.W.Frag) (cs : Nat → Addr) (CE : Addr) : TLam → List V → Hp → VK → Prop := fun tl vs H Q => vs = [] ∧ ∃ D j, RefK K cs CE D j ∧ j < 13 ∧ Raises tl H D ∧ ∀ p H2, H p = none → Ex H H2 → H2 p = some (.lst [.int (j : Int)]) → Q (.ref p) H2
section
variable {K : PySem.W.Frag} {σ : St} {H : Hp} {ta tc : TE}
/-- isinstance(error, C) -/
theorem ev_isK {a D : Addr} {d : Option Addr} {c : V} {cv : Value} {b : Bool} (ha : Ev ta σ H (.ref a)) (h : H a = some (ExcK a (.ref D) d)) (hd : DictAt H d) (C : ExcD K D) (hc : ∀ u, RelV c u → u = cv) (e : PySem.W.kitOne K (.ref D) cv = some b) :
    Ev (tCB (rIsK K) (tCons ta (tCons (tC c) tNil))) σ H (.bl b) := fun H1 e1 Q q => ha H1 e1 _ fun H2 e2 => ⟨a, D, d, c, cv, b, rfl, (e1.trans e2) a _ h, by
    rcases hd with h0 | ⟨dd, fs, h1, h2⟩
    · exact .inl h0
    · exact .inr ⟨dd, fs, h1, (e1.trans e2) dd _ h2⟩, C, hc, e, q H2 e2⟩
theorem ex_dict {H H' : Hp} {d : Option Addr} (e : Ex H H') (h : DictAt H d) : DictAt H' d := by
  rcases h with h0 | ⟨dd, fs, h1, h2⟩
  · exact .inl h0
  · exact .inr ⟨dd, fs, h1, e dd _ h2⟩
def boolD (bs : List Bool) : List PyData := bs.map PyData.bool
theorem dp_bools : ∀ {bs : List Bool} {xs : List V} {H : Hp}, DpAll K H xs (boolD bs) → xs = bs.map V.bl
  | [], _, _, h => by
    cases h
    rfl
  | b :: bs, _, _, h => by
    cases h with
    | cons h1 h2 =>
      cases h1
      rw [dp_bools h2]
      rfl
theorem evd_bl {te : TE} {b : Bool} (h : Ev te σ H (.bl b)) : EvD K te σ H (.bool b) := evd_of h (.bl b)
end
section
variable {P : Program} {w : World} {K : PySem.W.Frag} {mg : Str → Option Value} {base : Heap}
abbrev nRef : List Str := ["_law_call", "_law_error", "e", "_law_marks", "_law_k"]
theorem sc_ref : FnScope nRef ["_law_call"] (C8.fnScope (topS 41)) := C8.fnScope_by (by decide +kernel)
theorem cls_rel {C : Addr} : ∀ u, RelV (.ref C) u → u = .ref C := fun u h => h
theorem ty_rel {n : String} : ∀ u, RelV (.ty n) u → u = .type n := fun u h => h
theorem lam_ref {g : Addr} {fd : FuncData} {cs : Nat → Addr} {CE : Addr} {kk : Nat} (F : C8.Fun K "_law_refused" "_law_refused" (topS 41) g fd) (b : Binds K fd ["_law_call"] []) (Z : Blt mg) (G : Cls13 mg cs CE) :
    LamFn P w K mg base g (kk + 1) kk (TTref K cs CE) := by
  refine lamFn_of F b sc_ref (fun tl vs H Q h => by rw [h.1]; rfl) (fun cdv A outer s H f vs Q tl hr SL h => ?_)
  obtain ⟨rfl, D, j, RK, hj, hR, k⟩ := h
  refine ⟨_, pss_cons (ps_set (i := 1) sc_ref.nd rfl (Or.inl rfl) pe_non)
    (pss_cons (ps_try_keep (i := 2) (j := 1) (tb := fun W => tDrop (tLamCall 0 f tl W)) (Wout := fun _ _ _ _ => False) rfl rfl rfl sc_ref.nd rfl rfl rfl rfl (by show 2 < 5; decide) ⟨rfl, by decide, Or.inl G.e⟩ takes0
      (fun W pn xe tk hp => pss_one (ps_expr (pe_lam rfl SL hr tk rfl (Or.inl rfl)))))
    (pss_cons (ps_set (i := 3) sc_ref.nd rfl (Or.inr rfl) (pe_lst (pa_cons (pe_callB call_isK (by rfl) Z.isi bt_isi (pa_cons (pv 1) (pa_cons (C8.pe_gc (v := .ref (cs 0)) (by rfl) ⟨_, G.g 0 _ rfl, rfl⟩) pa_nil)))
      (pa_cons (pe_callB call_isK (by rfl) Z.isi bt_isi (pa_cons (pv 1) (pa_cons (C8.pe_gc (v := .ref (cs 1)) (by rfl) ⟨_, G.g 1 _ rfl, rfl⟩) pa_nil)))
      (pa_cons (pe_callB call_isK (by rfl) Z.isi bt_isi (pa_cons (pv 1) (pa_cons (C8.pe_gc (v := .ref (cs 2)) (by rfl) ⟨_, G.g 2 _ rfl, rfl⟩) pa_nil))) pa_nil)))))
    (pss_cons (ps_set (i := 3) sc_ref.nd rfl (Or.inr rfl) (pe_op op_cat (pv 3) (pe_lst (pa_cons (pe_callB call_isK (by rfl) Z.isi bt_isi (pa_cons (pv 1) (pa_cons (C8.pe_gc (v := .ref (cs 3)) (by rfl) ⟨_, G.g 3 _ rfl, rfl⟩) pa_nil)))
      (pa_cons (pe_callB call_isK (by rfl) Z.isi bt_isi (pa_cons (pv 1) (pa_cons (C8.pe_gc (v := .ref (cs 4)) (by rfl) ⟨_, G.g 4 _ rfl, rfl⟩) pa_nil)))
      (pa_cons (pe_callB call_isK (by rfl) Z.isi bt_isi (pa_cons (pv 1) (pa_cons (C8.pe_gc (v := .ref (cs 5)) (by rfl) ⟨_, G.g 5 _ rfl, rfl⟩) pa_nil))) pa_nil))))))
    (pss_cons (ps_set (i := 3) sc_ref.nd rfl (Or.inr rfl) (pe_op op_cat (pv 3) (pe_lst (pa_cons (pe_callB call_isK (by rfl) Z.isi bt_isi (pa_cons (pv 1) (pa_cons (C8.pe_gc (v := .ref (cs 6)) (by rfl) ⟨_, G.g 6 _ rfl, rfl⟩) pa_nil)))
      (pa_cons (pe_callB call_isK (by rfl) Z.isi bt_isi (pa_cons (pv 1) (pa_cons (C8.pe_gc (v := .ref (cs 7)) (by rfl) ⟨_, G.g 7 _ rfl, rfl⟩) pa_nil)))
      (pa_cons (pe_callB call_isK (by rfl) Z.isi bt_isi (pa_cons (pv 1) (pa_cons (C8.pe_gc (v := .ref (cs 8)) (by rfl) ⟨_, G.g 8 _ rfl, rfl⟩) pa_nil))) pa_nil))))))
    (pss_cons (ps_set (i := 3) sc_ref.nd rfl (Or.inr rfl) (pe_op op_cat (pv 3) (pe_lst (pa_cons (pe_callB call_isK (by rfl) Z.isi bt_isi (pa_cons (pv 1) (pa_cons (C8.pe_gc (v := .ref (cs 9)) (by rfl) ⟨_, G.g 9 _ rfl, rfl⟩) pa_nil)))
      (pa_cons (pe_callB call_isK (by rfl) Z.isi bt_isi (pa_cons (pv 1) (pa_cons (C8.pe_gc (v := .ref (cs 10)) (by rfl) ⟨_, G.g 10 _ rfl, rfl⟩) pa_nil)))
      (pa_cons (pe_callB call_isK (by rfl) Z.isi bt_isi (pa_cons (pv 1) (pa_cons (C8.pe_gc (v := .ref (cs 11)) (by rfl) ⟨_, G.g 11 _ rfl, rfl⟩) pa_nil))) pa_nil))))))
    (pss_cons (ps_set (i := 3) sc_ref.nd rfl (Or.inr rfl) (pe_op op_cat (pv 3) (pe_lst (pa_cons (pe_callB call_isK (by rfl) Z.isi bt_isi (pa_cons (pv 1) (pa_cons (C8.pe_gc (v := .ref (cs 12)) (by rfl) ⟨_, G.g 12 _ rfl, rfl⟩) pa_nil))) pa_nil))))
    (pss_cons (ps_if (pt_not (pt_val (pe_callB call_isK (by rfl) Z.isi bt_isi (pa_cons (pv 1) (pa_cons (pe_tyn Z.val bt_val) pa_nil))))) (pss_one (ps_ret pe_non)) pss_nil)
    (pss_one (ps_ret (pe_lc (own := [("_law_k", 4)]) (g := gName 4) (tt := tB (tOp (rIxL K) (tVar 3) (tVar 4))) (te := tVar 4) rfl sc_ref.nd (pi_range1 (by rfl) Z.ran (pa_cons pe_int pa_nil)) (blkOk_by (N := nRef) (sc := C8.fnScope (topS 41)) (by decide +kernel))
      (fun _ _ _ _ _ => pg_name (i := 4) sc_ref.nd rfl (Or.inl rfl)) (fun _ _ _ _ _ => pts_one (pt_val (pe_ix ix_list (pv 3) (pv 4) (fun _ _ => rfl)))) (fun _ _ _ _ _ => pv 4))))))))))), ?_⟩
  refine q_asg (v := .non) ev_c fun H1 e1 => ?_
  refine ⟨rfl, hR H1 e1 _ _ fun d H2 e2 hd => ⟨true, RK.x, fun _ a ha => ?_, fun z => nomatch z⟩⟩
  have e3 : Ex H2 (upd H2 a (ExcK a (.ref D) d)) := Ex.new ha
  have hd3 := ex_dict e3 hd
  have ha3 : (upd H2 a (ExcK a (.ref D) d)) a = some (ExcK a (.ref D) d) := upd_same
  have e03 := (e1.trans e2).trans e3
  generalize upd H2 a (ExcK a (.ref D) d) = H3 at e3 hd3 ha3 e03
  have is : ∀ (σ : L2.St) (H' : Hp) (i : Nat), σ[1]? = some (some (.ref a)) → Ex H3 H' → i < 13 → EvD K (tCB (rIsK K) (tCons (tVar 1) (tCons (tC (.ref (cs i))) tNil))) σ H' (.bool (decide (i = j))) := fun σ H' i hσ e hi => evd_bl (ev_isK (ev_var hσ) (e a _ ha3) (ex_dict e hd3) RK.c cls_rel (RK.s i hi))
  have three : ∀ (σ : L2.St) (H' : Hp) (i k l : Nat), σ[1]? = some (some (.ref a)) → Ex H3 H' → i < 13 → k < 13 → l < 13 → EvDL K (tLst (tCons (tCB (rIsK K) (tCons (tVar 1) (tCons (tC (.ref (cs i))) tNil))) (tCons (tCB (rIsK K) (tCons (tVar 1) (tCons (tC (.ref (cs k))) tNil))) (tCons (tCB (rIsK K) (tCons (tVar 1) (tCons (tC (.ref (cs l))) tNil))) tNil)))) σ H' [.bool (decide (i = j)), .bool (decide (k = j)), .bool (decide (l = j))] :=
    fun σ H' i k l hσ e hi hk hl => evd_lst (eda_cons (is σ H' i hσ e hi) (eda_cons (is σ H' k hσ e hk) (eda_cons (is σ H' l hσ e hl) eda_nil))) (by show 3 ≤ 100000; decide)
  refine q_asgDL (three _ H3 0 1 2 rfl (Ex.refl _) (by decide) (by decide) (by decide)) fun p4 x4 H4 _ e4 h4 a4 => ?_
  refine q_asgDL (evdl_cat (evDl_var rfl h4 a4) (EvDL.l (three _ H4 3 4 5 rfl e4 (by decide) (by decide) (by decide))) (by show 3 + 3 ≤ 100000; decide)) fun p5 x5 H5 _ e5 h5 a5 => ?_
  have e35 := e4.trans e5
  refine q_asgDL (evdl_cat (evDl_var rfl h5 a5) (EvDL.l (three _ H5 6 7 8 rfl e35 (by decide) (by decide) (by decide))) (by show 6 + 3 ≤ 100000; decide)) fun p6 x6 H6 _ e6 h6 a6 => ?_
  have e36 := e35.trans e6
  refine q_asgDL (evdl_cat (evDl_var rfl h6 a6) (EvDL.l (three _ H6 9 10 11 rfl e36 (by decide) (by decide) (by decide))) (by show 9 + 3 ≤ 100000; decide)) fun p7 x7 H7 _ e7 h7 a7 => ?_
  have e37 := e36.trans e7
  refine q_asgDL (evdl_cat (evDl_var rfl h7 a7) (EvDL.l (evd_lst (eda_cons (is _ H7 12 rfl e37 (by decide)) eda_nil) (by show 1 ≤ 100000; decide))) (by show 12 + 1 ≤ 100000; decide)) fun p8 x8 H8 _ e8 h8 a8 => ?_
  have e38 := e37.trans e8
  have hx8 : x8 = (bs13 j).map V.bl := dp_bools (bs := bs13 j) a8
  subst hx8
  refine q_when (b := false) (et_not (et_B (ev_isK (ev_var rfl) (e38 a _ ha3) (ex_dict e38 hd3) RK.c ty_rel RK.v))) (fun z => nomatch z) (fun _ H9 e9 => ?_)
  have h9 := e9 p8 _ h8
  refine s_retL (el_lcR1 (n := 13) (vs := [4]) (fun i => decide (i = j)) (fun i => .int (i : Int)) (ea_cons ev_c ea_nil) (by decide) (fun _ => rfl) (fun i H10 e10 hi => et_B (ev_ixL (j := i) (ev_var rfl) (sq_of (e10 p8 _ h9)) (ev_var rfl) (bs_at (by omega)))) (fun i H10 e10 hi _ => ev_var rfl)) fun p H10 hp e10 h10 => ?_
  have e39 := e03.trans (e38.trans e9)
  refine k p H10 (fresh_back e39 hp) (e39.trans e10) ?_
  rw [h10]
  exact congrArg (fun z => some (HO.lst z)) (given13 j hj)
end
end Wb
/-! too great -/
namespace Wb
open PySem PySem.Spec PyProof.Rows L2 Evl Wm RZ LamX
def TTgreat (CT : Addr) : TLam → List V → Hp → VK → Prop := fun tl vs H Q => ∃ many most : Int, vs = [.int many, .int most] ∧
  (∀ H1, Ex H H1 → ∀ (E : XK) (Q : VK), (∀ dd H2, Ex H1 H2 → H1 dd = none → H2 dd = some (.xd (tooFs many most)) → E (.ref CT) (some dd) H2) → tl E H1 Q) ∧ RetV (.bl true) H Q
section
variable {K : PySem.W.Frag} {σ : St} {H : Hp} {ta te : TE} {ds : List PyData}
theorem ev_xk {a D dd : Addr} {fs : List (Str × V)} {f : Str} {v : V} (ha : Ev te σ H (.ref a)) (h : H a = some (ExcK a (.ref D) (some dd))) (hd : H dd = some (.xd fs)) (C : ExcD K D) (hn : PySem.W.findIn K (.ref D) f = some none) (hl : fs.lookup f = some v) :
    Ev (tXk K f te) σ H v := fun H1 e1 Q q => ha H1 e1 _ fun H2 e2 => ⟨a, D, dd, fs, v, rfl, (e1.trans e2) a _ h, (e1.trans e2) dd _ hd, C, hn, hl, q H2 e2⟩
theorem et_isN {i : Nat} {a : Addr} (h : σ[i]? = some (some (.ref a))) : EvT (tTest (tOp (fun x y H Q => y = .non ∧ Q (.bl (decide (x = .non))) H) (tVar i) (tC .non))) σ H false := fun H1 e Q q => ⟨_, h, rfl, decide (V.ref a = .non), rfl, by
  rw [show decide (V.ref a = V.non) = false from by simp]
  exact q H1 (Ex.refl H1)⟩
theorem et_ne11 {i : Nat} {f : Addr} {tl : TLam} {TT : TLam → List V → Hp → VK → Prop} (h : σ[i]? = some (some (.ref f))) (hT : ∀ H1, Ex H H1 → ∀ Q : VK, (∀ p H2, H1 p = none → Ex H1 H2 → H2 p = some (.lst [.int 11]) → Q (.ref p) H2) → TT tl [] H1 Q) :
    EvT (tTest (tOp (rNeD K) (tHandOn i f tl TT tNil) (tLst (tCons (tC (.int 11)) tNil)))) σ H false := fun H1 e Q q => ⟨h, hT H1 e _ fun p H2 hp e2 h2 =>
  el_lst (vs := [V.int 11]) (ta := tCons (tC (.int 11)) tNil) (σ := σ) (ea_cons ev_c ea_nil) (by show 1 ≤ 100000; decide) H2 (Ex.refl H2) _ fun r H6 _ e6 h6 => ⟨.list [.int 11], .list [.int 11], .lst (sq_of (e6 p _ h2)) (.cons (.int 11) .nil), .lst (sq_of h6) (.cons (.int 11) .nil), shaped_nat [11], shaped_nat [11], ⟨_, rfl, by
    have ee : PyData.eqv (.list [.int 11]) (.list [.int 11]) = true := by simp [PyData.eqv, PyData.eqvAll]
    rw [ee]
    exact q H6 (e2.trans e6)⟩⟩⟩
theorem evd_ofL (h : EvDL K te σ H ds) : EvD K te σ H (.list ds) := fun H1 e Q q => h H1 e Q fun p xs H2 _ e2 h2 ha => q (.ref p) H2 e2 (.lst (sq_of h2) ha)
end
section
variable {P : Program} {w : World} {K : PySem.W.Frag} {mg : Str → Option Value} {base : Heap}
abbrev nGreat : List Str := ["_law_call", "_law_many", "_law_most", "_law_error", "e"]
theorem sc_great : FnScope nGreat ["_law_call", "_law_many", "_law_most"] (C8.fnScope (topS 43)) := C8.fnScope_by (by decide +kernel)
theorem lam_great {g gr : Addr} {fd : FuncData} {cs : Nat → Addr} {CE CT : Addr} {kk : Nat} (F : C8.Fun K "_law_too_great" "_law_too_great" (topS 43) g fd) (b : Binds K fd ["_law_call", "_law_many", "_law_most"] []) (Z : Blt mg) (T : TooT K mg CT) (RK : RefK K cs CE CT 11) (xT : PySem.W.exmOne K (.ref CT) (.ref CT) = some true)
    (hgr : mg "_law_refused" = some (.ref gr)) (kgr : PySem.W.keepIn K (.ref gr) = true) (GR : LamFn P w K mg base gr (kk + 1) kk (TTref K cs CE)) (cS : C8.Cal P w K mg base 2 "_law_same" (spS K 2) []) (hkk : 2 ≤ kk + 1) :
    LamFn P w K mg base g (kk + 2) kk (TTgreat CT) := by
  refine lamFn_of F b sc_great (fun tl vs H Q h => ?_) (fun cdv A outer s H f vs Q tl hr SL h => ?_)
  · obtain ⟨m, n, rfl, _⟩ := h
    rfl
  obtain ⟨many, most, rfl, hR, k⟩ := h
  refine ⟨_, pss_cons (ps_set (i := 3) sc_great.nd rfl (Or.inl rfl) pe_non)
    (pss_cons (ps_try_keep (i := 4) (j := 3) (tb := fun W => tDrop (tLamCall 0 f tl W)) (Wout := fun _ _ _ _ => False) rfl rfl rfl sc_great.nd rfl rfl rfl rfl (by show 4 < 5; decide) ⟨rfl, by decide, Or.inl T.g⟩ takes0
      (fun W pn xe tk hp => pss_one (ps_expr (pe_lam rfl SL (hr.mono (Nat.le_succ kk)) tk rfl (Or.inl rfl)))))
    (pss_cons (ps_if (PW.pt (pw_or (pt_cmpR op_isN (pv 3) pe_non (nomark _)) (pw_or1 (pt_cmpR (op_neD hr.units) (pe_handOn (i := 0) rfl (by rfl) hgr kgr GR hr SL rfl (Or.inl rfl) pa_nil) (pe_lst (pa_cons pe_int pa_nil)) (nomark _))))) (pss_one (ps_ret pe_bl)) pss_nil)
    (pss_one (ps_ret (C8.pe_c cS hr hkk (by rfl) (pa_cons (pe_lst (pa_cons (pe_xk (pv 3)) (pa_cons (pe_xk (pv 3)) pa_nil))) (pa_cons (pe_lst (pa_cons (pv 1) (pa_cons (pv 2) pa_nil))) pa_nil))))))), ?_⟩
  refine q_asg (v := .non) ev_c fun H1 e1 => ?_
  refine ⟨rfl, hR H1 e1 _ _ fun dd H2 e2 hdn hdd => ⟨true, xT, fun _ a ha => ?_, fun z => nomatch z⟩⟩
  have e3 : Ex H2 (upd H2 a (ExcK a (.ref CT) (some dd))) := Ex.new ha
  have hd3 := e3 dd _ hdd
  have ha3 : (upd H2 a (ExcK a (.ref CT) (some dd))) a = some (ExcK a (.ref CT) (some dd)) := upd_same
  have e03 := (e1.trans e2).trans e3
  generalize upd H2 a (ExcK a (.ref CT) (some dd)) = H3 at e3 hd3 ha3 e03
  refine q_when (b := false) (et_or_f (et_isN rfl) (et_ne11 rfl fun H4 e4 Q q => ⟨rfl, CT, 11, RK, by decide, fun H5 e5 E Q' q' => hR H5 ((e03.trans e4).trans e5) E Q' fun d2 H6 e6 hn6 h6 => q' (some d2) H6 e6 (.inr ⟨d2, _, rfl, h6⟩), fun p H5 hp e5 h5 => q p H5 hp e5 h5⟩)) (fun z => nomatch z) (fun _ H4 e4 => ?_)
  · have xk : ∀ (n : Str) (v : Int), PySem.W.findIn K (.ref CT) n = some none → (tooFs many most).lookup n = some (.int v) → EvD K (tXk K n (tVar 3)) [some (.ref f), some (.int many), some (.int most), some (.ref a), none] H4 (.int v) := fun n v h1 h2 => evd_int (ev_xk (ev_var rfl) (e4 a _ ha3) (e4 dd _ hd3) RK.c h1 h2)
    refine s_ret (v := .bl true) (ev_callD2 (d := .list [.int many, .int most]) (e := .list [.int many, .int most]) (evd_ofL (evd_lst (eda_cons (xk "many" many T.nMany rfl) (eda_cons (xk "most" most T.nMost rfl) eda_nil)) (by show 2 ≤ 100000; decide))) (evd_ofL (evd_lst (eda_cons (evd_int (ev_var rfl)) (eda_cons (evd_int (ev_var rfl)) eda_nil)) (by show 2 ≤ 100000; decide)))
      fun H5 u v e5 hu hv Q q => ⟨u, v, _, rfl, hu, hv, ?_, fun H6 e6 => q H6 e6⟩) fun H5 e5 => k H5 ((e03.trans e4).trans e5)
    rw [okD]
    simp only [List.all_cons, List.all_nil, Bool.and_true, ok_int]
    rfl
end
end Wb
/-! what stays while tables of code change -/
namespace Wb
open PySem PySem.Spec PyProof.Rows L2 Evl Wm RZ LamX
section
variable {K : PySem.W.Frag} {H H' : Hp}
theorem rd_exN {a : Addr} {u : HO} (e : ExtN H H') (hu : ∀ ps, u ≠ .tbl ps) (h : Rd H a u) : Rd H' a u := by
  rcases h with h | ⟨o, h⟩
  · exact .inl (e a _ h hu)
  · exact .inr ⟨o, e a _ h fun ps z => nomatch z⟩
theorem sqL_exN {a : Addr} {xs : List V} (e : ExtN H H') (h : SqL K H a xs) : SqL K H' a xs := by
  rcases h with h | h
  · exact .inl (rd_exN e (fun ps z => nomatch z) h)
  · exact .inr h
theorem sqT_exN {a : Addr} {xs : List V} (e : ExtN H H') (h : SqT K H a xs) : SqT K H' a xs := by
  rcases h with h | h
  · exact .inl (rd_exN e (fun ps z => nomatch z) h)
  · exact .inr h
mutual
theorem dp_exN (e : ExtN H H') : ∀ (d : PyData) (v : V), Dp K H v d → Dp K H' v d
  | .none, _, h => by
    cases h
    exact .non
  | .bool b, _, h => by
    cases h
    exact .bl b
  | .int i, _, h => by
    cases h
    exact .int i
  | .str x, _, h => by
    cases h
    exact .str x
  | .list ds, _, h => by
    cases h with
    | lst hs ha => exact .lst (sqL_exN e hs) (dpAll_exN e ds _ ha)
  | .tuple ds, _, h => by
    cases h with
    | tup hs ha => exact .tup (sqT_exN e hs) (dpAll_exN e ds _ ha)
  | .dict _, _, h => by cases h
theorem dpAll_exN (e : ExtN H H') : ∀ (ds : List PyData) (vs : List V), DpAll K H vs ds → DpAll K H' vs ds
  | [], _, h => by
    cases h
    exact .nil
  | d :: ds, _, h => by
    cases h with
    | cons h1 h2 => exact .cons (dp_exN e d _ h1) (dpAll_exN e ds _ h2)
end
theorem AskV.exN {v : V} {b : Bool} (e : ExtN H H') (h : AskV K H v b) : AskV K H' v b := by
  rcases h with ⟨d, h1, h2⟩ | ⟨a, kvs, h1, h2, h3⟩
  · exact .inl ⟨d, dp_exN e d v h1, h2⟩
  · exact .inr ⟨a, kvs, h1, e a _ h2 (fun ps z => nomatch z), h3⟩
theorem StAt.exN {a : Addr} (e : ExtN H H') (h : StAt H a) : StAt H' a := by
  obtain ⟨x, b, h1, h2⟩ := h
  exact ⟨x, b, e a _ h1 (fun ps z => nomatch z), h2⟩
theorem tabs_exT {T : List (Addr × Str)} (t : Tabs T H) (e : ExT H H') : Tabs T H' := fun p hp => by
  obtain ⟨ps, h1, h2, h3⟩ := t p hp
  refine ⟨ps, e _ _ h1 (fun xs z => nomatch z), h2, fun pos cv hc => ?_⟩
  obtain ⟨c, e1, e2⟩ := h3 pos cv hc
  exact ⟨c, e1, e _ _ e2 (fun xs z => nomatch z)⟩
theorem tabs_drw {T : List (Addr × Str)} {sa : Addr} (t : Tabs T H) (s : StAt H sa) (d : Drw sa H H') : Tabs T H' := tabs_exT t (s.exT d.b)
theorem exN_drw {H0 : Hp} {sa : Addr} (e : ExtN H0 H) (n : H0 sa = none) (d : Drw sa H H') : ExtN H0 H' := fun b o h1 h2 => d.b b o (ne_of_none h1 n) (e b o h1 h2)
theorem exN_ex {H0 : Hp} (e : ExtN H0 H) (e2 : Ex H H') : ExtN H0 H' := e.trans (ExtN.of e2)
end
theorem passE0 {X : Cx} : Passes (L2.CX X.prog X.w) X C8.E0 := fun _ _ _ _ _ _ _ h => by
  obtain ⟨_, _, _, _, _, _, _, _, _, _, _, _, z⟩ := h
  exact z.elim
/-- a turn: what stood stands but for tables, the tables are well -/
structure Trn (T : List (Addr × Str)) (H H' : Hp) : Prop where
  e : ExtN H H'
  t : Tabs T H'
theorem Trn.ex {T : List (Addr × Str)} {H H1 H2 : Hp} (a : Trn T H H1) (e : Ex H1 H2) : Trn T H H2 := ⟨exN_ex a.e e, a.t.ext e⟩
theorem Trn.trans {T : List (Addr × Str)} {H H1 H2 : Hp} (a : Trn T H H1) (b : Trn T H1 H2) : Trn T H H2 := ⟨a.e.trans b.e, b.t⟩
theorem Trn.drw {T : List (Addr × Str)} {sa : Addr} {H H1 H2 : Hp} (a : Trn T H H1) (n : H sa = none) (s : StAt H1 sa) (d : Drw sa H1 H2) : Trn T H H2 := ⟨exN_drw a.e n d, tabs_drw a.t s d⟩
/-- a test that makes a lambda on the way -/
def EvM (T : List (Addr × Str)) (tt : TT) (σ : St) (H : Hp) (b : Bool) : Prop := ∀ H1, Ex H H1 → Tabs T H1 → ∀ Q : Bool → Hp → Prop, (∀ H2, Trn T H1 H2 → Q b H2) → tt σ H1 Q
section
variable {K : PySem.W.Frag} {T : List (Addr × Str)} {q : Str} {σ : St} {H : Hp} {tt : TT} {CW CT : Addr} {v : V} {whole : Bool} {i : Nat}
theorem em_not {b : Bool} (h : EvM T tt σ H b) : EvM T (tNot tt) σ H (!b) := fun H1 e t Q k => h H1 e t _ k
theorem EvM.mono {H' : Hp} {b : Bool} (e : Ex H H') (h : EvM T tt σ H b) : EvM T tt σ H' b := fun H1 e1 t Q k => h H1 (e.trans e1) t Q k
/-- too_great(lambda: midst_web(web), many, 14), where the web is too great -/
theorem em_great {n j : Nat} {ts : List Tie} (hv : σ[i]? = some (some v)) (hm : σ[j]? = some (some (.int ((n + ts.length : Nat) : Int)))) (W : Wv n ts) (hd : Dp K H v (webD n ts)) (hg : 14 < n + ts.length) :
    EvM T (tB (tLamMake T q (fun E => tCall (spMid K CW CT whole) [] E (tCons (tVar i) tNil)) (TTgreat CT) (tCons (tVar j) (tCons (tC (.int 14)) tNil)))) σ H true := fun H1 e1 t1 Q k => by
  refine ⟨t1, fun c' H2 eN T2 hc => ⟨_, hm, _, 14, rfl, fun H3 e3 E Q' hq => ⟨e3 c' _ hc, v, hv, v, rfl, .inl ⟨n, ts, W, dp_ex e3 _ _ (dp_exN eN _ _ (dp_ex e1 _ _ hd)), fun hle => by omega, fun _ dd H4 e4 hn h4 => hq dd H4 e4 hn h4⟩⟩, fun H3 e3 => ⟨true, rfl, k H3 ⟨exN_ex eN e3, T2.ext e3⟩⟩⟩⟩
theorem eqv_one (j : Nat) : PyData.eqv (.list [.int (j : Int)]) (.list [.int (j : Int)]) = true := by simp [PyData.eqv, PyData.eqvAll]
/-- refused(lambda: midst_web(bad)) != [0] -/
theorem em_refused {cs : Nat → Addr} {CE : Addr} (hv : σ[i]? = some (some v)) (h : AskV K H v false) (RK : RefK K cs CE CW 0) :
    EvM T (tTest (tOp (rNeD K) (tLamMake T q (fun E => tCall (spMid K CW CT whole) [] E (tCons (tVar i) tNil)) (TTref K cs CE) tNil) (tLst (tCons (tC (.int 0)) tNil)))) σ H false := fun H1 e1 t1 Q k => by
  refine ⟨t1, fun c' H2 eN T2 hc => ⟨rfl, CW, 0, RK, by decide, fun H3 e3 E Q' hq => ⟨e3 c' _ hc, v, hv, v, rfl, .inr ⟨(((h.ex e1).exN eN).ex e3), fun H4 e4 => hq none H4 e4 (.inl rfl)⟩⟩, fun p H3 hp e3 h3 => ?_⟩⟩
  refine el_lst (vs := [V.int 0]) (ta := tCons (tC (.int 0)) tNil) (σ := σ) (ea_cons ev_c ea_nil) (by show 1 ≤ 100000; decide) H3 (Ex.refl H3) _ fun r H6 _ e6 h6 => ⟨.list [.int 0], .list [.int 0], .lst (sq_of (e6 p _ h3)) (.cons (.int 0) .nil), .lst (sq_of h6) (.cons (.int 0) .nil), shaped_nat [0], shaped_nat [0], ⟨_, rfl, ?_⟩⟩
  have ee := eqv_one 0
  have ee2 : PyData.eqv (.list [.int 0]) (.list [.int 0]) = true := ee
  rw [ee2]
  exact k H6 ⟨exN_ex eN (e3.trans e6), T2.ext (e3.trans e6)⟩
/-- an if whose body is not reached -/
theorem q_mwhen {D : Ends} {tu tz : TS} (h : EvM T tt σ H false) (t : Tabs T H) (k : ∀ H1, Trn T H H1 → tz D σ H1) : tSeq (tIfS tt tu tNext) tz D σ H := h H (Ex.refl H) t _ fun H1 e => k H1 e
theorem s_mwhen {D : Ends} {tu : TS} (h : EvM T tt σ H false) (t : Tabs T H) (k : ∀ H1, Trn T H H1 → D.nx σ H1) : tIfS tt tu tNext D σ H := h H (Ex.refl H) t _ fun H1 e => k H1 e
/-- midst_web(web), where the web is small -/
theorem evd_mid {n : Nat} {ts : List Tie} {E : XK} {te : TE} (h : EvD K te σ H (webD n ts)) (W : Wv n ts) (hle : n + ts.length ≤ 14) : EvD K (tCall (spMid K CW CT whole) [] E (tCons te tNil)) σ H (webD (n + ts.length) (dueT n ts whole)) := fun H1 e1 Q q =>
  h H1 e1 _ fun v H2 e2 hv => ⟨v, rfl, .inl ⟨n, ts, W, hv, fun _ u H3 e3 hu => q u H3 (e2.trans e3) hu, fun hg => by omega⟩⟩
theorem evd_lmid {n : Nat} {ts : List Tie} {E : XK} {te : TE} (h : EvD K te σ H (webD n ts)) (W : Wv n ts) (hle : n + ts.length ≤ 14) : EvD K (tCall (spLMidst K) [] E (tCons te (tCons (tC (.bl whole)) tNil))) σ H (webD (n + ts.length) (dueT n ts whole)) := fun H1 e1 Q q =>
  h H1 e1 _ fun v H2 e2 hv => ⟨v, whole, n, ts, rfl, hv, W, hle, fun u H3 e3 hu => q u H3 (e2.trans e3) hu⟩
theorem due_len {n : Nat} {ts : List Tie} (hle : n + ts.length ≤ 14) : (dueT n ts whole).length ≤ 1000 := by
  have := grid_len (n + ts.length) (goesF n ts whole)
  have h2 : (n + ts.length) * (n + ts.length) ≤ 14 * 14 := Nat.mul_le_mul hle hle
  unfold dueT
  omega
theorem ev_same {n : Nat} {ts : List Tie} {E1 E2 : XK} {te te2 : TE} (h : EvD K te σ H (webD n ts)) (h2 : EvD K te2 σ H (webD n ts)) (W : Wv n ts) (hle : n + ts.length ≤ 14) :
    Ev (tCall (spS K 4) [] C8.E0 (tCons (tCall (spMid K CW CT whole) [] E1 (tCons te tNil)) (tCons (tCall (spLMidst K) [] E2 (tCons te2 (tCons (tC (.bl whole)) tNil))) tNil))) σ H (.bl true) :=
  ev_callD2 (evd_mid h W hle) (evd_lmid h2 W hle) fun H1 u v e hu hv Q q => ⟨u, v, _, rfl, hu, hv, ok_web (due_len hle), q⟩
end
end Wb
/-! the law -/
namespace Wb
open PySem PySem.Spec PyProof.Rows L2 Evl Wm RZ LamX
def qLam : Str := Str.ofString "law" ++ ".<locals>." ++ "<lambda>"
def spLaw (K : PySem.W.Frag) (Pt : Addr) : Sp := fun vs H Q _ => ∃ a ns, vs = [.ref a] ∧ SqL K H a ((ns : List Int).map V.int) ∧ Tabs [(Pt, qLam)] H ∧ ∀ H', Q (.bl true) H'
abbrev nLaw : List Str := ["_law_script", "_law_k", "_law_state_here", "_law_some", "_law_many", "_law_bad", "_law_web_here"]
theorem sc_law : FnScope nLaw ["_law_script"] (C8.fnScope (topS 46)) := C8.fnScope_by (by decide +kernel)
/-- what the law calls -/
structure LawC (P : Program) (w : World) (K : PySem.W.Frag) (mg : Str → Option Value) (base : Heap) (CW CT CE gr gt : Addr) (cs : Nat → Addr) : Prop where
  z : Blt mg
  st : C8.Cal P w K mg base 2 "_law_state" (spState K) []
  web : C8.Cal P w K mg base 4 "_law_web" (spLWeb K) []
  few : C8.Cal P w K mg base 3 "_law_few_ties" (spFew K) []
  drawn : C8.Cal P w K mg base 2 "_law_drawn" (spDrawn K) []
  bad : C8.Cal P w K mg base 2 "_law_bad_web" (spBad K) []
  same : C8.Cal P w K mg base 4 "_law_same" (spS K 4) []
  lmid : C8.Cal P w K mg base 1 "_law_midst" (spLMidst K) []
  mid : CalX P w K mg base 7 "midst_web" (spMid K CW CT false)
  whole : CalX P w K mg base 7 "whole_web" (spMid K CW CT true)
  ref : LamFn P w K mg base gr 9 8 (TTref K cs CE)
  mref : mg "_law_refused" = some (.ref gr)
  kref : PySem.W.keepIn K (.ref gr) = true
  great : LamFn P w K mg base gt 10 8 (TTgreat CT)
  mgreat : mg "_law_too_great" = some (.ref gt)
  kgreat : PySem.W.keepIn K (.ref gt) = true
  rk : RefK K cs CE CW 0
section
variable {P : Program} {w : World} {K : PySem.W.Frag} {mg : Str → Option Value} {base : Heap}
theorem ok_law {fa c Pt CW CT CE gr gt : Addr} {cs : Nat → Addr} {oc dV kV doc pm ct : Value} {an od : Option Addr} {osl : Array (Option Value)}
    (lk : K.lookup fa = some ⟨oc, od, .func (PySem.W.fnOf "law" "law" (C8.fnArgs (topS 46)) (C8.fnBody (topS 46)) (C8.fnScope (topS 46)) dV kV doc pm an (.ref c) ct), osl⟩) (hcd : PySem.W.codeIn K (.ref c) "law" = true) (TB : TabB base mg c Pt) (L : LawC P w K mg base CW CT CE gr gt cs) :
    FnOk P w K mg base C8.CX0 11 fa (PySem.W.fnOf "law" "law" (C8.fnArgs (topS 46)) (C8.fnBody (topS 46)) (C8.fnScope (topS 46)) dV kV doc pm an (.ref c) ct) ["_law_script"] (spLaw K Pt) := by
  refine fn_of (N := nLaw) lk hcd sc_law (fun vs H Q E h => ?_) (fun A outer s H vs Q E hr h => ?_)
  · obtain ⟨a, ns, rfl, _⟩ := h
    rfl
  obtain ⟨a, ns, rfl, hS, hT, k⟩ := h
  have Z := L.z
  have hu : ∀ p ∈ [(Pt, qLam)], p.1 = Pt → p.2 = qLam := fun p hp _ => by rw [List.mem_singleton.mp hp]
  refine ⟨_, PSs.nox (pss_cons (ps_for PassesOwn.never rfl (pi_range1 (by rfl) Z.ran (pa_cons (pe_callB (call_max2 rfl) (by rfl) Z.max bt_max (pa_cons pe_int (pa_cons (pe_callB (call_min2 rfl) (by rfl) Z.min bt_min (pa_cons (pe_len Z (pv 0)) (pa_cons pe_int pa_nil))) pa_nil))) pa_nil)) (pg_name (i := 1) sc_law.nd rfl (Or.inl rfl))
      (pss_cons (ps_set (i := 2) sc_law.nd rfl (Or.inl rfl) (C8.pe_c L.st hr (by decide) (by rfl) (pa_cons (pv 0) (pa_cons (pv 1) pa_nil))))
      (pss_cons (ps_set (i := 3) sc_law.nd rfl (Or.inl rfl) (pe_lst (pa_cons (C8.pe_c L.web hr (by decide) (by rfl) (pa_cons (pv 2) (pa_cons pe_int pa_nil))) (pa_cons (C8.pe_c L.few hr (by decide) (by rfl) (pa_cons (pv 2) (pa_cons pe_int pa_nil))) pa_nil))))
      (pss_cons (ps_set (i := 3) sc_law.nd rfl (Or.inl rfl) (pe_op op_cat (pv 3) (pe_lst (pa_cons (C8.pe_c L.drawn hr (by decide) (by rfl) (pa_cons (pv 2) (pa_cons pe_int (pa_cons pe_int pa_nil)))) (pa_cons (C8.pe_c L.drawn hr (by decide) (by rfl) (pa_cons (pv 2) (pa_cons pe_int (pa_cons pe_int pa_nil)))) pa_nil)))))
      (pss_cons (ps_set (i := 3) sc_law.nd rfl (Or.inl rfl) (pe_op op_cat (pv 3) (pe_lst (pa_cons (pe_tup (pa_cons pe_int (pa_cons (pe_tup pa_nil) pa_nil))) (pa_cons (pe_tup (pa_cons pe_int (pa_cons (pe_tup (pa_cons (pe_tup (pa_cons pe_int (pa_cons pe_int pa_nil))) pa_nil)) pa_nil)))
        (pa_cons (pe_tup (pa_cons pe_int (pa_cons (pe_tup (pa_cons (pe_tup (pa_cons pe_int (pa_cons pe_int pa_nil))) (pa_cons (pe_tup (pa_cons pe_int (pa_cons pe_int pa_nil))) pa_nil))) pa_nil))) pa_nil))))))
      (pss_cut (ps_for PassesOwn.never rfl (pi_list (pv 3)) (pg_name (i := 6) sc_law.nd rfl (Or.inr rfl))
        (pss_cons (ps_set (i := 4) sc_law.nd rfl (Or.inl rfl) (pe_op op_add (pe_ix ix_tup (pv 6) pe_int (fun _ _ => rfl)) (pe_len Z (pe_ix ix_tup (pv 6) pe_int (fun _ _ => rfl)))))
        (pss_one (ps_if (pt_cmpR op_gt (pv 4) pe_int (nomark _))
          (pss_cons (ps_if (pt_not (pt_val (pe_lamMake (T := [(Pt, qLam)]) (c := c) (P := Pt) (kk := 7) (k := 10) (tb := fun E => tCall (spMid K CW CT false) [] E (tCons (tVar 6) tNil)) (by rfl) L.mgreat L.kgreat L.great TB rfl (List.mem_singleton.mpr rfl) hu hr (lamS_by (sc := C8.fnScope (topS 46)) (by decide +kernel)) rfl (fun _ _ _ _ _ => rfl)
              (fun A outer s H E f c' hr => pe_cx L.mid hr (by decide) (passes_call (takes_of rfl rfl rfl rfl) (fun _ _ _ _ h => h)) (by rfl) (pa_cons (pv 6) pa_nil)) (pa_cons (pv 4) (pa_cons pe_int pa_nil))))) (pss_one (ps_ret pe_bl)) pss_nil)
          (pss_one (ps_if (pt_not (pt_val (pe_lamMake (T := [(Pt, qLam)]) (c := c) (P := Pt) (kk := 7) (k := 10) (tb := fun E => tCall (spMid K CW CT true) [] E (tCons (tVar 6) tNil)) (by rfl) L.mgreat L.kgreat L.great TB rfl (List.mem_singleton.mpr rfl) hu hr (lamS_by (sc := C8.fnScope (topS 46)) (by decide +kernel)) rfl (fun _ _ _ _ _ => rfl)
              (fun A outer s H E f c' hr => pe_cx L.whole hr (by decide) (passes_call (takes_of rfl rfl rfl rfl) (fun _ _ _ _ h => h)) (by rfl) (pa_cons (pv 6) pa_nil)) (pa_cons (pv 4) (pa_cons pe_int pa_nil))))) (pss_one (ps_ret pe_bl)) pss_nil)))
          (pss_one (ps_if (pt_not (pt_val (C8.pe_c L.same hr (by decide) (by rfl) (pa_cons (pe_cx (E := C8.E0) L.mid hr (by decide) passE0 (by rfl) (pa_cons (pv 6) pa_nil)) (pa_cons (C8.pe_c L.lmid hr (by decide) (by rfl) (pa_cons (pv 6) (pa_cons pe_bl pa_nil))) pa_nil))))) (pss_one (ps_ret pe_bl))
            (pss_one (ps_if (pt_not (pt_val (C8.pe_c L.same hr (by decide) (by rfl) (pa_cons (pe_cx (E := C8.E0) L.whole hr (by decide) passE0 (by rfl) (pa_cons (pv 6) pa_nil)) (pa_cons (C8.pe_c L.lmid hr (by decide) (by rfl) (pa_cons (pv 6) (pa_cons pe_bl pa_nil))) pa_nil))))) (pss_one (ps_ret pe_bl)) pss_nil))))))))
      (pss_cons (ps_set (i := 5) sc_law.nd rfl (Or.inr rfl) (C8.pe_c L.bad hr (by decide) (by rfl) (pa_cons (pv 2) pa_nil)))
      (pss_cons (ps_if (pt_cmpR (op_neD hr.units) (pe_lamMake (T := [(Pt, qLam)]) (c := c) (P := Pt) (kk := 7) (k := 9) (tb := fun E => tCall (spMid K CW CT false) [] E (tCons (tVar 5) tNil)) (by rfl) L.mref L.kref L.ref TB rfl (List.mem_singleton.mpr rfl) hu (hr.mono (by decide)) (lamS_by (sc := C8.fnScope (topS 46)) (by decide +kernel)) rfl (fun _ _ _ _ _ => rfl)
              (fun A outer s H E f c' hr => pe_cx L.mid hr (by decide) (passes_call (takes_of rfl rfl rfl rfl) (fun _ _ _ _ h => h)) (by rfl) (pa_cons (pv 5) pa_nil)) pa_nil) (pe_lst (pa_cons pe_int pa_nil)) (nomark _)) (pss_one (ps_ret pe_bl)) pss_nil)
      (pss_one (ps_if (pt_cmpR (op_neD hr.units) (pe_lamMake (T := [(Pt, qLam)]) (c := c) (P := Pt) (kk := 7) (k := 9) (tb := fun E => tCall (spMid K CW CT true) [] E (tCons (tVar 5) tNil)) (by rfl) L.mref L.kref L.ref TB rfl (List.mem_singleton.mpr rfl) hu (hr.mono (by decide)) (lamS_by (sc := C8.fnScope (topS 46)) (by decide +kernel)) rfl (fun _ _ _ _ _ => rfl)
              (fun A outer s H E f c' hr => pe_cx L.whole hr (by decide) (passes_call (takes_of rfl rfl rfl rfl) (fun _ _ _ _ h => h)) (by rfl) (pa_cons (pv 5) pa_nil)) pa_nil) (pe_lst (pa_cons pe_int pa_nil)) (nomark _)) (pss_one (ps_ret pe_bl)) pss_nil))))))))))
    (pss_one (ps_ret pe_bl))), ?_⟩
  have hn : ∀ m : Int, (0 : Int) ≤ (if (if (8 : Int) < m then (8 : Int) else m) > 1 then (if (8 : Int) < m then (8 : Int) else m) else 1) ∧ (if (if (8 : Int) < m then (8 : Int) else m) > 1 then (if (8 : Int) < m then (8 : Int) else m) else 1) ≤ 100000 := fun m => by
    split <;> split <;> omega
  refine q_forR1 (ea_cons (ev_max2 ev_c (ev_min2 (ev_len (ev_var rfl) hS) ev_c)) ea_nil) (hn _)
    (fun i σ' H' => (∃ s1 s2 s3 s4 s5 s6, σ' = [some (.ref a), s1, s2, s3, s4, s5, s6]) ∧ Trn [(Pt, qLam)] H H') (fun H1 e1 => ⟨⟨_, _, _, _, _, _, rfl⟩, ExtN.of e1, hT.ext e1⟩) (fun i σ' H' _ p => ?_) (fun σ' H' p => ?_)
  · obtain ⟨⟨s1, s2, s3, s4, s5, s6, rfl⟩, t0⟩ := p
    refine ⟨_, rfl, _, rfl, a, ns, i, rfl, sqL_exN t0.e hS, fun sa H1 hsa e1 st1 => ?_⟩
    have t1 : Trn [(Pt, qLam)] H' H1 := ⟨ExtN.of e1, t0.t.ext e1⟩
    dsimp only [gName]
    refine ⟨_, rfl, sa, rfl, st1, fun n1 us1 W1 v1 H2 d2 hv1 => ⟨_, rfl, sa, rfl, d2.s, fun n2 us2 _ W2 _ v2 H3 d3 hv2 => ⟨sz_of (by show 2 ≤ 100000; decide), fun p1 hp1 => ?_⟩⟩⟩
    have d13 := d2.trans d3
    have t3 := t1.drw hsa st1 d13
    have ep1 : Ex H3 (upd H3 p1 (.lst [v1, v2])) := Ex.new hp1
    have a4 : DpAll K (upd H3 p1 (.lst [v1, v2])) [v1, v2] [webD n1 us1, webD n2 us2] := .cons (dp_ex ep1 _ _ (d3.dp d2.s (noL_web _ _) hv1)) (.cons (dp_ex ep1 _ _ hv2) .nil)
    have h4 : (upd H3 p1 (.lst [v1, v2])) p1 = some (.lst [v1, v2]) := upd_same
    have np1 : p1 ≠ sa := fun z => Drw.ne d13.s hp1 z.symm
    have st4 := d13.s.ex ep1
    have t4 := t3.ex ep1
    dsimp only [gName]
    generalize upd H3 p1 (.lst [v1, v2]) = H4 at a4 h4 st4 t4
    refine ⟨_, rfl, ⟨_, rfl, sa, 4, 4, rfl, st4, by decide, fun us3 W3 v3 H5 d5 hv3 => ⟨_, rfl, sa, 5, 4, rfl, d5.s, by decide, fun us4 W4 v4 H6 d6 hv4 => ⟨sz_of (by show 2 ≤ 100000; decide), fun r hrn => ⟨p1, r, [v1, v2], [v3, v4], rfl, rfl, ?_, upd_same, sz_of (by show 2 + 2 ≤ 100000; decide), fun l hln => ?_⟩⟩⟩⟩⟩
    · exact Ex.new hrn p1 _ (d6.b p1 _ np1 (d5.b p1 _ np1 h4))
    have er : Ex H6 (upd H6 r (.lst [v3, v4])) := Ex.new hrn
    have el : Ex (upd H6 r (.lst [v3, v4])) (upd (upd H6 r (.lst [v3, v4])) l (.lst ([v1, v2] ++ [v3, v4]))) := Ex.new hln
    have erl := er.trans el
    have d46 := d5.trans d6
    have nw : noLs [webD n1 us1, webD n2 us2] = true := noLs_of fun d hd => by
      rcases List.mem_cons.mp hd with rfl | hd
      · exact noL_web _ _
      · rw [List.mem_singleton.mp hd]
        exact noL_web _ _
    have a7 : DpAll K (upd (upd H6 r (.lst [v3, v4])) l (.lst ([v1, v2] ++ [v3, v4]))) ([v1, v2] ++ [v3, v4]) ([webD n1 us1, webD n2 us2] ++ [webD 4 us3, webD 5 us4]) := dpAll_app (dpAll_ex erl _ _ (d46.dps st4 nw a4)) (.cons (dp_ex erl _ _ (d6.dp d5.s (noL_web _ _) hv3)) (.cons (dp_ex erl _ _ hv4) .nil))
    have h7 : (upd (upd H6 r (.lst [v3, v4])) l (.lst ([v1, v2] ++ [v3, v4]))) l = some (.lst ([v1, v2] ++ [v3, v4])) := upd_same
    have st7 := d46.s.ex erl
    have t7 := (t4.drw hsa st4 d46).ex erl
    dsimp only [gName]
    generalize upd (upd H6 r (.lst [v3, v4])) l (.lst ([v1, v2] ++ [v3, v4])) = H7 at a7 h7 st7 t7
    have c14 : EvD K (tTup (tCons (tC (.int 14)) (tCons (tTup tNil) tNil))) [some (.ref a), some (.int (i : Int)), some (.ref sa), some (.ref l), s4, s5, s6] H7 (webD 14 []) := evd_tup (ds := [.int 14, .tuple []]) (eda_cons (evd_int ev_c) (eda_cons (evd_tup eda_nil (by decide)) eda_nil)) (by show 2 ≤ 100000; decide)
    have c13 : EvD K (tTup (tCons (tC (.int 13)) (tCons (tTup (tCons (tTup (tCons (tC (.int 0)) (tCons (tC (.int 12)) tNil))) tNil)) tNil))) [some (.ref a), some (.int (i : Int)), some (.ref sa), some (.ref l), s4, s5, s6] H7 (webD 13 [(0, 12)]) :=
      evd_tup (ds := [.int 13, .tuple [tieD (0, 12)]]) (eda_cons (evd_int ev_c) (eda_cons (evd_tup (eda_cons (evd_pair ev_c ev_c) eda_nil) (by show 1 ≤ 100000; decide)) eda_nil)) (by show 2 ≤ 100000; decide)
    have c13b : EvD K (tTup (tCons (tC (.int 13)) (tCons (tTup (tCons (tTup (tCons (tC (.int 0)) (tCons (tC (.int 12)) tNil))) (tCons (tTup (tCons (tC (.int 1)) (tCons (tC (.int 2)) tNil))) tNil))) tNil))) [some (.ref a), some (.int (i : Int)), some (.ref sa), some (.ref l), s4, s5, s6] H7 (webD 13 [(0, 12), (1, 2)]) :=
      evd_tup (ds := [.int 13, .tuple [tieD (0, 12), tieD (1, 2)]]) (eda_cons (evd_int ev_c) (eda_cons (evd_tup (eda_cons (evd_pair ev_c ev_c) (eda_cons (evd_pair ev_c ev_c) eda_nil)) (by show 2 ≤ 100000; decide)) eda_nil)) (by show 2 ≤ 100000; decide)
    refine q_asgDL (K := K) (evdl_cat (evDl_var rfl h7 a7) (EvDL.l (evd_lst (eda_cons c14 (eda_cons c13 (eda_cons c13b eda_nil))) (by show 3 ≤ 100000; decide))) (by show 4 + 3 ≤ 100000; decide)) fun q xs H8 hq8 e8 h8 a8 => ?_
    have st8 := st7.ex e8
    have t8 := t7.ex e8
    have a8 : DpAll K H8 xs (([(n1, us1), (n2, us2), (4, us3), (5, us4), (14, []), (13, [(0, 12)]), (13, [(0, 12), (1, 2)])] : List (Nat × List Tie)).map fun w => webD w.1 w.2) := a8
    have W8 : ∀ w ∈ ([(n1, us1), (n2, us2), (4, us3), (5, us4), (14, []), (13, [(0, 12)]), (13, [(0, 12), (1, 2)])] : List (Nat × List Tie)), Wv w.1 w.2 := fun w hw => by
      simp only [List.mem_cons, List.not_mem_nil, or_false] at hw
      rcases hw with rfl | rfl | rfl | rfl | rfl | rfl | rfl
      · exact W1
      · exact W2
      · exact W3
      · exact W4
      · exact ⟨by decide, fun t ht => absurd ht (by simp), List.Pairwise.nil⟩
      · exact ⟨by decide, by decide, by decide⟩
      · exact ⟨by decide, by decide, by decide⟩
    generalize ([(n1, us1), (n2, us2), (4, us3), (5, us4), (14, []), (13, [(0, 12)]), (13, [(0, 12), (1, 2)])] : List (Nat × List Tie)) = ws at a8 W8
    refine q_cut (M := fun σ2 H2 => (∃ s4 s6, σ2 = [some (.ref a), some (.int (i : Int)), some (.ref sa), some (.ref q), s4, s5, s6]) ∧ Trn [(Pt, qLam)] H8 H2) ?_ (fun σ9 H9 hM => ?_)
    · refine s_forLn (ev_var rfl) (sq_of h8) (fun j σ' H' => (∃ s4 s6, σ' = [some (.ref a), some (.int (i : Int)), some (.ref sa), some (.ref q), s4, s5, s6]) ∧ Trn [(Pt, qLam)] H8 H') (fun H9 e9 => ⟨⟨_, _, rfl⟩, ExtN.of e9, t8.t.ext e9⟩) (fun j σ' H9 _ p => sqL_exN p.2.e (sq_of h8)) (fun j x σ' H9 hj p => ?_) (fun σ' H9 p => p)
      obtain ⟨⟨s4, s6, rfl⟩, t9⟩ := p
      obtain ⟨d, hd1, hd2⟩ := dpAll_get a8 hj
      rw [List.getElem?_map] at hd1
      obtain ⟨w1, hw1, rfl⟩ := Option.map_eq_some_iff.mp hd1
      have Ww := W8 w1 (List.mem_of_getElem? hw1)
      obtain ⟨n, ts⟩ := w1
      have Ww : Wv n ts := Ww
      have hx9 : Dp K H9 x (webD n ts) := dp_exN t9.e _ _ hd2
      have x6 := evd_var (K := K) (σ := [some (.ref a), some (.int (i : Int)), some (.ref sa), some (.ref q), s4, s5, some x]) (i := 6) rfl hx9
      refine q_asg (v := .int ((n + ts.length : Nat) : Int)) (ev_is (ev_op (ev_ix0 x6) (ev_lenTs (evd_ix1 x6)) rv_I0) (congrArg V.int (by omega))) fun H10 e10 => ?_
      have t10 := t9.ex e10
      have hx10 := dp_ex e10 _ _ hx9
      refine s_if (et_test (ev_op (ev_var rfl) ev_c rv_I0)) (fun hb H11 e11 => ?_) (fun hb H11 e11 => ?_)
      · have hg := of_decide_eq_true hb
        have t11 := t10.ex e11
        have hx11 := dp_ex e11 _ _ hx10
        refine q_mwhen (em_not (em_great (i := 6) (j := 4) rfl rfl Ww hx11 (by omega))) t11.t fun H12 t12 => ?_
        refine s_mwhen (em_not (em_great (i := 6) (j := 4) rfl rfl Ww (dp_exN t12.e _ _ hx11) (by omega))) t12.t fun H13 t13 => ?_
        exact ⟨⟨_, _, rfl⟩, (t11.trans t12).trans t13⟩
      · have hg := of_decide_eq_false hb
        have t11 := t10.ex e11
        have y6 := evd_var (K := K) (σ := [some (.ref a), some (.int (i : Int)), some (.ref sa), some (.ref q), some (.int ((n + ts.length : Nat) : Int)), s5, some x]) (i := 6) rfl (dp_ex e11 _ _ hx10)
        refine s_if (b := false) (et_not (et_B (ev_same y6 y6 Ww (by omega)))) (fun z => nomatch z) (fun _ H12 e12 => ?_)
        refine s_when (b := false) (et_not (et_B (ev_same (y6.mono e12) (y6.mono e12) Ww (by omega)))) (fun z => nomatch z) (fun _ H13 e13 => ?_)
        exact ⟨⟨_, _, rfl⟩, (t11.ex e12).ex e13⟩
    · obtain ⟨⟨s4, s6, rfl⟩, t9⟩ := hM
      have st9 := st8.exN t9.e
      refine ⟨_, rfl, sa, rfl, st9, fun v H10 d10 hask => ?_⟩
      have t10 := (t8.trans t9).drw hsa st9 d10
      dsimp only [gName]
      refine q_mwhen (em_refused (i := 5) rfl hask L.rk) t10.t fun H11 t11 => ?_
      refine s_mwhen (em_refused (i := 5) rfl (hask.exN t11.e) L.rk) t11.t fun H12 t12 => ?_
      exact ⟨⟨_, _, _, _, _, _, rfl⟩, t0.trans ((t10.trans t11).trans t12)⟩
  · obtain ⟨⟨s1, s2, s3, s4, s5, s6, rfl⟩, _⟩ := p
    exact s_ret ev_c fun H2 _ => k H2
end
end Wb
/-! the end: what is read off the module's heap -/
namespace Wb
open PySem PySem.Spec PyProof.Rows L2 Evl Wm RZ LamX
/-- bindArgs of a def of the text, all its parameters given -/
abbrev BindsAll (x : Str) (st : Stmt) (ps : List Str) : Prop := ∀ (kV doc pm : Value) (an : Option Addr) (cdv ct : Value) (us : List Value), us.length = ps.length → bindArgs (PySem.W.fnOf x x (C8.fnArgs st) (C8.fnBody st) (C8.fnScope st) .none kV doc pm an cdv ct) ⟨us, []⟩ = pure (ps.zip us)
theorem defOk_mk {K : PySem.W.Frag} {h : Heap} {mg : Str → Option Value} {x : Str} {st : Stmt} {ps : List Str} {f : Addr} {oc kV doc pm cdv ct : Value} {od an : Option Addr} {osl : Array (Option Value)} (X : K.In h) (G : h.Ns mainGlobals mg) (hb : BindsAll x st ps)
    (a : PySem.W.nsIn K mainGlobals x = some (some (.ref f))) (l : K.lookup f = some ⟨oc, od, .func (PySem.W.fnOf x x (C8.fnArgs st) (C8.fnBody st) (C8.fnScope st) .none kV doc pm an cdv ct), osl⟩) (c : PySem.W.codeIn K cdv x = true) (k : PySem.W.keepIn K (.ref f) = true) : DefOk K mg x st ps := by
  have F : C8.Fun K x x st f (PySem.W.fnOf x x (C8.fnArgs st) (C8.fnBody st) (C8.fnScope st) .none kV doc pm an cdv ct) := ⟨oc, od, .none, kV, doc, pm, an, cdv, ct, osl, rfl, l, c⟩
  exact ⟨f, _, ⟨F, PySem.W.mg_of X G a, k⟩, F.binds rfl hb⟩
def chk13 (K : PySem.W.Frag) (D : Addr) (cs : List Addr) (j : Nat) : Bool := (List.range 13).all fun i => PySem.W.kitOne K (.ref D) (.ref (cs.getD i 0)) == some (decide (i = j))
theorem chk13_at {K : PySem.W.Frag} {D : Addr} {cs : List Addr} {j : Nat} (h : chk13 K D cs j = true) : ∀ i, i < 13 → PySem.W.kitOne K (.ref D) (.ref (cs.getD i 0)) = some (decide (i = j)) := fun i hi => by
  unfold chk13 at h
  rw [List.all_eq_true] at h
  exact beq_iff_eq.mp (h i (List.mem_range.mpr hi))
theorem cls13_mk {K : PySem.W.Frag} {h : Heap} {mg : Str → Option Value} {CE : Addr} {cs : List Addr} (X : K.In h) (G : h.Ns mainGlobals mg) (e : PySem.W.nsIn K mainGlobals "WebError" = some (some (.ref CE))) (a : ((List.range 13).all fun i => PySem.W.nsIn K mainGlobals (nm13.getD i "") == some (some (.ref (cs.getD i 0)))) = true) : Cls13 mg (fun i => cs.getD i 0) CE := by
  refine ⟨fun i x hx => ?_, PySem.W.mg_of X G e⟩
  have hi := (List.getElem?_eq_some_iff.mp hx).1
  have hi13 : i < 13 := hi
  rw [List.all_eq_true] at a
  have z := beq_iff_eq.mp (a i (List.mem_range.mpr hi13))
  have ex : nm13.getD i "" = x := by
    rw [List.getD_eq_getElem?_getD, hx]
    rfl
  rw [ex] at z
  exact PySem.W.mg_of X G z
theorem excD_mk {K : PySem.W.Frag} {D : Addr} (hg : PySem.W.findIn K (.ref D) "__getattribute__" = some (some (.builtin "BaseException.__getattribute__"))) (hk : PySem.W.findIn K (.ref D) "__getattr__" = some none) (hs : PySem.W.subIn K (.ref D) (.type "BaseException") = some true) (hd : PySem.W.hasDictIn K D = true)
    (ha : PySem.W.findIn K (.ref D) "__class__" = some (some (.builtin "object.__class__"))) (hn : PySem.W.specialIn K (.builtin "object.__class__") "__get__" = some (some (.builtin "getset_descriptor.__get__"))) (ht : PySem.W.takesIn K (.builtin "object.__class__") = some true) (hm : PySem.W.mroIn K D (.type "object") = some true) : ExcD K D := ⟨hg, hk, hs, hd, ha, hn, ht, hm⟩
abbrev bsVE : List Value := [.type "ValueError", .type "Exception", .type "BaseException", .type "object"]
theorem initBinds : ∀ (kV doc pm : Value) (an : Option Addr) (cdv ct : Value) (us : List Value), us.length = (["self", "many", "most"] : List Str).length → bindArgs (PySem.W.fnOf "__init__" "TooGreat.__init__" (C8.fnArgs sInit) (C8.fnBody sInit) (C8.fnScope sInit) .none kV doc pm an cdv ct) ⟨us, []⟩ = pure ((["self", "many", "most"] : List Str).zip us) := fun _ _ _ _ _ _ us hl => match us, hl with | [_, _, _], _ => rfl
theorem tooT_mk {K : PySem.W.Frag} {h : Heap} {mg : Str → Option Value} {C f N : Addr} {nm qn : Str} {bs bm : List Value} {sn : List Str} {sub : List Value} {ab : Bool} {col : Option Bool} {dd od an : Option Addr} {m0 m1 m2 m3 m5 : Option Value} {oc kV doc pm cdv ct : Value} {osl : Array (Option Value)} (X : K.In h) (G : h.Ns mainGlobals mg)
    (a : PySem.W.nsIn K mainGlobals "TooGreat" = some (some (.ref C))) (xL : K.lookup C = some (excClassObj nm qn C N bs bm true sn sub ab col dd m0 m1 m2 m3 m5 "ValueError.__new__")) (rb : PySem.HandSPX.refsVE bm = true) (sa : PySem.W.findIn K (.ref C) "__setattr__" = some (some (.builtin "object.__setattr__")))
    (ex : PySem.W.subIn K (.ref C) (.type "BaseException") = some true) (ty : PySem.W.typeIn K (.ref C) = some (.type "type")) (kC : PySem.W.keepIn K (.ref C) = true) (n1 : PySem.W.findIn K (.ref C) "many" = some none) (n2 : PySem.W.findIn K (.ref C) "most" = some none)
    (i : PySem.W.findIn K (.ref C) "__init__" = some (some (.ref f))) (tf : PySem.W.typeIn K (.ref f) = some (.type "function")) (l : K.lookup f = some ⟨oc, od, .func (PySem.W.fnOf "__init__" "TooGreat.__init__" (C8.fnArgs sInit) (C8.fnBody sInit) (C8.fnScope sInit) .none kV doc pm an cdv ct), osl⟩) (c : PySem.W.codeIn K cdv "TooGreat.__init__" = true) : TooT K mg C := by
  have F : C8.Fun K "__init__" "TooGreat.__init__" sInit f (PySem.W.fnOf "__init__" "TooGreat.__init__" (C8.fnArgs sInit) (C8.fnBody sInit) (C8.fnScope sInit) .none kV doc pm an cdv ct) := ⟨oc, od, .none, kV, doc, pm, an, cdv, ct, osl, rfl, l, c⟩
  exact ⟨PySem.W.mg_of X G a, ⟨⟨nm, qn, N, bs, bm, sn, sub, ab, col, dd, m0, m1, m2, m3, m5, xL, rb⟩, sa, ex, ty, kC⟩, n1, n2, f, _, i, tf, F, F.binds rfl initBinds⟩
theorem blt_mk {K : PySem.W.Frag} {h : Heap} {mg : Str → Option Value} (X : K.In h) (G : h.Ns mainGlobals mg) (a : (["isinstance", "len", "all", "zip", "tuple", "int", "bool", "list", "range", "enumerate", "sorted", "max", "min", "set", "ValueError"] : List Str).all (fun x => PySem.W.nsIn K mainGlobals x == some none) = true) : Blt mg := by
  rw [List.all_eq_true] at a
  have z : ∀ x : Str, x ∈ (["isinstance", "len", "all", "zip", "tuple", "int", "bool", "list", "range", "enumerate", "sorted", "max", "min", "set", "ValueError"] : List Str) → mg x = none := fun x hx => PySem.W.mg_none_of X G (beq_iff_eq.mp (a x hx))
  exact ⟨z _ (by decide), z _ (by decide), z _ (by decide), z _ (by decide), z _ (by decide), z _ (by decide), z _ (by decide), z _ (by decide), z _ (by decide), z _ (by decide), z _ (by decide), z _ (by decide), z _ (by decide), z _ (by decide), z _ (by decide)⟩
theorem bnd17 : BindsAll "is_whole" (topS 17) ["thing"] := fun _ _ _ _ _ _ us hl => match us, hl with | [_], _ => rfl
theorem bnd18 : BindsAll "is_place" (topS 18) ["many", "thing"] := fun _ _ _ _ _ _ us hl => match us, hl with | [_, _], _ => rfl
theorem bnd19 : BindsAll "rises" (topS 19) ["some"] := fun _ _ _ _ _ _ us hl => match us, hl with | [_], _ => rfl
theorem bnd20 : BindsAll "is_tie" (topS 20) ["many", "thing"] := fun _ _ _ _ _ _ us hl => match us, hl with | [_, _], _ => rfl
theorem bnd21 : BindsAll "is_web" (topS 21) ["thing"] := fun _ _ _ _ _ _ us hl => match us, hl with | [_], _ => rfl
theorem bnd22 : BindsAll "need_web" (topS 22) ["thing"] := fun _ _ _ _ _ _ us hl => match us, hl with | [_], _ => rfl
theorem bnd24 : BindsAll "meet" (topS 24) ["one", "other"] := fun _ _ _ _ _ _ us hl => match us, hl with | [_, _], _ => rfl
theorem bnd25 : BindsAll "made" (topS 25) ["web"] := fun _ _ _ _ _ _ us hl => match us, hl with | [_], _ => rfl
theorem bnd27 : BindsAll "midst_ties" (topS 27) ["web"] := fun _ _ _ _ _ _ us hl => match us, hl with | [_], _ => rfl
theorem bnd28 : BindsAll "many_with_midsts" (topS 28) ["web"] := fun _ _ _ _ _ _ us hl => match us, hl with | [_], _ => rfl
theorem bnd29 : BindsAll "midst_web" (topS 29) ["web"] := fun _ _ _ _ _ _ us hl => match us, hl with | [_], _ => rfl
theorem bnd30 : BindsAll "whole_web" (topS 30) ["web"] := fun _ _ _ _ _ _ us hl => match us, hl with | [_], _ => rfl
theorem bnd32 : BindsAll "_law_cell_at" (topS 32) ["_law_script", "_law_k"] := fun _ _ _ _ _ _ us hl => match us, hl with | [_, _], _ => rfl
theorem bnd33 : BindsAll "_law_state" (topS 33) ["_law_script", "_law_k"] := fun _ _ _ _ _ _ us hl => match us, hl with | [_, _], _ => rfl
theorem bnd34 : BindsAll "_law_take" (topS 34) ["_law_state_here", "_law_many"] := fun _ _ _ _ _ _ us hl => match us, hl with | [_, _], _ => rfl
theorem bnd35 : BindsAll "_law_drawn" (topS 35) ["_law_state_here", "_law_many", "_law_often"] := fun _ _ _ _ _ _ us hl => match us, hl with | [_, _, _], _ => rfl
theorem bnd36 : BindsAll "_law_made" (topS 36) ["_law_web_here"] := fun _ _ _ _ _ _ us hl => match us, hl with | [_], _ => rfl
theorem bnd37 : BindsAll "_law_mixed" (topS 37) ["_law_state_here", "_law_many"] := fun _ _ _ _ _ _ us hl => match us, hl with | [_, _], _ => rfl
theorem bnd38 : BindsAll "_law_few_ties" (topS 38) ["_law_state_here", "_law_most"] := fun _ _ _ _ _ _ us hl => match us, hl with | [_, _], _ => rfl
theorem bnd39 : BindsAll "_law_named" (topS 39) ["_law_web_here", "_law_names"] := fun _ _ _ _ _ _ us hl => match us, hl with | [_, _], _ => rfl
theorem bnd40 : BindsAll "_law_web" (topS 40) ["_law_state_here", "_law_most"] := fun _ _ _ _ _ _ us hl => match us, hl with | [_, _], _ => rfl
theorem bnd41 : BindsAll "_law_refused" (topS 41) ["_law_call"] := fun _ _ _ _ _ _ us hl => match us, hl with | [_], _ => rfl
theorem bnd42 : BindsAll "_law_same" (topS 42) ["_law_found", "_law_due"] := fun _ _ _ _ _ _ us hl => match us, hl with | [_, _], _ => rfl
theorem bnd43 : BindsAll "_law_too_great" (topS 43) ["_law_call", "_law_many", "_law_most"] := fun _ _ _ _ _ _ us hl => match us, hl with | [_, _, _], _ => rfl
theorem bnd44 : BindsAll "_law_bad_web" (topS 44) ["_law_state_here"] := fun _ _ _ _ _ _ us hl => match us, hl with | [_], _ => rfl
theorem bnd45 : BindsAll "_law_midst" (topS 45) ["_law_web_here", "_law_whole"] := fun _ _ _ _ _ _ us hl => match us, hl with | [_, _], _ => rfl
theorem law_at {l : PySem.W.OpenLaw} {w : World} {K : PySem.W.Frag} {h : Heap} {mg : Str → Option Value} {fa fL c Pt CW CT CE : Addr} {cs : List Addr} {t14 : Tok} {oc kV doc pm ct : Value} {an od : Option Addr} {osl : Array (Option Value)} (X : K.In h) (G : h.Ns mainGlobals mg) (hfa : mg "law" = some (.ref fa)) (hT : h.get? Pt = some { cls := .none, data := .fields #[] })
    (aL : PySem.W.nsIn K mainGlobals "law" = some (some (.ref fL))) (lL : K.lookup fL = some ⟨oc, od, .func (PySem.W.fnOf "law" "law" (C8.fnArgs (topS 46)) (C8.fnBody (topS 46)) (C8.fnScope (topS 46)) .none kV doc pm an (.ref c) ct), osl⟩) (cL : PySem.W.codeIn K (.ref c) "law" = true)
    (nT : K.lookup Pt = none) (hd : PySem.W.codeHdIn K c Pt = true) (Z : Blt mg) (hM : PySem.W.nsIn K mainGlobals "MOST_PLACES" = some (some (.int 14 t14)))
    (TW : ExcT K mg "NoWeb" CW) (T : TooT K mg CT) (G13 : Cls13 mg (fun i => cs.getD i 0) CE) (RW : RefK K (fun i => cs.getD i 0) CE CW 0) (RT : RefK K (fun i => cs.getD i 0) CE CT 11) (xT : PySem.W.exmOne K (.ref CT) (.ref CT) = some true)
    (D17 : DefOk K mg "is_whole" (topS 17) ["thing"])
    (D18 : DefOk K mg "is_place" (topS 18) ["many", "thing"])
    (D19 : DefOk K mg "rises" (topS 19) ["some"])
    (D20 : DefOk K mg "is_tie" (topS 20) ["many", "thing"])
    (D21 : DefOk K mg "is_web" (topS 21) ["thing"])
    (D22 : DefOk K mg "need_web" (topS 22) ["thing"])
    (D24 : DefOk K mg "meet" (topS 24) ["one", "other"])
    (D25 : DefOk K mg "made" (topS 25) ["web"])
    (D27 : DefOk K mg "midst_ties" (topS 27) ["web"])
    (D28 : DefOk K mg "many_with_midsts" (topS 28) ["web"])
    (D29 : DefOk K mg "midst_web" (topS 29) ["web"])
    (D30 : DefOk K mg "whole_web" (topS 30) ["web"])
    (D32 : DefOk K mg "_law_cell_at" (topS 32) ["_law_script", "_law_k"])
    (D33 : DefOk K mg "_law_state" (topS 33) ["_law_script", "_law_k"])
    (D34 : DefOk K mg "_law_take" (topS 34) ["_law_state_here", "_law_many"])
    (D35 : DefOk K mg "_law_drawn" (topS 35) ["_law_state_here", "_law_many", "_law_often"])
    (D36 : DefOk K mg "_law_made" (topS 36) ["_law_web_here"])
    (D37 : DefOk K mg "_law_mixed" (topS 37) ["_law_state_here", "_law_many"])
    (D38 : DefOk K mg "_law_few_ties" (topS 38) ["_law_state_here", "_law_most"])
    (D39 : DefOk K mg "_law_named" (topS 39) ["_law_web_here", "_law_names"])
    (D40 : DefOk K mg "_law_web" (topS 40) ["_law_state_here", "_law_most"])
    (D41 : DefOk K mg "_law_refused" (topS 41) ["_law_call"])
    (D42 : DefOk K mg "_law_same" (topS 42) ["_law_found", "_law_due"])
    (D43 : DefOk K mg "_law_too_great" (topS 43) ["_law_call", "_law_many", "_law_most"])
    (D44 : DefOk K mg "_law_bad_web" (topS 44) ["_law_state_here"])
    (D45 : DefOk K mg "_law_midst" (topS 45) ["_law_web_here", "_law_whole"]) :
    LawAtS l w K C8.CX0 11 63 "_law_script" mg fa h := by
  have ef := hfa.symm.trans (PySem.W.mg_of X G aL)
  cases ef
  have mM := PySem.W.mg_of X G hM
  refine ⟨PySem.W.fnOf "law" "law" (C8.fnArgs (topS 46)) (C8.fnBody (topS 46)) (C8.fnScope (topS 46)) .none kV doc pm an (.ref c) ct, [(c, Pt)], spLaw K Pt, fun p hp => ?_, fun p hp => ?_, fun p hp => ?_, fun s u => .of_eq rfl, fun H a ns _ _ hP hS => ⟨a, ns, rfl, hS, fun p hp => ?_, fun _ => rfl⟩, fun base hB hN hTB => ?_⟩
  · rw [List.mem_singleton.mp hp]
    exact hT
  · rw [List.mem_singleton.mp hp]
    exact nT
  · rw [List.mem_singleton.mp hp]
    exact PySem.W.codeHd_of_K X hd
  · rw [List.mem_singleton.mp hp]
    exact TabS.nil (hP (c, Pt) (List.mem_singleton.mpr rfl))
  have TB := hTB (c, Pt) (List.mem_singleton.mpr rfl)
  have c17 := cal_whole (P := l.prog) (w := w) (base := base) D17 Z
  have c18 := cal_place D18 Z c17
  have c19 := cal_rises (P := l.prog) (w := w) (base := base) D19 Z
  have c20 := cal_tie D20 Z c18
  have c21 := cal_isWeb D21 Z mM c17 c20 c19
  have c22 := cal_need D22 TW c21
  have c24 := cal_meet (P := l.prog) (w := w) (base := base) D24
  have c25 := cal_made D25 Z c24
  have c27 := cal_ties (P := l.prog) (w := w) (base := base) D27 Z
  have c28 := cal_many D28 Z mM T c22
  have c29 := cal_midst D29 Z c28 c27
  have c30 := cal_wholeW D30 Z c28 c27 c25
  have c32 := cal_cell (P := l.prog) (w := w) (base := base) D32 Z
  have c33 := cal_state D33 c32
  have c34 := cal_take (P := l.prog) (w := w) (base := base) D34
  have c35 := cal_drawn D35 Z c34
  have c36 := cal_lmade (P := l.prog) (w := w) (base := base) D36 Z
  have c37 := cal_mixed D37 Z c34
  have c38 := cal_few D38 Z c34 c37
  have c39 := cal_named (P := l.prog) (w := w) (base := base) D39 Z
  have c40 := cal_lweb D40 Z c34 c37 c38 c35 c36 c39
  have c42 := cal_same (P := l.prog) (w := w) (base := base) D42 Z
  have c44 := cal_bad D44 c34
  have c45 := cal_lmidst (P := l.prog) (w := w) (base := base) D45 Z
  obtain ⟨gr, fdr, Fr, br⟩ := D41.ex
  obtain ⟨gt, fdt, Ft, bt⟩ := D43.ex
  have r41 : LamFn l.prog w K mg base gr 9 8 (TTref K (fun i => cs.getD i 0) CE) := lam_ref Fr.fn br Z G13
  have r43 : LamFn l.prog w K mg base gt 10 8 (TTgreat CT) := lam_great Ft.fn bt Z T RT xT Fr.mgf Fr.kp r41 (c42 2) (by decide)
  exact ok_law lL cL TB ⟨Z, c33, c40, c38, c35, c44, c42 4, c45, c29, c30, r41, Fr.mgf, Fr.kp, r43, Ft.mgf, Ft.kp, RW⟩
end Wb
namespace Wb
open PySem PySem.Spec PyProof.Rows L2 Evl Wm RZ LamX
theorem excT_mk {K : PySem.W.Frag} {h : Heap} {mg : Str → Option Value} {x : Str} {C : Addr} (X : K.In h) (G : h.Ns mainGlobals mg) (a : PySem.W.nsIn K mainGlobals x = some (some (.ref C))) (q : PySem.W.excIn K C bsVE "ValueError.__new__" = true) (k : PySem.W.keepIn K (.ref C) = true) (b : PySem.W.subIn K (.ref C) (.type "BaseException") = some true) (t : PySem.W.typeIn K (.ref C) = some (.type "type")) : ExcT K mg x C := ⟨PySem.W.mg_of X G a, q, k, b, t⟩
theorem cls13_of {K : PySem.W.Frag} {h : Heap} {mg : Str → Option Value} {CE c0 c1 c2 c3 c4 c5 c6 c7 c8 c9 c10 c11 c12 : Addr} (X : K.In h) (G : h.Ns mainGlobals mg) (e : PySem.W.nsIn K mainGlobals "WebError" = some (some (.ref CE)))
    (a0 : PySem.W.nsIn K mainGlobals "NoWeb" = some (some (.ref c0)))
    (a1 : PySem.W.nsIn K mainGlobals "NoPlace" = some (some (.ref c1)))
    (a2 : PySem.W.nsIn K mainGlobals "NoPlaces" = some (some (.ref c2)))
    (a3 : PySem.W.nsIn K mainGlobals "NoSharing" = some (some (.ref c3)))
    (a4 : PySem.W.nsIn K mainGlobals "NoRoot" = some (some (.ref c4)))
    (a5 : PySem.W.nsIn K mainGlobals "NoNumber" = some (some (.ref c5)))
    (a6 : PySem.W.nsIn K mainGlobals "NotJoined" = some (some (.ref c6)))
    (a7 : PySem.W.nsIn K mainGlobals "NoTie" = some (some (.ref c7)))
    (a8 : PySem.W.nsIn K mainGlobals "NoText" = some (some (.ref c8)))
    (a9 : PySem.W.nsIn K mainGlobals "NoLine" = some (some (.ref c9)))
    (a10 : PySem.W.nsIn K mainGlobals "NoDeed" = some (some (.ref c10)))
    (a11 : PySem.W.nsIn K mainGlobals "TooGreat" = some (some (.ref c11)))
    (a12 : PySem.W.nsIn K mainGlobals "NoMap" = some (some (.ref c12))) : Cls13 mg (fun i => [c0, c1, c2, c3, c4, c5, c6, c7, c8, c9, c10, c11, c12].getD i 0) CE := by
  refine ⟨fun i x hx => ?_, PySem.W.mg_of X G e⟩
  match i, hx with
  | 0, hx =>
    cases hx
    exact PySem.W.mg_of X G a0
  | 1, hx =>
    cases hx
    exact PySem.W.mg_of X G a1
  | 2, hx =>
    cases hx
    exact PySem.W.mg_of X G a2
  | 3, hx =>
    cases hx
    exact PySem.W.mg_of X G a3
  | 4, hx =>
    cases hx
    exact PySem.W.mg_of X G a4
  | 5, hx =>
    cases hx
    exact PySem.W.mg_of X G a5
  | 6, hx =>
    cases hx
    exact PySem.W.mg_of X G a6
  | 7, hx =>
    cases hx
    exact PySem.W.mg_of X G a7
  | 8, hx =>
    cases hx
    exact PySem.W.mg_of X G a8
  | 9, hx =>
    cases hx
    exact PySem.W.mg_of X G a9
  | 10, hx =>
    cases hx
    exact PySem.W.mg_of X G a10
  | 11, hx =>
    cases hx
    exact PySem.W.mg_of X G a11
  | 12, hx =>
    cases hx
    exact PySem.W.mg_of X G a12
  | i + 13, hx =>
    have z := (List.getElem?_eq_some_iff.mp hx).1
    exact absurd z (by show ¬ i + 13 < 13; omega)
end Wb
open PySem PySem.W PyProof.Rows
set_option maxRecDepth 100000 in
set_option maxHeartbeats 0 in
theorem PySem.Challenge.cw_tiewebs_k70_midst_and_whole_webs_holds : PySem.Challenge.rw_tiewebs_k70_midst_and_whole_webs.Holds := by
  w_on; o_law; k_head; (case hw => w_witness2)
  k_fill
  refine LamX.walk_ofTs (l := PySem.Challenge.rw_tiewebs_k70_midst_and_whole_webs) (n := 63) (k := 11) (x := "_law_script") (CX := fun _ => C8.CX0) rfl (by decide) rfl ⟨rfl, by decide, by decide⟩ (fun w h Y => PySem.W.km_in_of Y) ?F (fun _ _ _ _ _ z => z)
  case F =>
    intro w mg fa h Y KX G hmg
    refine' Wb.law_at (Pt := 354) KX G hmg ?hT ?aL ?lL ?cL ?nT ?hd ?Z ?hM ?TW ?TG ?G13 ?RW ?RT ?xT ?D17 ?D18 ?D19 ?D20 ?D21 ?D22 ?D24 ?D25 ?D27 ?D28 ?D29 ?D30 ?D32 ?D33 ?D34 ?D35 ?D36 ?D37 ?D38 ?D39 ?D40 ?D41 ?D42 ?D43 ?D44 ?D45
    (case hT => exact PySem.W.km_tabs_of Y 354 (List.mem_singleton.mpr rfl))
    (case aL => k_is); (case lL => k_is); (case cL => k_is); (case nT => kernel_rfl); (case hd => kernel_rfl)
    (case Z => exact Wb.blt_mk KX G (by kernel_rfl)); (case hM => k_is)
    (case TW => (refine' Wb.excT_mk KX G ?TWza ?TWzq ?TWzk ?TWzb ?TWzt; (case TWza => k_is); (case TWzq => kernel_rfl); (case TWzk => k_is); (case TWzb => k_is); (case TWzt => k_is)))
    (case TG => (refine' Wb.tooT_mk KX G ?TGza ?TGzxL ?TGzrb ?TGzsa ?TGzex ?TGzty ?TGzkC ?TGzn1 ?TGzn2 ?TGzi ?TGztf ?TGzl ?TGzc; (case TGza => k_is); (case TGzxL => k_is); (case TGzrb => rfl); (case TGzsa => k_is); (case TGzex => k_is); (case TGzty => k_is); (case TGzkC => k_is); (case TGzn1 => k_is); (case TGzn2 => k_is); (case TGzi => k_is); (case TGztf => k_is); (case TGzl => k_is); (case TGzc => k_is)))
    (case G13 => (refine' Wb.cls13_of KX G ?G13ze ?G13za0 ?G13za1 ?G13za2 ?G13za3 ?G13za4 ?G13za5 ?G13za6 ?G13za7 ?G13za8 ?G13za9 ?G13za10 ?G13za11 ?G13za12; (case G13ze => k_is); (case G13za0 => k_is); (case G13za1 => k_is); (case G13za2 => k_is); (case G13za3 => k_is); (case G13za4 => k_is); (case G13za5 => k_is); (case G13za6 => k_is); (case G13za7 => k_is); (case G13za8 => k_is); (case G13za9 => k_is); (case G13za10 => k_is); (case G13za11 => k_is); (case G13za12 => k_is)))
    (case RW => (refine' ⟨Wb.excD_mk ?RWzb0 ?RWzb1 ?RWzb2 ?RWzb3 ?RWzb4 ?RWzb5 ?RWzb6 ?RWzb7, ?RWzx, Wb.chk13_at ?RWzs, ?RWzv⟩; (case RWzb0 => k_is); (case RWzb1 => k_is); (case RWzb2 => k_is); (case RWzb3 => k_is); (case RWzb4 => k_is); (case RWzb5 => k_is); (case RWzb6 => k_is); (case RWzb7 => k_is); (case RWzx => kernel_rfl); (case RWzs => kernel_rfl); (case RWzv => kernel_rfl)))
    (case RT => (refine' ⟨Wb.excD_mk ?RTzb0 ?RTzb1 ?RTzb2 ?RTzb3 ?RTzb4 ?RTzb5 ?RTzb6 ?RTzb7, ?RTzx, Wb.chk13_at ?RTzs, ?RTzv⟩; (case RTzb0 => k_is); (case RTzb1 => k_is); (case RTzb2 => k_is); (case RTzb3 => k_is); (case RTzb4 => k_is); (case RTzb5 => k_is); (case RTzb6 => k_is); (case RTzb7 => k_is); (case RTzx => kernel_rfl); (case RTzs => kernel_rfl); (case RTzv => kernel_rfl)))
    (case xT => kernel_rfl)
    (case D17 => (refine' Wb.defOk_mk KX G Wb.bnd17 ?D17za ?D17zl ?D17zc ?D17zk; (case D17za => k_is); (case D17zl => k_is); (case D17zc => k_is); (case D17zk => k_is)))
    (case D18 => (refine' Wb.defOk_mk KX G Wb.bnd18 ?D18za ?D18zl ?D18zc ?D18zk; (case D18za => k_is); (case D18zl => k_is); (case D18zc => k_is); (case D18zk => k_is)))
    (case D19 => (refine' Wb.defOk_mk KX G Wb.bnd19 ?D19za ?D19zl ?D19zc ?D19zk; (case D19za => k_is); (case D19zl => k_is); (case D19zc => k_is); (case D19zk => k_is)))
    (case D20 => (refine' Wb.defOk_mk KX G Wb.bnd20 ?D20za ?D20zl ?D20zc ?D20zk; (case D20za => k_is); (case D20zl => k_is); (case D20zc => k_is); (case D20zk => k_is)))
    (case D21 => (refine' Wb.defOk_mk KX G Wb.bnd21 ?D21za ?D21zl ?D21zc ?D21zk; (case D21za => k_is); (case D21zl => k_is); (case D21zc => k_is); (case D21zk => k_is)))
    (case D22 => (refine' Wb.defOk_mk KX G Wb.bnd22 ?D22za ?D22zl ?D22zc ?D22zk; (case D22za => k_is); (case D22zl => k_is); (case D22zc => k_is); (case D22zk => k_is)))
    (case D24 => (refine' Wb.defOk_mk KX G Wb.bnd24 ?D24za ?D24zl ?D24zc ?D24zk; (case D24za => k_is); (case D24zl => k_is); (case D24zc => k_is); (case D24zk => k_is)))
    (case D25 => (refine' Wb.defOk_mk KX G Wb.bnd25 ?D25za ?D25zl ?D25zc ?D25zk; (case D25za => k_is); (case D25zl => k_is); (case D25zc => k_is); (case D25zk => k_is)))
    (case D27 => (refine' Wb.defOk_mk KX G Wb.bnd27 ?D27za ?D27zl ?D27zc ?D27zk; (case D27za => k_is); (case D27zl => k_is); (case D27zc => k_is); (case D27zk => k_is)))
    (case D28 => (refine' Wb.defOk_mk KX G Wb.bnd28 ?D28za ?D28zl ?D28zc ?D28zk; (case D28za => k_is); (case D28zl => k_is); (case D28zc => k_is); (case D28zk => k_is)))
    (case D29 => (refine' Wb.defOk_mk KX G Wb.bnd29 ?D29za ?D29zl ?D29zc ?D29zk; (case D29za => k_is); (case D29zl => k_is); (case D29zc => k_is); (case D29zk => k_is)))
    (case D30 => (refine' Wb.defOk_mk KX G Wb.bnd30 ?D30za ?D30zl ?D30zc ?D30zk; (case D30za => k_is); (case D30zl => k_is); (case D30zc => k_is); (case D30zk => k_is)))
    (case D32 => (refine' Wb.defOk_mk KX G Wb.bnd32 ?D32za ?D32zl ?D32zc ?D32zk; (case D32za => k_is); (case D32zl => k_is); (case D32zc => k_is); (case D32zk => k_is)))
    (case D33 => (refine' Wb.defOk_mk KX G Wb.bnd33 ?D33za ?D33zl ?D33zc ?D33zk; (case D33za => k_is); (case D33zl => k_is); (case D33zc => k_is); (case D33zk => k_is)))
    (case D34 => (refine' Wb.defOk_mk KX G Wb.bnd34 ?D34za ?D34zl ?D34zc ?D34zk; (case D34za => k_is); (case D34zl => k_is); (case D34zc => k_is); (case D34zk => k_is)))
    (case D35 => (refine' Wb.defOk_mk KX G Wb.bnd35 ?D35za ?D35zl ?D35zc ?D35zk; (case D35za => k_is); (case D35zl => k_is); (case D35zc => k_is); (case D35zk => k_is)))
    (case D36 => (refine' Wb.defOk_mk KX G Wb.bnd36 ?D36za ?D36zl ?D36zc ?D36zk; (case D36za => k_is); (case D36zl => k_is); (case D36zc => k_is); (case D36zk => k_is)))
    (case D37 => (refine' Wb.defOk_mk KX G Wb.bnd37 ?D37za ?D37zl ?D37zc ?D37zk; (case D37za => k_is); (case D37zl => k_is); (case D37zc => k_is); (case D37zk => k_is)))
    (case D38 => (refine' Wb.defOk_mk KX G Wb.bnd38 ?D38za ?D38zl ?D38zc ?D38zk; (case D38za => k_is); (case D38zl => k_is); (case D38zc => k_is); (case D38zk => k_is)))
    (case D39 => (refine' Wb.defOk_mk KX G Wb.bnd39 ?D39za ?D39zl ?D39zc ?D39zk; (case D39za => k_is); (case D39zl => k_is); (case D39zc => k_is); (case D39zk => k_is)))
    (case D40 => (refine' Wb.defOk_mk KX G Wb.bnd40 ?D40za ?D40zl ?D40zc ?D40zk; (case D40za => k_is); (case D40zl => k_is); (case D40zc => k_is); (case D40zk => k_is)))
    (case D41 => (refine' Wb.defOk_mk KX G Wb.bnd41 ?D41za ?D41zl ?D41zc ?D41zk; (case D41za => k_is); (case D41zl => k_is); (case D41zc => k_is); (case D41zk => k_is)))
    (case D42 => (refine' Wb.defOk_mk KX G Wb.bnd42 ?D42za ?D42zl ?D42zc ?D42zk; (case D42za => k_is); (case D42zl => k_is); (case D42zc => k_is); (case D42zk => k_is)))
    (case D43 => (refine' Wb.defOk_mk KX G Wb.bnd43 ?D43za ?D43zl ?D43zc ?D43zk; (case D43za => k_is); (case D43zl => k_is); (case D43zc => k_is); (case D43zk => k_is)))
    (case D44 => (refine' Wb.defOk_mk KX G Wb.bnd44 ?D44za ?D44zl ?D44zc ?D44zk; (case D44za => k_is); (case D44zl => k_is); (case D44zc => k_is); (case D44zk => k_is)))
    (case D45 => (refine' Wb.defOk_mk KX G Wb.bnd45 ?D45za ?D45zl ?D45zc ?D45zk; (case D45za => k_is); (case D45zl => k_is); (case D45zc => k_is); (case D45zk => k_is)))
