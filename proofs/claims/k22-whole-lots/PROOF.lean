import PyProof.Rows.All
import Wide.All
import OpenK.AllK
import Wide.FinOn
import HandS.ForMost
import HandS.Deep
import PyProof.InstNe
import HandS.OwnEq
import PyProof.ReprRoads
import KE.KDictKeyed
import KE.KDictDisplayH
import KE.KeyNested
import HandS.TupLen
import KE.KDictCopyH
import KE.KDictList
import HandS.IsInst
import HandS.Conv
import HandS.Style
import HandS.TupAny
import HandS.SortInts
import HandS.WideBits
import HandS.Replace
import HandS.Zip
import HandS.SetFor
import HandS.Strs
import HandS.Walk
import HandS.TupSets
import HandS.SortOrd
import KE.GoesZip
import KE.GoesMore
import KE.GoesEnum
import KE.KDictZip
import HandS.SetKeys
import HandS.NestedK
import HandS.Codes
import KE.SortData
import HandS.EndTab
import HandS.EndBits
import PySem.Challenge.RW_widefills_k22_whole_lots_as_machines_and
set_option Elab.async false
set_option linter.all false
/-! Plain laws for k22, part 1: searching breadth first, as the program does it. -/
namespace M22

section
variable {α : Type} [DecidableEq α]

/-- what the inner loop does: each that is not there yet is put behind -/
def addAll (found : List α) : List α → List α
  | [] => found
  | x :: xs => addAll (if x ∈ found then found else found ++ [x]) xs

theorem addAll_nil (f : List α) : addAll f [] = f := rfl
theorem addAll_cons (f : List α) (x : α) (xs : List α) : addAll f (x :: xs) = addAll (if x ∈ f then f else f ++ [x]) xs := rfl
theorem addAll_snoc (f : List α) (xs : List α) (x : α) : addAll f (xs ++ [x]) = if x ∈ addAll f xs then addAll f xs else addAll f xs ++ [x] := by
  induction xs generalizing f with
  | nil => rfl
  | cons y ys ih => rw [List.cons_append, addAll_cons, addAll_cons, ih]
theorem addAll_append (f : List α) (xs ys : List α) : addAll f (xs ++ ys) = addAll (addAll f xs) ys := by
  induction xs generalizing f with
  | nil => rfl
  | cons y r ih => rw [List.cons_append, addAll_cons, addAll_cons, ih]
theorem addAll_prefix (f xs : List α) : f <+: addAll f xs := by
  induction xs generalizing f with
  | nil => exact List.prefix_refl _
  | cons y r ih =>
    rw [addAll_cons]
    refine List.IsPrefix.trans ?_ (ih _)
    split
    · exact List.prefix_refl _
    · exact List.prefix_append _ _
theorem mem_addAll {f xs : List α} {z : α} : z ∈ addAll f xs ↔ z ∈ f ∨ z ∈ xs := by
  induction xs generalizing f with
  | nil => simp [addAll_nil]
  | cons y r ih =>
    rw [addAll_cons, ih]
    split
    · rename_i h
      constructor
      · rintro (h1 | h1)
        · exact .inl h1
        · exact .inr (List.mem_cons_of_mem _ h1)
      · rintro (h1 | h1)
        · exact .inl h1
        · rcases List.mem_cons.mp h1 with e | h1
          · exact .inl (e ▸ h)
          · exact .inr h1
    · rw [List.mem_append, List.mem_singleton, List.mem_cons]
      constructor
      · rintro ((h1 | h1) | h1)
        · exact .inl h1
        · exact .inr (.inl h1)
        · exact .inr (.inr h1)
      · rintro (h1 | h1 | h1)
        · exact .inl (.inl h1)
        · exact .inl (.inr h1)
        · exact .inr h1
theorem nodup_snoc {f : List α} {x : α} (h : f.Nodup) (hx : ¬ x ∈ f) : (f ++ [x]).Nodup := by
  rw [List.nodup_append]
  refine ⟨h, List.nodup_cons.mpr ⟨List.not_mem_nil, List.nodup_nil⟩, fun a ha b hb e => ?_⟩
  rw [List.mem_singleton.mp hb] at e
  exact hx (e ▸ ha)
theorem addAll_nodup {f xs : List α} (h : f.Nodup) : (addAll f xs).Nodup := by
  induction xs generalizing f with
  | nil => exact h
  | cons y r ih =>
    rw [addAll_cons]
    split
    · exact ih h
    · rename_i hy
      exact ih (nodup_snoc h hy)
theorem addAll_length_le (f xs : List α) : (addAll f xs).length ≤ f.length + xs.length := by
  induction xs generalizing f with
  | nil => exact Nat.le_refl _
  | cons y r ih =>
    rw [addAll_cons]
    refine Nat.le_trans (ih _) ?_
    split
    · rw [List.length_cons]; omega
    · rw [List.length_append, List.length_cons, List.length_cons, List.length_nil]; omega

/-- the search: what is found when the first at of them are done -/
inductive Bfs (next : α → List α) (a : α) : List α → Nat → Prop
  | start : Bfs next a [a] 0
  | turn {found : List α} {n : Nat} {x : α} : Bfs next a found n → found[n]? = some x → Bfs next a (addAll found (next x)) (n + 1)

variable {next : α → List α} {a : α}

theorem Bfs.nodup {f : List α} {n : Nat} (b : Bfs next a f n) : f.Nodup := by
  induction b with
  | start => exact List.nodup_cons.mpr ⟨List.not_mem_nil, List.nodup_nil⟩
  | turn _ _ ih => exact addAll_nodup ih
theorem Bfs.le {f : List α} {n : Nat} (b : Bfs next a f n) : n ≤ f.length := by
  induction b with
  | start => exact Nat.zero_le _
  | @turn f n x _ h ih =>
    have h1 := (List.getElem?_eq_some_iff.mp h).1
    have h2 := (addAll_prefix f (next x)).length_le
    omega
theorem Bfs.head {f : List α} {n : Nat} (b : Bfs next a f n) : f[0]? = some a := by
  induction b with
  | start => rfl
  | @turn f n x _ h ih =>
    obtain ⟨t, e⟩ := addAll_prefix f (next x)
    rw [← e, List.getElem?_append_left (List.getElem?_eq_some_iff.mp ih).1]
    exact ih
theorem Bfs.pos {f : List α} {n : Nat} (b : Bfs next a f n) : 0 < f.length := (List.getElem?_eq_some_iff.mp b.head).1
theorem Bfs.mem {f : List α} {n : Nat} (b : Bfs next a f n) : a ∈ f := List.mem_of_getElem? b.head
/-- what is done is closed -/
theorem Bfs.done {f : List α} {n : Nat} (b : Bfs next a f n) : ∀ (i : Nat) (x y : α), i < n → f[i]? = some x → y ∈ next x → y ∈ f := by
  induction b with
  | start => intro i x y h; omega
  | @turn f n x0 _ h ih =>
    intro i x y hi hx hy
    obtain ⟨t, e⟩ := addAll_prefix f (next x0)
    have hlt : i < f.length := by
      have := (List.getElem?_eq_some_iff.mp h).1
      omega
    have hx' : f[i]? = some x := by
      rw [← e, List.getElem?_append_left hlt] at hx
      exact hx
    rw [mem_addAll]
    by_cases hn : i = n
    · subst hn
      rw [h] at hx'
      cases hx'
      exact .inr hy
    · exact .inl (ih i x y (by omega) hx' hy)
theorem Bfs.closed {f : List α} {n : Nat} (b : Bfs next a f n) (h : f.length ≤ n) {x y : α} (hx : x ∈ f) (hy : y ∈ next x) : y ∈ f := by
  obtain ⟨i, hi⟩ := List.getElem?_of_mem hx
  have := (List.getElem?_eq_some_iff.mp hi).1
  exact b.done i x y (by omega) hi hy
/-- what is found can be reached -/
theorem Bfs.ind {f : List α} {n : Nat} (b : Bfs next a f n) {P : α → Prop} (h0 : P a) (hs : ∀ x y, P x → y ∈ next x → P y) : ∀ x ∈ f, P x := by
  induction b with
  | start => intro x hx; rw [List.mem_singleton.mp hx]; exact h0
  | @turn f n x0 _ h ih =>
    intro x hx
    rcases mem_addAll.mp hx with hx | hx
    · exact ih x hx
    · exact hs x0 x (ih x0 (List.mem_of_getElem? h)) hx
theorem Bfs.det {f f' : List α} {n : Nat} (b : Bfs next a f n) (b' : Bfs next a f' n) : f = f' := by
  induction b generalizing f' with
  | start => cases b'; rfl
  | @turn f n x _ h ih =>
    cases b' with
    | @turn f2 _ x2 b2 h2 =>
      have e := ih b2
      subst e
      rw [h] at h2
      cases h2
      rfl
/-- an earlier stage is a beginning of a later one -/
theorem Bfs.pre {f f' : List α} {n m : Nat} (b : Bfs next a f n) (b' : Bfs next a f' m) (h : n ≤ m) : f <+: f' := by
  induction b' generalizing f n with
  | start =>
    have : n = 0 := by omega
    subst this
    cases b
    exact List.prefix_refl _
  | @turn f2 m x b2 hx ih =>
    by_cases e : n = m + 1
    · subst e
      rw [b.det (.turn b2 hx)]
      exact List.prefix_refl _
    · exact (ih b (by omega)).trans (addAll_prefix _ _)
/-- the stage ahead of a later one -/
theorem Bfs.back {f : List α} {n : Nat} (b : Bfs next a f n) : ∀ m, m ≤ n → ∃ g, Bfs next a g m := by
  induction b with
  | start => intro m h; have : m = 0 := by omega
             subst this; exact ⟨_, .start⟩
  | @turn f n x b2 hx ih =>
    intro m h
    by_cases e : m = n + 1
    · subst e; exact ⟨_, .turn b2 hx⟩
    · exact ih m (by omega)
/-- the end is one -/
theorem Bfs.fin {f f' : List α} {n m : Nat} (b : Bfs next a f n) (h : f.length ≤ n) (b' : Bfs next a f' m) (h' : f'.length ≤ m) : f = f' ∧ n = m := by
  have key : ∀ {f f' : List α} {n m : Nat}, Bfs next a f n → f.length ≤ n → Bfs next a f' m → n < m → False := by
    intro f f' n m b h b' hlt
    obtain ⟨g, bg⟩ := b'.back (n + 1) hlt
    cases bg with
    | @turn g2 _ x b2 hx =>
      have e := b.det b2
      subst e
      have := (List.getElem?_eq_some_iff.mp hx).1
      omega
  rcases Nat.lt_trichotomy n m with q | q | q
  · exact (key b h b' q).elim
  · subst q; exact ⟨b.det b', rfl⟩
  · exact (key b' h' b q).elim
/-- any stage is a beginning of the end -/
theorem Bfs.pre_fin {f f' : List α} {n m : Nat} (b : Bfs next a f n) (b' : Bfs next a f' m) (h' : f'.length ≤ m) : f <+: f' ∧ n ≤ m := by
  by_cases q : n ≤ m
  · exact ⟨b.pre b' q, q⟩
  · obtain ⟨g, bg⟩ := b.back (m + 1) (by omega)
    cases bg with
    | @turn g2 _ x b2 hx =>
      have e := b'.det b2
      subst e
      have := (List.getElem?_eq_some_iff.mp hx).1
      omega
/-- within a turn -/
theorem Bfs.mid {f f' : List α} {n m : Nat} {x : α} (b : Bfs next a f n) (hx : f[n]? = some x) (b' : Bfs next a f' m) (h' : f'.length ≤ m) (ys zs : List α) (e : next x = ys ++ zs) : addAll f ys <+: f' := by
  refine List.IsPrefix.trans ?_ (Bfs.pre_fin (.turn b hx) b' h').1
  rw [e, addAll_append]
  exact addAll_prefix _ _
end

/-! ### a list of unlike numbers below a bound is short -/
theorem nodup_bound : ∀ {n : Nat} {l : List Nat}, l.Nodup → (∀ x ∈ l, x < n) → l.length ≤ n
  | 0, [], _, _ => Nat.le_refl _
  | 0, x :: r, _, hb => absurd (hb x List.mem_cons_self) (Nat.not_lt_zero _)
  | n + 1, l, h, hb => by
    by_cases hm : n ∈ l
    · have h1 := nodup_bound (n := n) (l := l.erase n) (h.erase n) (fun x hx => by
        have hx' := List.mem_of_mem_erase hx
        have := hb x hx'
        have hne : x ≠ n := fun e => by
          subst e
          exact (List.Nodup.not_mem_erase h) hx
        omega)
      rw [List.length_erase_of_mem hm] at h1
      omega
    · have h1 := nodup_bound (n := n) h (fun x hx => by
        have := hb x hx
        have hne : x ≠ n := fun e => hm (e ▸ hx)
        omega)
      omega
end M22

/-! Plain laws for k22, part 2: machines of states, what they let, least forms. -/
namespace M22

/-! ### machines -/
abbrev Steps := List (List Nat)
/-- the next state -/
def nx (S : Steps) (s l : Nat) : Nat := (S.getD s []).getD l 0
/-- words are lists of letters -/
def run (S : Steps) (s : Nat) (w : List Nat) : Nat := w.foldl (nx S) s
theorem run_nil (S : Steps) (s : Nat) : run S s [] = s := rfl
theorem run_cons (S : Steps) (s l : Nat) (w : List Nat) : run S s (l :: w) = run S (nx S s l) w := rfl
theorem run_snoc (S : Steps) (s l : Nat) (w : List Nat) : run S s (w ++ [l]) = nx S (run S s w) l := by
  unfold run; rw [List.foldl_append]; rfl
theorem run_append (S : Steps) (s : Nat) (w v : List Nat) : run S s (w ++ v) = run S (run S s w) v := by
  unfold run; rw [List.foldl_append]
/-- a word of L letters -/
def Wd (L : Nat) (w : List Nat) : Prop := ∀ l ∈ w, l < L
theorem Wd.nil {L : Nat} : Wd L [] := fun _ h => absurd h List.not_mem_nil
theorem Wd.cons {L l : Nat} {w : List Nat} (h : l < L) (hw : Wd L w) : Wd L (l :: w) := fun k hk => by
  rcases List.mem_cons.mp hk with e | hk
  · rw [e]; exact h
  · exact hw k hk
theorem Wd.snoc {L l : Nat} {w : List Nat} (h : l < L) (hw : Wd L w) : Wd L (w ++ [l]) := fun k hk => by
  rcases List.mem_append.mp hk with hk | hk
  · exact hw k hk
  · rw [List.mem_singleton.mp hk]; exact h
theorem Wd.head {L l : Nat} {w : List Nat} (h : Wd L (l :: w)) : l < L := h l List.mem_cons_self
theorem Wd.tail {L l : Nat} {w : List Nat} (h : Wd L (l :: w)) : Wd L w := fun k hk => h k (List.mem_cons_of_mem _ hk)
theorem Wd.left {L : Nat} {w v : List Nat} (h : Wd L (w ++ v)) : Wd L w := fun k hk => h k (List.mem_append_left _ hk)
theorem Wd.right {L : Nat} {w v : List Nat} (h : Wd L (w ++ v)) : Wd L v := fun k hk => h k (List.mem_append_right _ hk)
theorem Wd.append {L : Nat} {w v : List Nat} (h : Wd L w) (h' : Wd L v) : Wd L (w ++ v) := fun k hk => by
  rcases List.mem_append.mp hk with hk | hk
  · exact h k hk
  · exact h' k hk

/-- the table of next states is whole -/
structure Whole (L : Nat) (S : Steps) : Prop where
  pos : 0 < S.length
  row : ∀ r ∈ S, r.length = L ∧ ∀ x ∈ r, x < S.length
theorem getD_of {α : Type} {l : List α} {i : Nat} {d x : α} (h : l[i]? = some x) : l.getD i d = x := by
  rw [List.getD_eq_getElem?_getD, h]; rfl
theorem get_some {α : Type} {l : List α} {i : Nat} (h : i < l.length) : ∃ x, l[i]? = some x := ⟨l[i], List.getElem?_eq_getElem h⟩
theorem Whole.at {L : Nat} {S : Steps} (W : Whole L S) {s : Nat} (h : s < S.length) : ∃ r, S[s]? = some r ∧ r.length = L ∧ ∀ x ∈ r, x < S.length := by
  obtain ⟨r, e⟩ := get_some h
  exact ⟨r, e, W.row r (List.mem_of_getElem? e)⟩
theorem Whole.row_at {L : Nat} {S : Steps} (W : Whole L S) {s : Nat} (h : s < S.length) : (S.getD s []).length = L := by
  obtain ⟨r, e, h1, _⟩ := W.at h
  rw [getD_of e]; exact h1
theorem Whole.nx {L : Nat} {S : Steps} (W : Whole L S) {s l : Nat} (h : s < S.length) (hl : l < L) : nx S s l < S.length := by
  obtain ⟨r, e, h1, h2⟩ := W.at h
  unfold M22.nx
  rw [getD_of e]
  obtain ⟨x, ex⟩ := get_some (show l < r.length by omega)
  rw [getD_of ex]
  exact h2 x (List.mem_of_getElem? ex)
theorem Whole.mem_row {L : Nat} {S : Steps} (W : Whole L S) {s x : Nat} (h : s < S.length) : x ∈ S.getD s [] ↔ ∃ l, l < L ∧ x = M22.nx S s l := by
  obtain ⟨r, e, h1, h2⟩ := W.at h
  unfold M22.nx
  rw [getD_of e]
  constructor
  · intro hx
    obtain ⟨i, hi⟩ := List.getElem?_of_mem hx
    exact ⟨i, by rw [← h1]; exact (List.getElem?_eq_some_iff.mp hi).1, (getD_of hi).symm⟩
  · rintro ⟨l, hl, rfl⟩
    obtain ⟨x, ex⟩ := get_some (show l < r.length by omega)
    rw [getD_of ex]
    exact List.mem_of_getElem? ex
theorem Whole.run {L : Nat} {S : Steps} (W : Whole L S) {s : Nat} {w : List Nat} (h : s < S.length) (hw : Wd L w) : run S s w < S.length := by
  induction w generalizing s with
  | nil => exact h
  | cons l w ih => rw [run_cons]; exact ih (W.nx h hw.head) hw.tail
/-- a row by its letters -/
theorem Whole.row_eq {L : Nat} {S : Steps} (W : Whole L S) {s : Nat} (h : s < S.length) : S.getD s [] = (List.range L).map (M22.nx S s) := by
  have hl := W.row_at h
  apply List.ext_getElem?
  intro i
  by_cases hi : i < L
  · obtain ⟨x, ex⟩ := get_some (show i < (S.getD s []).length by omega)
    rw [ex, List.getElem?_map, List.getElem?_range hi]
    show some x = some (M22.nx S s i)
    unfold M22.nx
    rw [getD_of ex]
  · rw [List.getElem?_eq_none (by omega), List.getElem?_eq_none (by rw [List.length_map, List.length_range]; omega)]

/-- s and t let the same words -/
def Alike (L : Nat) (S : Steps) (E : List Nat) (s t : Nat) : Prop := ∀ w, Wd L w → (run S s w ∈ E ↔ run S t w ∈ E)
theorem Alike.refl {L : Nat} {S : Steps} {E : List Nat} (s : Nat) : Alike L S E s s := fun _ _ => Iff.rfl
theorem Alike.symm {L : Nat} {S : Steps} {E : List Nat} {s t : Nat} (h : Alike L S E s t) : Alike L S E t s := fun w hw => (h w hw).symm
theorem Alike.trans {L : Nat} {S : Steps} {E : List Nat} {s t u : Nat} (h : Alike L S E s t) (h' : Alike L S E t u) : Alike L S E s u := fun w hw => (h w hw).trans (h' w hw)
theorem Alike.nx {L : Nat} {S : Steps} {E : List Nat} {s t l : Nat} (h : Alike L S E s t) (hl : l < L) : Alike L S E (nx S s l) (nx S t l) := fun w hw => h (l :: w) (Wd.cons hl hw)
theorem Alike.end_ {L : Nat} {S : Steps} {E : List Nat} {s t : Nat} (h : Alike L S E s t) : s ∈ E ↔ t ∈ E := h [] Wd.nil

/-- two machines let the same words -/
def SameLang (L : Nat) (S : Steps) (E : List Nat) (S' : Steps) (E' : List Nat) : Prop := ∀ w, Wd L w → (run S 0 w ∈ E ↔ run S' 0 w ∈ E')

/-- found from 0 -/
abbrev row (S : Steps) (s : Nat) : List Nat := S.getD s []

/-- a least form: whole, numbered as found, no two alike, ends rising -/
structure Least (L : Nat) (T : Steps) (F : List Nat) : Prop where
  whole : Whole L T
  order : Bfs (row T) 0 (List.range T.length) T.length
  apart : ∀ i j, i < T.length → j < T.length → Alike L T F i j → i = j
  ends : F = (List.range T.length).filter (fun i => decide (i ∈ F))
theorem Least.end_lt {L : Nat} {T : Steps} {F : List Nat} (h : Least L T F) {i : Nat} (hi : i ∈ F) : i < T.length := by
  rw [h.ends] at hi
  exact List.mem_range.mp (List.mem_filter.mp hi).1
/-- each state is met -/
theorem Least.reach {L : Nat} {T : Steps} {F : List Nat} (h : Least L T F) {i : Nat} (hi : i < T.length) : ∃ w, Wd L w ∧ run T 0 w = i := by
  refine (h.order.ind (P := fun i => i < T.length ∧ ∃ w, Wd L w ∧ run T 0 w = i) ⟨h.whole.pos, [], Wd.nil, rfl⟩ (fun x y hx hy => ?_) i (List.mem_range.mpr hi)).2
  obtain ⟨hlt, w, hw, e⟩ := hx
  obtain ⟨l, hl, rfl⟩ := (h.whole.mem_row hlt).mp hy
  exact ⟨h.whole.nx hlt hl, w ++ [l], hw.snoc hl, by rw [run_snoc, e]⟩

/-! ### there is one least form -/
section
variable {L : Nat} {T T' : Steps} {F F' : List Nat}
/-- a state of the one and one of the other let the same words -/
def Twin (L : Nat) (T : Steps) (F : List Nat) (T' : Steps) (F' : List Nat) (i j : Nat) : Prop := i < T.length ∧ j < T'.length ∧ ∀ w, Wd L w → (run T i w ∈ F ↔ run T' j w ∈ F')
theorem Twin.inj (h : Least L T F) {i i' j : Nat} (a : Twin L T F T' F' i j) (b : Twin L T F T' F' i' j) : i = i' :=
  h.apart i i' a.1 b.1 fun w hw => (a.2.2 w hw).trans (b.2.2 w hw).symm
theorem Twin.fun_ (h' : Least L T' F') {i j j' : Nat} (a : Twin L T F T' F' i j) (b : Twin L T F T' F' i j') : j = j' :=
  h'.apart j j' a.2.1 b.2.1 fun w hw => (a.2.2 w hw).symm.trans (b.2.2 w hw)
theorem Twin.nx (h : Least L T F) (h' : Least L T' F') {i j l : Nat} (a : Twin L T F T' F' i j) (hl : l < L) : Twin L T F T' F' (nx T i l) (nx T' j l) :=
  ⟨h.whole.nx a.1 hl, h'.whole.nx a.2.1 hl, fun w hw => a.2.2 (l :: w) (Wd.cons hl hw)⟩

/-- two lists, place by place -/
inductive Pairs (R : Nat → Nat → Prop) : List Nat → List Nat → Prop
  | nil : Pairs R [] []
  | cons {a b : Nat} {as bs : List Nat} : R a b → Pairs R as bs → Pairs R (a :: as) (b :: bs)
theorem Pairs.length {R : Nat → Nat → Prop} {as bs : List Nat} (p : Pairs R as bs) : as.length = bs.length := by
  induction p with
  | nil => rfl
  | cons _ _ ih => rw [List.length_cons, List.length_cons, ih]
theorem Pairs.get {R : Nat → Nat → Prop} {as bs : List Nat} (p : Pairs R as bs) {i a b : Nat} (ha : as[i]? = some a) (hb : bs[i]? = some b) : R a b := by
  induction p generalizing i with
  | nil => simp at ha
  | cons r _ ih =>
    cases i with
    | zero => simp at ha hb; subst ha; subst hb; exact r
    | succ i => exact ih (by simpa using ha) (by simpa using hb)
theorem Pairs.append {R : Nat → Nat → Prop} {as bs cs ds : List Nat} (p : Pairs R as bs) (q : Pairs R cs ds) : Pairs R (as ++ cs) (bs ++ ds) := by
  induction p with
  | nil => exact q
  | cons r _ ih => exact .cons r ih
theorem Pairs.mem {R : Nat → Nat → Prop} {as bs : List Nat} (p : Pairs R as bs) {a : Nat} (h : a ∈ as) : ∃ b ∈ bs, R a b := by
  induction p with
  | nil => exact absurd h List.not_mem_nil
  | cons r _ ih =>
    rcases List.mem_cons.mp h with e | h
    · subst e; exact ⟨_, List.mem_cons_self, r⟩
    · obtain ⟨b, hb, q⟩ := ih h
      exact ⟨b, List.mem_cons_of_mem _ hb, q⟩
theorem Pairs.mem' {R : Nat → Nat → Prop} {as bs : List Nat} (p : Pairs R as bs) {b : Nat} (h : b ∈ bs) : ∃ a ∈ as, R a b := by
  induction p with
  | nil => exact absurd h List.not_mem_nil
  | cons r _ ih =>
    rcases List.mem_cons.mp h with e | h
    · subst e; exact ⟨_, List.mem_cons_self, r⟩
    · obtain ⟨a, ha, q⟩ := ih h
      exact ⟨a, List.mem_cons_of_mem _ ha, q⟩
/-- by a one to one relation both searches keep step -/
theorem Pairs.addAll {R : Nat → Nat → Prop} (inj : ∀ a a' b, R a b → R a' b → a = a') (fn : ∀ a b b', R a b → R a b' → b = b') {xs ys : List Nat} (q : Pairs R xs ys) : ∀ {as bs : List Nat}, Pairs R as bs → Pairs R (addAll as xs) (M22.addAll bs ys) := by
  induction q with
  | nil => intro as bs p; exact p
  | @cons x y xs ys r _ ih =>
    intro as bs p
    rw [addAll_cons, addAll_cons]
    have iff : x ∈ as ↔ y ∈ bs := by
      constructor
      · intro h
        obtain ⟨b, hb, q⟩ := p.mem h
        rw [fn x y b r q]; exact hb
      · intro h
        obtain ⟨a, ha, q⟩ := p.mem' h
        rw [inj x a y r q]; exact ha
    by_cases h : x ∈ as
    · rw [if_pos h, if_pos (iff.mp h)]
      exact ih p
    · rw [if_neg h, if_neg (fun z => h (iff.mpr z))]
      exact ih (p.append (.cons r .nil))
theorem Pairs.map2 {R : Nat → Nat → Prop} {f g : Nat → Nat} : ∀ ls : List Nat, (∀ l ∈ ls, R (f l) (g l)) → Pairs R (ls.map f) (ls.map g)
  | [], _ => .nil
  | l :: ls, h => .cons (h l List.mem_cons_self) (Pairs.map2 ls fun k hk => h k (List.mem_cons_of_mem _ hk))

theorem Least.keep_step (h : Least L T F) (h' : Least L T' F') (sl : SameLang L T F T' F') {f : List Nat} {n : Nat} (b : Bfs (row T) 0 f n) : ∀ {f' : List Nat}, Bfs (row T') 0 f' n → Pairs (Twin L T F T' F') f f' := by
  induction b with
  | start =>
    intro f' b'
    cases b'
    exact .cons ⟨h.whole.pos, h'.whole.pos, sl⟩ .nil
  | @turn f n x b hx ih =>
    intro f2 b2
    cases b2 with
    | @turn f' _ x' b' hx' =>
      have p := ih b'
      have r : Twin L T F T' F' x x' := p.get hx hx'
      refine Pairs.addAll (R := Twin L T F T' F') (fun a a' b => Twin.inj h) (fun a b b' => Twin.fun_ h') ?_ p
      show Pairs _ (T.getD x []) (T'.getD x' [])
      rw [h.whole.row_eq r.1, h'.whole.row_eq r.2.1]
      exact Pairs.map2 _ fun l hl => r.nx h h' (List.mem_range.mp hl)
/-- THE LEAST FORM IS ONE -/
theorem Least.one (h : Least L T F) (h' : Least L T' F') (sl : SameLang L T F T' F') : T = T' ∧ F = F' := by
  -- both searches end at the same turn
  have key : ∀ {T T' : Steps} {F F' : List Nat}, Least L T F → Least L T' F' → SameLang L T F T' F' → T.length ≤ T'.length → T.length = T'.length := by
    intro T T' F F' h h' sl hle
    obtain ⟨g, bg⟩ := h'.order.back T.length hle
    have p := h.keep_step h' sl h.order bg
    have hl := p.length
    rw [List.length_range] at hl
    have := (bg.fin (by omega) h'.order (by rw [List.length_range]; exact Nat.le_refl _)).2
    exact this
  have sl' : SameLang L T' F' T F := fun w hw => (sl w hw).symm
  have hn : T.length = T'.length := by
    rcases Nat.le_total T.length T'.length with q | q
    · exact key h h' sl q
    · exact (key h' h sl' q).symm
  have p := h.keep_step h' sl h.order (by rw [hn]; exact h'.order)
  have tw : ∀ i, i < T.length → Twin L T F T' F' i i := fun i hi => p.get (i := i) (List.getElem?_range hi) (List.getElem?_range (by omega))
  have eT : T = T' := by
    apply List.ext_getElem?
    intro i
    by_cases hi : i < T.length
    · obtain ⟨r, e, hr, hr2⟩ := h.whole.at hi
      obtain ⟨r', e', hr', hr2'⟩ := h'.whole.at (show i < T'.length by omega)
      rw [e, e']
      have e1 : T.getD i [] = r := getD_of e
      have e2 : T'.getD i [] = r' := getD_of e'
      rw [← e1, ← e2, h.whole.row_eq hi, h'.whole.row_eq (by omega)]
      congr 1
      refine List.map_congr_left fun l hl => ?_
      have hlt := List.mem_range.mp hl
      have a := (tw i hi).nx h h' hlt
      have b := tw (nx T i l) (h.whole.nx hi hlt)
      exact Twin.fun_ h' b a
    · rw [List.getElem?_eq_none (by omega), List.getElem?_eq_none (by omega)]
  refine ⟨eT, ?_⟩
  rw [h.ends, h'.ends, hn]
  refine List.filter_congr fun i hi => ?_
  have := (tw i (by rw [hn]; exact List.mem_range.mp hi)).2.2 [] Wd.nil
  rw [run_nil, run_nil] at this
  exact decide_eq_decide.mpr this
end
end M22

/-! Plain laws for k22, part 3: parting the states, the machine of the parts. -/
namespace M22

/-! ### how many values a function has on a list -/
def cnt {β : Type} [DecidableEq β] (f : Nat → β) : List Nat → Nat
  | [] => 0
  | s :: r => (if f s ∈ r.map f then 0 else 1) + cnt f r
section
variable {β γ : Type} [DecidableEq β] [DecidableEq γ]
theorem cnt_le_len (f : Nat → β) : ∀ l : List Nat, cnt f l ≤ l.length
  | [] => Nat.le_refl _
  | s :: r => by
    have := cnt_le_len f r
    unfold cnt
    rw [List.length_cons]
    split <;> omega
theorem cnt_pos (f : Nat → β) : ∀ {l : List Nat}, l ≠ [] → 0 < cnt f l
  | [], h => absurd rfl h
  | [s], _ => by unfold cnt; simp [cnt]
  | s :: t :: r, _ => by
    have := cnt_pos f (l := t :: r) (by simp)
    unfold cnt
    omega
/-- f by h: where h is alike, f is; then h has as many values at least, and where as many, they part alike -/
theorem cnt_refine (f : Nat → β) (h : Nat → γ) : ∀ l : List Nat, (∀ s ∈ l, ∀ t ∈ l, h s = h t → f s = f t) →
    cnt f l ≤ cnt h l ∧ (cnt f l = cnt h l → ∀ s ∈ l, ∀ t ∈ l, f s = f t → h s = h t)
  | [], _ => ⟨Nat.le_refl _, fun _ s hs => absurd hs List.not_mem_nil⟩
  | a :: r, hyp => by
    obtain ⟨i1, i2⟩ := cnt_refine f h r fun s hs t ht => hyp s (List.mem_cons_of_mem _ hs) t (List.mem_cons_of_mem _ ht)
    have hd : h a ∈ r.map h → f a ∈ r.map f := by
      intro hm
      obtain ⟨t, ht, e⟩ := List.mem_map.mp hm
      exact List.mem_map.mpr ⟨t, ht, hyp t (List.mem_cons_of_mem _ ht) a List.mem_cons_self e⟩
    unfold cnt
    refine ⟨?_, fun e => ?_⟩
    · by_cases q : h a ∈ r.map h
      · rw [if_pos q, if_pos (hd q)]; omega
      · rw [if_neg q]; split <;> omega
    · have e2 : cnt f r = cnt h r := by
        by_cases q : h a ∈ r.map h
        · rw [if_pos q, if_pos (hd q)] at e; omega
        · rw [if_neg q] at e; split at e <;> omega
      have key := i2 e2
      have hd2 : f a ∈ r.map f → h a ∈ r.map h := by
        intro hm
        by_cases q : h a ∈ r.map h
        · exact q
        · rw [if_neg q, if_pos hm] at e; omega
      have one : ∀ t ∈ r, f a = f t → h a = h t := by
        intro t ht et
        have hm : f a ∈ r.map f := List.mem_map.mpr ⟨t, ht, et.symm⟩
        obtain ⟨u, hu, eu⟩ := List.mem_map.mp (hd2 hm)
        have e3 : f u = f a := hyp u (List.mem_cons_of_mem _ hu) a List.mem_cons_self eu
        rw [← eu]
        exact key u hu t ht (e3.trans et)
      intro s hs t ht est
      rcases List.mem_cons.mp hs with es | hs1
      · rcases List.mem_cons.mp ht with et | ht1
        · rw [es, et]
        · rw [es]
          exact one t ht1 (es ▸ est)
      · rcases List.mem_cons.mp ht with et | ht1
        · rw [et]
          exact (one s hs1 (et ▸ est).symm).symm
        · exact key s hs1 t ht1 est
theorem cnt_congr (f : Nat → β) (h : Nat → γ) (l : List Nat) (hyp : ∀ s ∈ l, ∀ t ∈ l, (h s = h t ↔ f s = f t)) : cnt f l = cnt h l := by
  have a := (cnt_refine f h l fun s hs t ht => (hyp s hs t ht).mp).1
  have b := (cnt_refine h f l fun s hs t ht => (hyp s hs t ht).mpr).1
  omega
/-- a list of the unlike values is as long -/
theorem cnt_list (f : Nat → β) : ∀ (l : List Nat) (ys : List β), ys.Nodup → (∀ v, v ∈ ys ↔ v ∈ l.map f) → ys.length = cnt f l
  | [], ys, _, hm => by
    cases ys with
    | nil => rfl
    | cons y r => exact absurd ((hm y).mp List.mem_cons_self) (by simp)
  | a :: r, ys, nd, hm => by
    unfold cnt
    by_cases q : f a ∈ r.map f
    · rw [if_pos q, Nat.zero_add]
      refine cnt_list f r ys nd fun v => (hm v).trans ?_
      rw [List.map_cons, List.mem_cons]
      constructor
      · rintro (e | h)
        · rw [e]; exact q
        · exact h
      · exact .inr
    · rw [if_neg q]
      have hin : f a ∈ ys := (hm _).mpr (by rw [List.map_cons]; exact List.mem_cons_self)
      have := cnt_list f r (ys.erase (f a)) (nd.erase _) fun v => by
        by_cases e : v = f a
        · subst e
          constructor
          · intro h; exact absurd h nd.not_mem_erase
          · intro h; exact absurd h q
        · rw [List.mem_erase_of_ne e, hm, List.map_cons, List.mem_cons]
          constructor
          · rintro (h | h)
            · exact absurd h e
            · exact h
          · exact .inr
      rw [List.length_erase_of_mem hin] at this
      have hp : 0 < ys.length := List.length_pos_of_mem hin
      omega
end

/-! ### parting -/
section
variable {L : Nat} {S : Steps} {E st : List Nat} {g g' : Nat → Nat}
/-- the states led to: closed, each a state -/
structure Led (L : Nat) (S : Steps) (st : List Nat) : Prop where
  whole : Whole L S
  lt : ∀ s ∈ st, s < S.length
  cl : ∀ s ∈ st, ∀ l, l < L → nx S s l ∈ st
/-- g parts no alike states, and parts ends from others -/
structure Part (L : Nat) (S : Steps) (E st : List Nat) (g : Nat → Nat) : Prop where
  no : ∀ s ∈ st, ∀ t ∈ st, Alike L S E s t → g s = g t
  en : ∀ s ∈ st, ∀ t ∈ st, g s = g t → (s ∈ E ↔ t ∈ E)
def Stable (L : Nat) (S : Steps) (st : List Nat) (g : Nat → Nat) : Prop := ∀ s ∈ st, ∀ t ∈ st, g s = g t → ∀ l, l < L → g (nx S s l) = g (nx S t l)
def key (S : Steps) (g : Nat → Nat) (s : Nat) : List Nat := g s :: (S.getD s []).map g
theorem key_iff (D : Led L S st) {s t : Nat} (hs : s ∈ st) (ht : t ∈ st) : key S g s = key S g t ↔ g s = g t ∧ ∀ l, l < L → g (nx S s l) = g (nx S t l) := by
  unfold key
  rw [D.whole.row_eq (D.lt s hs), D.whole.row_eq (D.lt t ht), List.map_map, List.map_map, List.cons.injEq]
  constructor
  · rintro ⟨h1, h2⟩
    refine ⟨h1, fun l hl => ?_⟩
    have := congrArg (fun z => z[l]?) h2
    simp only [List.getElem?_map, List.getElem?_range hl, Option.map_some, Function.comp] at this
    exact Option.some.inj this
  · rintro ⟨h1, h2⟩
    exact ⟨h1, List.map_congr_left fun l hl => h2 l (List.mem_range.mp hl)⟩
/-- one round more -/
def Finer (S : Steps) (st : List Nat) (g g' : Nat → Nat) : Prop := ∀ s ∈ st, ∀ t ∈ st, (g' s = g' t ↔ key S g s = key S g t)
theorem Part.finer (D : Led L S st) (p : Part L S E st g) (f : Finer S st g g') : Part L S E st g' where
  no := fun s hs t ht h => (f s hs t ht).mpr ((key_iff D hs ht).mpr ⟨p.no s hs t ht h, fun l hl => p.no _ (D.cl s hs l hl) _ (D.cl t ht l hl) (h.nx hl)⟩)
  en := fun s hs t ht h => p.en s hs t ht ((key_iff D hs ht).mp ((f s hs t ht).mp h)).1
theorem Finer.le (D : Led L S st) (f : Finer S st g g') : cnt g st ≤ cnt g' st ∧ (cnt g st = cnt g' st → ∀ s ∈ st, ∀ t ∈ st, g s = g t → g' s = g' t) :=
  cnt_refine g g' st fun s hs t ht h => ((key_iff D hs ht).mp ((f s hs t ht).mp h)).1
theorem Finer.same (D : Led L S st) (f : Finer S st g g') (h : Stable L S st g) : ∀ s ∈ st, ∀ t ∈ st, g' s = g' t ↔ g s = g t := fun s hs t ht => by
  rw [f s hs t ht, key_iff D hs ht]
  exact ⟨fun q => q.1, fun q => ⟨q, h s hs t ht q⟩⟩
theorem Finer.stable (D : Led L S st) (f : Finer S st g g') (h : Stable L S st g) : Stable L S st g' := fun s hs t ht e l hl => by
  have same := f.same D h
  exact (same _ (D.cl s hs l hl) _ (D.cl t ht l hl)).mpr (h s hs t ht ((same s hs t ht).mp e) l hl)
/-- no more values than before: nothing is parted any more -/
theorem Finer.end_ (D : Led L S st) (f : Finer S st g g') (e : cnt g st = cnt g' st) : Stable L S st g ∧ Stable L S st g' := by
  have k := (f.le D).2 e
  have h : Stable L S st g := fun s hs t ht q l hl => ((key_iff D hs ht).mp ((f s hs t ht).mp (k s hs t ht q))).2 l hl
  exact ⟨h, f.stable D h⟩
/-- each round parts more, or never again -/
theorem Finer.more (D : Led L S st) (f : Finer S st g g') {n : Nat} (h : Stable L S st g ∨ n ≤ cnt g st) : Stable L S st g' ∨ n + 1 ≤ cnt g' st := by
  by_cases q : Stable L S st g
  · exact .inl (f.stable D q)
  · have h1 := h.resolve_left q
    have h2 := (f.le D).1
    by_cases e : cnt g st = cnt g' st
    · exact .inl (f.end_ D e).2
    · exact .inr (by omega)
theorem Part.alike (D : Led L S st) (p : Part L S E st g) (h : Stable L S st g) : ∀ s ∈ st, ∀ t ∈ st, (g s = g t ↔ Alike L S E s t) := fun s hs t ht => by
  refine ⟨fun e w hw => ?_, p.no s hs t ht⟩
  induction w generalizing s t with
  | nil => exact p.en s hs t ht e
  | cons l w ih =>
    rw [run_cons, run_cons]
    exact ih _ (D.cl s hs l hw.head) _ (D.cl t ht l hw.head) (h s hs t ht e l hw.head) hw.tail
end

/-! ### the machine of the parts -/
theorem idxOf_get {l : List Nat} {i x : Nat} (nd : l.Nodup) (h : l[i]? = some x) : l.idxOf x = i := by
  obtain ⟨hi, e⟩ := List.getElem?_eq_some_iff.mp h
  rw [← e]
  exact nd.idxOf_getElem i hi
theorem get_idxOf {l : List Nat} {x : Nat} (h : x ∈ l) : l[l.idxOf x]? = some x := by
  have hl := List.idxOf_lt_length_of_mem h
  rw [List.getElem?_eq_getElem hl, List.getElem_idxOf hl]
/-- by places in the end's order, the search finds 0, 1, 2, .. -/
theorem addAll_places {order : List Nat} (nd : order.Nodup) : ∀ (xs f : List Nat), addAll f xs <+: order → addAll (List.range f.length) (xs.map order.idxOf) = List.range (addAll f xs).length
  | [], _, _ => rfl
  | x :: xs, f, hp => by
    rw [List.map_cons, addAll_cons, addAll_cons]
    rw [addAll_cons] at hp
    have hf : (if x ∈ f then f else f ++ [x]) <+: order := (addAll_prefix _ xs).trans hp
    have ih := addAll_places nd xs _ hp
    have iff : order.idxOf x ∈ List.range f.length ↔ x ∈ f := by
      rw [List.mem_range]
      by_cases q : x ∈ f
      · obtain ⟨i, hi⟩ := List.getElem?_of_mem q
        have hlt := (List.getElem?_eq_some_iff.mp hi).1
        rw [if_pos q] at hf
        obtain ⟨t, e⟩ := hf
        have : order[i]? = some x := by rw [← e, List.getElem?_append_left hlt]; exact hi
        rw [idxOf_get nd this]
        exact ⟨fun _ => q, fun _ => hlt⟩
      · rw [if_neg q] at hf
        obtain ⟨t, e⟩ := hf
        have : order[f.length]? = some x := by
          rw [← e, List.getElem?_append_left (by rw [List.length_append]; simp), List.getElem?_append_right (Nat.le_refl _)]
          simp
        rw [idxOf_get nd this]
        exact ⟨fun h => absurd h (Nat.lt_irrefl _), fun h => absurd h q⟩
    by_cases q : x ∈ f
    · rw [if_pos (iff.mpr q), if_pos q]
      rw [if_pos q] at ih
      exact ih
    · rw [if_neg (fun z => q (iff.mp z)), if_neg q]
      rw [if_neg q] at ih hf
      obtain ⟨t, e⟩ := hf
      have e2 : order[f.length]? = some x := by
        rw [← e, List.getElem?_append_left (by rw [List.length_append]; simp), List.getElem?_append_right (Nat.le_refl _)]
        simp
      rw [idxOf_get nd e2, ← List.range_succ]
      rw [List.length_append, List.length_singleton] at ih
      exact ih

section
variable {L : Nat} {S : Steps} {E st order : List Nat} {g rep : Nat → Nat} {n m : Nat}
/-- the parts' machine: its next states, its ends -/
def quoT (S : Steps) (g rep : Nat → Nat) (order : List Nat) : Steps := order.map fun c => (S.getD (rep c) []).map fun x => order.idxOf (g x)
def quoF (E : List Nat) (rep : Nat → Nat) (order : List Nat) : List Nat := (List.range order.length).filter fun i => decide (rep (order.getD i 0) ∈ E)
/-- what is known of the parts -/
structure Quo (L : Nat) (S : Steps) (E st : List Nat) (g rep : Nat → Nat) : Prop where
  led : Led L S st
  zero : 0 ∈ st
  alike : ∀ s ∈ st, ∀ t ∈ st, (g s = g t ↔ Alike L S E s t)
  rep_in : ∀ s ∈ st, rep (g s) ∈ st
  rep_eq : ∀ s ∈ st, g (rep (g s)) = g s
abbrev quoN (S : Steps) (g rep : Nat → Nat) (c : Nat) : List Nat := (S.getD (rep c) []).map g

theorem Quo.next (Z : Quo L S E st g rep) {s : Nat} (hs : s ∈ st) : quoN S g rep (g s) = (List.range L).map fun l => g (nx S s l) := by
  have hr := Z.rep_in s hs
  show (S.getD (rep (g s)) []).map g = _
  rw [Z.led.whole.row_eq (Z.led.lt _ hr), List.map_map]
  refine List.map_congr_left fun l hl => ?_
  have hl := List.mem_range.mp hl
  have a := (Z.alike _ hr s hs).mp (Z.rep_eq s hs)
  exact (Z.alike _ (Z.led.cl _ hr l hl) _ (Z.led.cl s hs l hl)).mpr (a.nx hl)
theorem Quo.of_order (Z : Quo L S E st g rep) (b : Bfs (quoN S g rep) (g 0) order m) : ∀ c ∈ order, ∃ s ∈ st, g s = c := by
  refine b.ind (P := fun c => ∃ s ∈ st, g s = c) ⟨0, Z.zero, rfl⟩ ?_
  rintro _ d ⟨s, hs, rfl⟩ hd
  rw [Z.next hs] at hd
  obtain ⟨l, hl, rfl⟩ := List.mem_map.mp hd
  exact ⟨_, Z.led.cl s hs l (List.mem_range.mp hl), rfl⟩
variable (b0 : Bfs (row S) 0 st n) (hn : st.length ≤ n) (b : Bfs (quoN S g rep) (g 0) order m) (hm : order.length ≤ m)
include b0 b hm in
theorem Quo.in_order (Z : Quo L S E st g rep) : ∀ s ∈ st, g s ∈ order := by
  intro s hs
  refine (b0.ind (P := fun s => s ∈ st ∧ g s ∈ order) ⟨Z.zero, b.mem⟩ ?_ s hs).2
  rintro x y ⟨hx, hgx⟩ hy
  obtain ⟨l, hl, rfl⟩ := (Z.led.whole.mem_row (Z.led.lt x hx)).mp hy
  refine ⟨Z.led.cl x hx l hl, b.closed hm hgx ?_⟩
  rw [Z.next hx]
  exact List.mem_map.mpr ⟨l, List.mem_range.mpr hl, rfl⟩
theorem quoT_length : (quoT S g rep order).length = order.length := by unfold quoT; rw [List.length_map]
theorem quoT_row {i c : Nat} (h : order[i]? = some c) : (quoT S g rep order).getD i [] = (quoN S g rep c).map order.idxOf := by
  unfold quoT
  rw [List.getD_eq_getElem?_getD, List.getElem?_map, h]
  show (S.getD (rep c) []).map _ = ((S.getD (rep c) []).map g).map _
  rw [List.map_map]
  rfl
include b0 b hm in
theorem Quo.step (Z : Quo L S E st g rep) {s l : Nat} (hs : s ∈ st) (hl : l < L) : nx (quoT S g rep order) (order.idxOf (g s)) l = order.idxOf (g (nx S s l)) := by
  have hin := Z.in_order b0 b hm s hs
  show ((quoT S g rep order).getD (order.idxOf (g s)) []).getD l 0 = _
  rw [quoT_row (get_idxOf hin), Z.next hs, List.map_map, List.getD_eq_getElem?_getD, List.getElem?_map, List.getElem?_range hl]
  rfl
include b0 b hm in
theorem Quo.run (Z : Quo L S E st g rep) (w : List Nat) (hw : Wd L w) : ∀ s ∈ st, run S s w ∈ st ∧ run (quoT S g rep order) (order.idxOf (g s)) w = order.idxOf (g (M22.run S s w)) := by
  induction w with
  | nil => intro s hs; exact ⟨hs, rfl⟩
  | cons l w ih =>
    intro s hs
    rw [run_cons, run_cons, Z.step b0 b hm hs hw.head]
    exact ih hw.tail _ (Z.led.cl s hs l hw.head)
include b0 b hm in
theorem Quo.ends (Z : Quo L S E st g rep) {s : Nat} (hs : s ∈ st) : order.idxOf (g s) ∈ quoF E rep order ↔ s ∈ E := by
  have hin := Z.in_order b0 b hm s hs
  unfold quoF
  rw [List.mem_filter, List.mem_range, getD_of (get_idxOf hin), decide_eq_true_iff]
  have a := (Z.alike _ (Z.rep_in s hs) s hs).mp (Z.rep_eq s hs)
  have e := a.end_
  exact ⟨fun h => e.mp h.2, fun h => ⟨List.idxOf_lt_length_of_mem hin, e.mpr h⟩⟩
include b0 b hm in
theorem Quo.same (Z : Quo L S E st g rep) : SameLang L S E (quoT S g rep order) (quoF E rep order) := fun w hw => by
  have r := Z.run b0 b hm w hw 0 Z.zero
  rw [idxOf_get b.nodup b.head] at r
  rw [r.2]
  exact (Z.ends b0 b hm r.1).symm
include b0 b hm in
theorem Quo.whole (Z : Quo L S E st g rep) : Whole L (quoT S g rep order) where
  pos := by rw [quoT_length]; exact b.pos
  row := fun r hr => by
    unfold quoT at hr
    obtain ⟨c, hc, rfl⟩ := List.mem_map.mp hr
    obtain ⟨s, hs, rfl⟩ := Z.of_order b c hc
    have hr := Z.rep_in s hs
    refine ⟨by rw [List.length_map]; exact Z.led.whole.row_at (Z.led.lt _ hr), fun x hx => ?_⟩
    obtain ⟨y, hy, rfl⟩ := List.mem_map.mp hx
    rw [quoT_length]
    obtain ⟨l, hl, rfl⟩ := (Z.led.whole.mem_row (Z.led.lt _ hr)).mp hy
    exact List.idxOf_lt_length_of_mem (Z.in_order b0 b hm _ (Z.led.cl _ hr l hl))
include b hm in
theorem Quo.bfs {f : List Nat} {k : Nat} (c : Bfs (quoN S g rep) (g 0) f k) : Bfs (row (quoT S g rep order)) 0 (List.range f.length) k := by
  induction c with
  | start => exact .start
  | @turn f k x c hx ih =>
    have hlt := (List.getElem?_eq_some_iff.mp hx).1
    have hp := (Bfs.pre_fin (.turn c hx) b hm).1
    have t := Bfs.turn ih (List.getElem?_range hlt)
    have ho : order[k]? = some x := by
      obtain ⟨z, e⟩ := (addAll_prefix f (quoN S g rep x)).trans hp
      rw [← e, List.getElem?_append_left hlt]
      exact hx
    have e : row (quoT S g rep order) k = (quoN S g rep x).map order.idxOf := quoT_row ho
    rw [e, addAll_places b.nodup _ _ hp] at t
    exact t
include b0 b hm in
/-- THE MACHINE OF THE PARTS IS THE LEAST FORM -/
theorem Quo.least (Z : Quo L S E st g rep) : Least L (quoT S g rep order) (quoF E rep order) where
  whole := Z.whole b0 b hm
  order := by
    have e : m = order.length := Nat.le_antisymm b.le hm
    have := Quo.bfs b hm b
    rw [quoT_length, ← e] at *
    rw [e] at this ⊢
    exact this
  apart := fun i j hi hj h => by
    rw [quoT_length] at hi hj
    obtain ⟨c, hc⟩ := get_some hi
    obtain ⟨d, hd⟩ := get_some hj
    obtain ⟨s, hs, rfl⟩ := Z.of_order b c (List.mem_of_getElem? hc)
    obtain ⟨t, ht, rfl⟩ := Z.of_order b d (List.mem_of_getElem? hd)
    have ei := idxOf_get b.nodup hc
    have ej := idxOf_get b.nodup hd
    have : Alike L S E s t := fun w hw => by
      have q := h w hw
      have r1 := Z.run b0 b hm w hw s hs
      have r2 := Z.run b0 b hm w hw t ht
      rw [ei] at r1
      rw [ej] at r2
      rw [r1.2, r2.2, Z.ends b0 b hm r1.1, Z.ends b0 b hm r2.1] at q
      exact q
    rw [← ei, ← ej, (Z.alike s hs t ht).mpr this]
  ends := by
    rw [quoT_length]
    conv => lhs; unfold quoF
    refine List.filter_congr fun i hi => ?_
    have : i ∈ quoF E rep order ↔ rep (order.getD i 0) ∈ E := by
      unfold quoF
      rw [List.mem_filter, decide_eq_true_iff]
      exact ⟨fun h => h.2, fun h => ⟨hi, h⟩⟩
    exact (decide_eq_decide.mpr this).symm
theorem Quo.len (Z : Quo L S E st g rep) (b : Bfs (quoN S g rep) (g 0) order m) : order.length ≤ st.length := by
  have h1 : order.length = cnt (fun s => s) order := cnt_list _ _ _ b.nodup (fun v => by simp)
  have nd := b.nodup
  have sub : ∀ c ∈ order, c ∈ st.map g := fun c hc => by
    obtain ⟨s, hs, e⟩ := Z.of_order b c hc
    exact List.mem_map.mpr ⟨s, hs, e⟩
  clear h1
  have gen : ∀ (o : List Nat), o.Nodup → (∀ c ∈ o, c ∈ st.map g) → o.length ≤ (st.map g).length := by
    intro o
    generalize st.map g = l
    induction l generalizing o with
    | nil =>
      intro _ h
      cases o with
      | nil => exact Nat.le_refl _
      | cons c r => exact absurd (h c List.mem_cons_self) List.not_mem_nil
    | cons a l ih =>
      intro nd h
      by_cases q : a ∈ o
      · have := ih (o.erase a) (nd.erase _) fun c hc => by
          have hne : c ≠ a := fun e => by subst e; exact nd.not_mem_erase hc
          rcases List.mem_cons.mp (h c (List.mem_of_mem_erase hc)) with e | e
          · exact absurd e hne
          · exact e
        rw [List.length_erase_of_mem q] at this
        rw [List.length_cons]
        omega
      · have := ih o nd fun c hc => by
          rcases List.mem_cons.mp (h c hc) with e | e
          · subst e; exact absurd hc q
          · exact e
        rw [List.length_cons]
        omega
  have := gen order nd sub
  rw [List.length_map] at this
  exact this
end
end M22

/-! Plain laws for k22, part 4: classes of words, pairs met, lots widened. -/
namespace M22

/-! ### searching depth first, as the program does it -/
section
variable {α : Type} [DecidableEq α]
inductive Dfs (next : α → List α) (a : α) : List α → List α → Prop
  | start : Dfs next a [a] [a]
  | turn {met left : List α} {x : α} : Dfs next a met (left ++ [x]) → Dfs next a (addAll met (next x)) (left ++ (addAll met (next x)).drop met.length)
variable {next : α → List α} {a : α}
theorem mem_drop_addAll {met xs : List α} {y : α} (h : y ∈ addAll met xs) (hn : ¬ y ∈ met) : y ∈ (addAll met xs).drop met.length := by
  obtain ⟨t, e⟩ := addAll_prefix met xs
  rw [← e] at h ⊢
  rw [List.drop_left]
  exact (List.mem_append.mp h).resolve_left hn
theorem Dfs.nodup {m l : List α} (d : Dfs next a m l) : m.Nodup := by
  induction d with
  | start => exact List.nodup_cons.mpr ⟨List.not_mem_nil, List.nodup_nil⟩
  | turn _ ih => exact addAll_nodup ih
theorem Dfs.sub {m l : List α} (d : Dfs next a m l) : ∀ x ∈ l, x ∈ m := by
  induction d with
  | start => exact fun _ h => h
  | @turn m l x _ ih =>
    intro y hy
    rcases List.mem_append.mp hy with hy | hy
    · exact mem_addAll.mpr (.inl (ih y (List.mem_append_left _ hy)))
    · exact List.mem_of_mem_drop hy
theorem Dfs.mem {m l : List α} (d : Dfs next a m l) : a ∈ m := by
  induction d with
  | start => exact List.mem_singleton.mpr rfl
  | turn _ ih => exact mem_addAll.mpr (.inl ih)
theorem Dfs.done {m l : List α} (d : Dfs next a m l) : ∀ x ∈ m, ¬ x ∈ l → ∀ y ∈ next x, y ∈ m := by
  induction d with
  | start => intro x hx hn; exact absurd hx hn
  | @turn m l x0 _ ih =>
    intro x hx hn y hy
    by_cases hm : x ∈ m
    · by_cases e : x = x0
      · subst e; exact mem_addAll.mpr (.inr hy)
      · refine mem_addAll.mpr (.inl (ih x hm (fun h => ?_) y hy))
        rcases List.mem_append.mp h with h | h
        · exact hn (List.mem_append_left _ h)
        · exact e (List.mem_singleton.mp h)
    · exact absurd (List.mem_append_right _ (mem_drop_addAll hx hm)) hn
theorem Dfs.closed {m : List α} (d : Dfs next a m []) : ∀ x ∈ m, ∀ y ∈ next x, y ∈ m := fun x hx => d.done x hx List.not_mem_nil
theorem Dfs.ind {m l : List α} (d : Dfs next a m l) {P : α → Prop} (h0 : P a) (hs : ∀ x y, P x → y ∈ next x → P y) : ∀ x ∈ m, P x := by
  induction d with
  | start => intro x hx; rw [List.mem_singleton.mp hx]; exact h0
  | @turn m l x0 d ih =>
    intro x hx
    rcases mem_addAll.mp hx with hx | hx
    · exact ih x hx
    · exact hs x0 x (ih x0 (d.sub x0 (List.mem_append_right _ (List.mem_singleton.mpr rfl)))) hx
end

/-! ### pairs of states -/
/-- pairs met: of both tables' next states, letter by letter -/
def nxP (L : Nat) (A B : Steps) (p : Nat × Nat) : List (Nat × Nat) := (List.range L).map fun l => (nx A p.1 l, nx B p.2 l)
section
variable {L : Nat} {A B : Steps}
def Met (L : Nat) (A B : Steps) (p : Nat × Nat) : Prop := ∃ w, Wd L w ∧ p = (run A 0 w, run B 0 w)
theorem Met.zero : Met L A B (0, 0) := ⟨[], Wd.nil, rfl⟩
theorem Met.next {p q : Nat × Nat} (h : Met L A B p) (hq : q ∈ nxP L A B p) : Met L A B q := by
  obtain ⟨w, hw, rfl⟩ := h
  obtain ⟨l, hl, rfl⟩ := List.mem_map.mp hq
  exact ⟨w ++ [l], hw.snoc (List.mem_range.mp hl), by rw [run_snoc, run_snoc]⟩
theorem all_met {m : List (Nat × Nat)} (h0 : (0, 0) ∈ m) (hc : ∀ x ∈ m, ∀ y ∈ nxP L A B x, y ∈ m) : ∀ w, Wd L w → (run A 0 w, run B 0 w) ∈ m := by
  have gen : ∀ (w : List Nat) (p : Nat × Nat), p ∈ m → Wd L w → (run A p.1 w, run B p.2 w) ∈ m := by
    intro w
    induction w with
    | nil => intro p hp _; exact hp
    | cons l w ih =>
      intro p hp hw
      exact ih (nx A p.1 l, nx B p.2 l) (hc p hp _ (List.mem_map.mpr ⟨l, List.mem_range.mpr hw.head, rfl⟩)) hw.tail
  exact fun w hw => gen w (0, 0) h0 hw
theorem Met.lt (WA : Whole L A) (WB : Whole L B) {p : Nat × Nat} (h : Met L A B p) : p.1 < A.length ∧ p.2 < B.length := by
  obtain ⟨w, hw, rfl⟩ := h
  exact ⟨WA.run WA.pos hw, WB.run WB.pos hw⟩
/-- unlike pairs of so many are few -/
theorem pairs_few {m : List (Nat × Nat)} {a b : Nat} (nd : m.Nodup) (h : ∀ p ∈ m, p.1 < a ∧ p.2 < b) : m.length ≤ a * b := by
  have inj : ∀ p ∈ m, ∀ q ∈ m, p.1 * b + p.2 = q.1 * b + q.2 → p = q := by
    intro p hp q hq e
    have h1 := (h p hp).2
    have h2 := (h q hq).2
    have e1 : p.1 = q.1 := by
      have d1 : (p.2 + b * p.1) / b = p.1 := by rw [Nat.add_mul_div_left _ _ (by omega), Nat.div_eq_of_lt h1]; omega
      have d2 : (q.2 + b * q.1) / b = q.1 := by rw [Nat.add_mul_div_left _ _ (by omega), Nat.div_eq_of_lt h2]; omega
      rw [← d1, ← d2]
      congr 1
      rw [Nat.mul_comm b p.1, Nat.mul_comm b q.1]
      omega
    have e2 : p.2 = q.2 := by rw [e1] at e; omega
    exact Prod.ext e1 e2
  have nd2 : (m.map fun p => p.1 * b + p.2).Nodup := by
    clear h
    induction m with
    | nil => exact List.nodup_nil
    | cons p r ih =>
      obtain ⟨n1, n2⟩ := List.nodup_cons.mp nd
      refine List.nodup_cons.mpr ⟨fun hm => ?_, ih n2 fun p hp q hq => inj p (List.mem_cons_of_mem _ hp) q (List.mem_cons_of_mem _ hq)⟩
      obtain ⟨q, hq, e⟩ := List.mem_map.mp hm
      have := inj q (List.mem_cons_of_mem _ hq) p List.mem_cons_self e
      rw [this] at hq
      exact n1 hq
  have := nodup_bound (n := a * b) nd2 fun x hx => by
    obtain ⟨p, hp, rfl⟩ := List.mem_map.mp hx
    obtain ⟨h1, h2⟩ := h p hp
    have : p.1 * b + b ≤ a * b := by
      have := Nat.mul_le_mul_right b (show p.1 + 1 ≤ a by omega)
      rw [Nat.succ_mul] at this
      exact this
    omega
  rw [List.length_map] at this
  exact this
end

/-! ### rising lists -/
def Rising (l : List Nat) : Prop := l.Pairwise (· < ·)
theorem rising_one : ∀ {a b : List Nat}, Rising a → Rising b → (∀ x, x ∈ a ↔ x ∈ b) → a = b
  | [], [], _, _, _ => rfl
  | [], y :: s, _, _, h => absurd ((h y).mpr List.mem_cons_self) List.not_mem_nil
  | x :: r, [], _, _, h => absurd ((h x).mp List.mem_cons_self) List.not_mem_nil
  | x :: r, y :: s, ha, hb, h => by
    obtain ⟨a1, a2⟩ := List.pairwise_cons.mp ha
    obtain ⟨b1, b2⟩ := List.pairwise_cons.mp hb
    have e : x = y := by
      rcases List.mem_cons.mp ((h x).mp List.mem_cons_self) with e | e
      · exact e
      · rcases List.mem_cons.mp ((h y).mpr List.mem_cons_self) with e' | e'
        · exact e'.symm
        · have := b1 x e
          have := a1 y e'
          omega
    subst e
    refine congrArg _ (rising_one a2 b2 fun z => ?_)
    constructor
    · intro hz
      rcases List.mem_cons.mp ((h z).mp (List.mem_cons_of_mem _ hz)) with e | e
      · subst e; exact absurd (a1 z hz) (Nat.lt_irrefl _)
      · exact e
    · intro hz
      rcases List.mem_cons.mp ((h z).mpr (List.mem_cons_of_mem _ hz)) with e | e
      · subst e; exact absurd (b1 z hz) (Nat.lt_irrefl _)
      · exact e
theorem rising_range (n : Nat) : Rising (List.range n) := List.pairwise_lt_range
theorem Rising.filter {l : List Nat} (h : Rising l) (p : Nat → Bool) : Rising (l.filter p) := List.Pairwise.filter p h
theorem Rising.nodup {l : List Nat} (h : Rising l) : l.Nodup := List.Pairwise.imp (fun h e => by subst e; exact Nat.lt_irrefl _ h) h

/-! ### classes -/
abbrev Mach := Steps × List Nat
abbrev Change := List (List Nat)
def idle (Ms : List Mach) : Change := Ms.map fun m => List.range m.1.length
def changed : List Mach → Change → Nat → Change
  | m :: Ms, r :: c, l => r.map (fun s => nx m.1 s l) :: changed Ms c l
  | _, _, _ => []
def nextC (L : Nat) (Ms : List Mach) (c : Change) : List Change := (List.range L).map (changed Ms c)
/-- the change of a word -/
def wc (Ms : List Mach) (w : List Nat) : Change := Ms.map fun m => (List.range m.1.length).map fun s => run m.1 s w
theorem wc_nil (Ms : List Mach) : wc Ms [] = idle Ms := by
  unfold wc idle
  refine List.map_congr_left fun m _ => ?_
  exact List.map_id' _
theorem wc_snoc (w : List Nat) (l : Nat) : ∀ Ms : List Mach, changed Ms (wc Ms w) l = wc Ms (w ++ [l])
  | [] => rfl
  | m :: Ms => by
    show ((List.range m.1.length).map fun s => run m.1 s w).map _ :: changed Ms (wc Ms w) l = ((List.range m.1.length).map fun s => run m.1 s (w ++ [l])) :: wc Ms (w ++ [l])
    rw [wc_snoc w l Ms, List.map_map]
    congr 1
    refine List.map_congr_left fun s _ => ?_
    show nx m.1 (run m.1 s w) l = _
    rw [run_snoc]
/-- one change behind another -/
def behind : Change → Change → Change
  | n :: c, f :: d => n.map (fun s => f.getD s 0) :: behind c d
  | _, _ => []
theorem behind_wc {L : Nat} (v w : List Nat) (hv : Wd L v) : ∀ Ms : List Mach, (∀ m ∈ Ms, Whole L m.1) → behind (wc Ms v) (wc Ms w) = wc Ms (v ++ w)
  | [], _ => rfl
  | m :: Ms, h => by
    show ((List.range m.1.length).map fun s => run m.1 s v).map _ :: behind (wc Ms v) (wc Ms w) = ((List.range m.1.length).map fun s => run m.1 s (v ++ w)) :: wc Ms (v ++ w)
    rw [behind_wc v w hv Ms fun k hk => h k (List.mem_cons_of_mem _ hk), List.map_map]
    congr 1
    refine List.map_congr_left fun s hs => ?_
    have hr := (h m List.mem_cons_self).run (List.mem_range.mp hs) hv
    show ((List.range m.1.length).map fun s => run m.1 s w).getD (run m.1 s v) 0 = _
    rw [getD_of (x := run m.1 (run m.1 s v) w) (by rw [List.getElem?_map, List.getElem?_range hr]; rfl), run_append]
theorem wc_get (Ms : List Mach) (w : List Nat) {k : Nat} {m : Mach} (h : Ms[k]? = some m) : (wc Ms w)[k]? = some ((List.range m.1.length).map fun s => run m.1 s w) := by
  unfold wc; rw [List.getElem?_map, h]; rfl

/-- all classes found -/
structure Classes (L : Nat) (Ms : List Mach) (C : List Change) : Prop where
  least : ∀ m ∈ Ms, Least L m.1 m.2
  bfs : Bfs (nextC L Ms) (idle Ms) C C.length
section
variable {L : Nat} {Ms : List Mach} {C : List Change}
theorem Classes.word (Z : Classes L Ms C) : ∀ c ∈ C, ∃ w, Wd L w ∧ c = wc Ms w := by
  refine Z.bfs.ind (P := fun c => ∃ w, Wd L w ∧ c = wc Ms w) ⟨[], Wd.nil, (wc_nil Ms).symm⟩ ?_
  rintro _ d ⟨w, hw, rfl⟩ hd
  obtain ⟨l, hl, rfl⟩ := List.mem_map.mp hd
  exact ⟨w ++ [l], hw.snoc (List.mem_range.mp hl), wc_snoc w l Ms⟩
theorem Classes.all (Z : Classes L Ms C) : ∀ w, Wd L w → wc Ms w ∈ C := by
  intro w
  generalize hr : w.reverse = v
  have hw : w = v.reverse := by rw [← hr, List.reverse_reverse]
  subst hw
  clear hr
  induction v with
  | nil => intro _; rw [List.reverse_nil, wc_nil]; exact Z.bfs.mem
  | cons l v ih =>
    intro h
    rw [List.reverse_cons] at h ⊢
    rw [← wc_snoc]
    refine Z.bfs.closed (Nat.le_refl _) (ih h.left) (List.mem_map.mpr ⟨l, List.mem_range.mpr (h l (List.mem_append_right _ (List.mem_singleton.mpr rfl))), rfl⟩)
/-- the class of a word -/
def clsOf (Ms : List Mach) (C : List Change) (w : List Nat) : Nat := C.idxOf (wc Ms w)
theorem idxOf_getA {α : Type} [BEq α] [LawfulBEq α] {l : List α} {i : Nat} {x : α} (nd : l.Nodup) (h : l[i]? = some x) : l.idxOf x = i := by
  obtain ⟨hi, e⟩ := List.getElem?_eq_some_iff.mp h
  rw [← e]
  exact nd.idxOf_getElem i hi
theorem get_idxOfA {α : Type} [BEq α] [LawfulBEq α] {l : List α} {x : α} (h : x ∈ l) : l[l.idxOf x]? = some x := by
  have hl := List.idxOf_lt_length_of_mem h
  rw [List.getElem?_eq_getElem hl, List.getElem_idxOf hl]
/-- the rows of the classes -/
def rowsC (L : Nat) (Ms : List Mach) (C : List Change) : Steps := C.map fun c => (List.range L).map fun l => C.idxOf (changed Ms c l)
theorem rowsC_length : (rowsC L Ms C).length = C.length := by unfold rowsC; rw [List.length_map]
theorem Classes.whole (Z : Classes L Ms C) : Whole L (rowsC L Ms C) where
  pos := by rw [rowsC_length]; exact Z.bfs.pos
  row := fun r hr => by
    unfold rowsC at hr
    obtain ⟨c, hc, rfl⟩ := List.mem_map.mp hr
    refine ⟨by rw [List.length_map, List.length_range], fun x hx => ?_⟩
    obtain ⟨l, hl, rfl⟩ := List.mem_map.mp hx
    rw [rowsC_length]
    exact List.idxOf_lt_length_of_mem (Z.bfs.closed (Nat.le_refl _) hc (List.mem_map.mpr ⟨l, hl, rfl⟩))
theorem Classes.nx (Z : Classes L Ms C) {w : List Nat} {l : Nat} (hw : Wd L w) (hl : l < L) : nx (rowsC L Ms C) (clsOf Ms C w) l = clsOf Ms C (w ++ [l]) := by
  have h := get_idxOfA (Z.all w hw)
  unfold M22.nx
  rw [getD_of (l := rowsC L Ms C) (x := (List.range L).map fun l => C.idxOf (changed Ms (wc Ms w) l)) (by unfold rowsC clsOf; rw [List.getElem?_map, h]; rfl)]
  rw [getD_of (x := C.idxOf (changed Ms (wc Ms w) l)) (by rw [List.getElem?_map, List.getElem?_range hl]; rfl), wc_snoc]
  rfl
theorem Classes.run (Z : Classes L Ms C) (w : List Nat) (hw : Wd L w) : run (rowsC L Ms C) 0 w = clsOf Ms C w := by
  have gen : ∀ (w v : List Nat), Wd L v → Wd L w → M22.run (rowsC L Ms C) (clsOf Ms C v) w = clsOf Ms C (v ++ w) := by
    intro w
    induction w with
    | nil => intro v _ _; rw [List.append_nil]; rfl
    | cons l w ih =>
      intro v hv hw
      rw [run_cons, Z.nx hv hw.head, ih _ (hv.snoc hw.head) hw.tail, List.append_assoc]
      rfl
  have e : clsOf Ms C [] = 0 := by
    unfold clsOf
    rw [wc_nil]
    exact idxOf_getA Z.bfs.nodup Z.bfs.head
  have := gen w [] Wd.nil hw
  rw [e, List.nil_append] at this
  exact this
/-- each class has a word -/
theorem Classes.has (Z : Classes L Ms C) {c : Nat} (hc : c < C.length) : ∃ w, Wd L w ∧ M22.run (rowsC L Ms C) 0 w = c := by
  obtain ⟨x, hx⟩ := get_some hc
  obtain ⟨w, hw, rfl⟩ := Z.word x (List.mem_of_getElem? hx)
  exact ⟨w, hw, by rw [Z.run w hw]; exact idxOf_getA Z.bfs.nodup hx⟩
/-- products stay among the classes -/
theorem Classes.behind (Z : Classes L Ms C) : ∀ c ∈ C, ∀ d ∈ C, behind c d ∈ C := by
  intro c hc d hd
  obtain ⟨v, hv, rfl⟩ := Z.word c hc
  obtain ⟨w, hw, rfl⟩ := Z.word d hd
  rw [behind_wc v w hv Ms fun m hm => (Z.least m hm).whole]
  exact Z.all _ (hv.append hw)

/-- the lot that a machine of the table passes -/
def passedL (C : List Change) (k : Nat) (F : List Nat) : List Nat := (List.range C.length).filter fun c => decide (((C.getD c []).getD k []).getD 0 0 ∈ F)
theorem Classes.passed (Z : Classes L Ms C) {k : Nat} {m : Mach} (hk : Ms[k]? = some m) {w : List Nat} (hw : Wd L w) : M22.run (rowsC L Ms C) 0 w ∈ passedL C k m.2 ↔ M22.run m.1 0 w ∈ m.2 := by
  have hin := Z.all w hw
  have hp := (Z.least m (List.mem_of_getElem? hk)).whole.pos
  rw [Z.run w hw]
  unfold passedL clsOf
  rw [List.mem_filter, List.mem_range, getD_of (get_idxOfA hin), getD_of (wc_get Ms w hk), getD_of (x := M22.run m.1 0 w) (by rw [List.getElem?_map, List.getElem?_range hp]; rfl), decide_eq_true_iff]
  exact ⟨fun h => h.2, fun h => ⟨List.idxOf_lt_length_of_mem hin, h⟩⟩

/-- the lot to which a machine is widened -/
structure Wide (L : Nat) (R S : Steps) (E : List Nat) (due : List Nat) : Prop where
  up : Rising due
  mem : ∀ c, c ∈ due ↔ ∃ w, Wd L w ∧ M22.run R 0 w = c ∧ M22.run S 0 w ∈ E
theorem Wide.one {R S S' : Steps} {E E' due due' : List Nat} (a : Wide L R S E due) (b : Wide L R S' E' due') (sl : SameLang L S E S' E') : due = due' := by
  refine rising_one a.up b.up fun c => ?_
  rw [a.mem, b.mem]
  constructor
  · rintro ⟨w, hw, e, h⟩
    exact ⟨w, hw, e, (sl w hw).mp h⟩
  · rintro ⟨w, hw, e, h⟩
    exact ⟨w, hw, e, (sl w hw).mpr h⟩
/-- of the pairs met -/
theorem Wide.of_met {R S : Steps} {E due : List Nat} {m : List (Nat × Nat)} (h0 : (0, 0) ∈ m) (hc : ∀ x ∈ m, ∀ y ∈ nxP L R S x, y ∈ m) (hm : ∀ x ∈ m, Met L R S x)
    (up : Rising due) (hd : ∀ c, c ∈ due ↔ ∃ p ∈ m, p.1 = c ∧ p.2 ∈ E) : Wide L R S E due := by
  refine ⟨up, fun c => ?_⟩
  rw [hd]
  constructor
  · rintro ⟨p, hp, e, h⟩
    obtain ⟨w, hw, rfl⟩ := hm p hp
    exact ⟨w, hw, e, h⟩
  · rintro ⟨w, hw, e, h⟩
    exact ⟨_, all_met h0 hc w hw, e, h⟩
/-- a lot's machine is widened to the lot -/
theorem Classes.wide_lot (Z : Classes L Ms C) {lot : List Nat} (up : Rising lot) (hl : ∀ c ∈ lot, c < C.length) {T : Steps} {F : List Nat} (sl : SameLang L (rowsC L Ms C) lot T F) : Wide L (rowsC L Ms C) T F lot := by
  refine ⟨up, fun c => ?_⟩
  constructor
  · intro hc
    obtain ⟨w, hw, e⟩ := Z.has (hl c hc)
    exact ⟨w, hw, e, (sl w hw).mp (by rw [e]; exact hc)⟩
  · rintro ⟨w, hw, rfl, h⟩
    exact (sl w hw).mpr h
theorem Wide.lt (Z : Classes L Ms C) {S : Steps} {E due : List Nat} (h : Wide L (rowsC L Ms C) S E due) : ∀ c ∈ due, c < C.length := by
  intro c hc
  obtain ⟨w, hw, rfl, _⟩ := (h.mem c).mp hc
  have := Z.whole.run Z.whole.pos hw
  rw [rowsC_length] at this
  exact this
theorem passedL_up (C : List Change) (k : Nat) (F : List Nat) : Rising (passedL C k F) := (rising_range _).filter _
theorem passedL_lt (C : List Change) (k : Nat) (F : List Nat) : ∀ c ∈ passedL C k F, c < C.length := fun c hc => List.mem_range.mp (List.mem_filter.mp hc).1
end
end M22

set_option maxRecDepth 100000
set_option maxHeartbeats 4000000
/-! k22 over the layer: heaps without what changes, data. -/
namespace M22
open PySem L2

/-! ### a heap without some addresses -/
/-- H without the objects at M: what does not change while those do -/
def Wo (M : List Addr) (H : Hp) : Hp := fun b => if b ∈ M then none else H b
theorem wo_in {M : List Addr} {H : Hp} {b : Addr} (h : b ∈ M) : Wo M H b = none := by unfold Wo; rw [if_pos h]
theorem wo_out {M : List Addr} {H : Hp} {b : Addr} (h : ¬ b ∈ M) : Wo M H b = H b := by unfold Wo; rw [if_neg h]
theorem wo_nil (H : Hp) : Wo [] H = H := by funext b; exact wo_out List.not_mem_nil
theorem wo_some {M : List Addr} {H : Hp} {b : Addr} {o : HO} (h : Wo M H b = some o) : H b = some o ∧ ¬ b ∈ M := by
  by_cases q : b ∈ M
  · rw [wo_in q] at h; cases h
  · rw [wo_out q] at h; exact ⟨h, q⟩
theorem wo_same (M : List Addr) (H : Hp) : Same (Wo M H) H := fun b o h => (wo_some h).1
theorem wo_mono {M : List Addr} {H H' : Hp} (s : Same H H') : Same (Wo M H) (Wo M H') := fun b o h => by
  obtain ⟨h1, h2⟩ := wo_some h
  rw [wo_out h2]
  exact s b o h1
/-- fewer are left out -/
theorem wo_less {M M' : List Addr} {H : Hp} (h : ∀ b ∈ M', b ∈ M) : Same (Wo M H) (Wo M' H) := fun b o e => by
  obtain ⟨h1, h2⟩ := wo_some e
  rw [wo_out fun z => h2 (h b z)]
  exact h1
theorem wo_upd {M : List Addr} {H : Hp} {a : Addr} {o : HO} (h : a ∈ M) : Wo M (upd H a o) = Wo M H := by
  funext b
  by_cases q : b ∈ M
  · rw [wo_in q, wo_in q]
  · rw [wo_out q, wo_out q]
    exact upd_ne fun e => q (e ▸ h)
theorem same_new {H : Hp} {p : Addr} {o : HO} (h : H p = none) : Same H (upd H p o) := fun b u e => by
  rw [upd_ne (ne_of_none e h)]
  exact e
/-- something new is laid -/
theorem wo_new {M : List Addr} {H : Hp} {p : Addr} {o : HO} (h : H p = none) : Same (Wo M H) (Wo M (upd H p o)) := wo_mono (same_new h)
/-- what is left out of both, told of one -/
theorem wo_at {M : List Addr} {H H' : Hp} (s : Same (Wo M H) (Wo M H')) {b : Addr} {o : HO} (h : H b = some o) (hn : ¬ b ∈ M) : H' b = some o := (wo_some (s b o (by rw [wo_out hn]; exact h))).1
theorem wo_wo {M N : List Addr} {H : Hp} : Wo M (Wo N H) = Wo (M ++ N) H := by
  funext b
  by_cases q : b ∈ M
  · rw [wo_in q, wo_in (List.mem_append_left _ q)]
  · rw [wo_out q]
    by_cases r : b ∈ N
    · rw [wo_in r, wo_in (List.mem_append_right _ r)]
    · rw [wo_out r, wo_out fun z => (List.mem_append.mp z).elim q r]
/-- a call that changes only what is at M leaves more -/
theorem wo_more {M N : List Addr} {H H' : Hp} (s : Same (Wo M H) (Wo M H')) (h : ∀ b ∈ M, b ∈ N) : Same (Wo N H) (Wo N H') := fun b o e => by
  obtain ⟨h1, h2⟩ := wo_some e
  rw [wo_out h2]
  exact wo_at s h1 fun z => h2 (h b z)
theorem none_of_same {H H' : Hp} {p : Addr} (s : Same H H') (h : H' p = none) : H p = none := s.free h
theorem _root_.L2.Same.seqT {K : PySem.W.Frag} {H H' : Hp} {a : Addr} {xs : List V} (e : Same H H') (h : SqT K H a xs) : SqT K H' a xs := by
  rcases h with (h | ⟨o, h⟩) | h
  · exact .inl (.inl (e _ _ h))
  · exact .inl (.inr ⟨o, e _ _ h⟩)
  · exact .inr h

/-! ### data -/
mutual
theorem dp_mono {K : PySem.W.Frag} {H H' : Hp} (e : Same H H') : ∀ {v : V} {d : PyData}, Dp K H v d → Dp K H' v d
  | _, _, .non => .non
  | _, _, .bl b => .bl b
  | _, _, .int i => .int i
  | _, _, .str x => .str x
  | _, _, .lst h a => .lst (e.seq h) (dpAll_mono e a)
  | _, _, .tup h a => .tup (Same.seqT e h) (dpAll_mono e a)
theorem dpAll_mono {K : PySem.W.Frag} {H H' : Hp} (e : Same H H') : ∀ {vs : List V} {ds : List PyData}, DpAll K H vs ds → DpAll K H' vs ds
  | _, _, .nil => .nil
  | _, _, .cons a b => .cons (dp_mono e a) (dpAll_mono e b)
end
section
variable {K : PySem.W.Frag} {H H' : Hp}
theorem _root_.L2.DpAll.length {vs : List V} {ds : List PyData} (h : DpAll K H vs ds) : vs.length = ds.length := by
  induction ds generalizing vs with
  | nil => cases h; rfl
  | cons d ds ih => cases h with | cons a b => rw [List.length_cons, List.length_cons, ih b]
theorem _root_.L2.DpAll.get {vs : List V} {ds : List PyData} (h : DpAll K H vs ds) {i : Nat} {d : PyData} (e : ds[i]? = some d) : ∃ v, vs[i]? = some v ∧ Dp K H v d := by
  induction ds generalizing vs i with
  | nil => simp at e
  | cons d0 ds ih =>
    cases h with
    | cons a b =>
      cases i with
      | zero => simp at e; subst e; exact ⟨_, rfl, a⟩
      | succ i => exact ih b (by simpa using e)
theorem _root_.L2.DpAll.get' {vs : List V} {ds : List PyData} (h : DpAll K H vs ds) {i : Nat} {v : V} (e : vs[i]? = some v) : ∃ d, ds[i]? = some d ∧ Dp K H v d := by
  have hl := h.length
  have hi := (List.getElem?_eq_some_iff.mp e).1
  obtain ⟨d, hd⟩ := get_some (show i < ds.length by omega)
  obtain ⟨v', e', q⟩ := h.get hd
  rw [e] at e'
  cases e'
  exact ⟨d, hd, q⟩
theorem _root_.L2.DpAll.append {vs us : List V} {ds es : List PyData} (h : DpAll K H vs ds) (g : DpAll K H us es) : DpAll K H (vs ++ us) (ds ++ es) := by
  induction ds generalizing vs with
  | nil => cases h; exact g
  | cons d ds ih => cases h with | cons a b => exact .cons a (ih b)
theorem _root_.L2.DpAll.snoc {vs : List V} {ds : List PyData} {v : V} {d : PyData} (h : DpAll K H vs ds) (g : Dp K H v d) : DpAll K H (vs ++ [v]) (ds ++ [d]) := h.append (.cons g .nil)
/-- numbers -/
abbrev vN (n : Nat) : V := .int (n : Int)
abbrev dN (n : Nat) : PyData := .int (n : Int)
theorem dpAll_nums : ∀ ns : List Nat, DpAll K H (ns.map vN) (ns.map dN)
  | [] => .nil
  | n :: ns => .cons (.int _) (dpAll_nums ns)
theorem nums_of : ∀ {ns : List Nat} {vs : List V}, DpAll K H vs (ns.map dN) → vs = ns.map vN
  | [], _, h => by cases h; rfl
  | n :: ns, _, h => by
    cases h with
    | cons a b =>
      cases a
      rw [nums_of b]
      rfl
/-- a list, a tuple of numbers -/
abbrev dL (ns : List Nat) : PyData := .list (ns.map dN)
abbrev dT (ns : List Nat) : PyData := .tuple (ns.map dN)
/-- lists of lists, tuples of tuples -/
abbrev dLL (S : List (List Nat)) : PyData := .list (S.map dL)
abbrev dTT (S : List (List Nat)) : PyData := .tuple (S.map dT)
theorem dp_l {a : Addr} {ns : List Nat} (h : SqL K H a (ns.map vN)) : Dp K H (.ref a) (dL ns) := .lst h (dpAll_nums ns)
theorem dp_t {a : Addr} {ns : List Nat} (h : SqT K H a (ns.map vN)) : Dp K H (.ref a) (dT ns) := .tup h (dpAll_nums ns)
theorem l_of {v : V} {ns : List Nat} (h : Dp K H v (dL ns)) : ∃ a, v = .ref a ∧ SqL K H a (ns.map vN) := by
  cases h with
  | lst s a => exact ⟨_, rfl, by rw [nums_of a] at s; exact s⟩
theorem t_of {v : V} {ns : List Nat} (h : Dp K H v (dT ns)) : ∃ a, v = .ref a ∧ SqT K H a (ns.map vN) := by
  cases h with
  | tup s a => exact ⟨_, rfl, by rw [nums_of a] at s; exact s⟩
theorem list_of {v : V} {ds : List PyData} (h : Dp K H v (.list ds)) : ∃ a xs, v = .ref a ∧ SqL K H a xs ∧ DpAll K H xs ds := by
  cases h with
  | lst s a => exact ⟨_, _, rfl, s, a⟩
theorem tup_of {v : V} {ds : List PyData} (h : Dp K H v (.tuple ds)) : ∃ a xs, v = .ref a ∧ SqT K H a xs ∧ DpAll K H xs ds := by
  cases h with
  | tup s a => exact ⟨_, _, rfl, s, a⟩
end

/-! ### data of these shapes: laid, compared -/
theorem lay_nums : ∀ ns : List Nat, PyData.canLayAll0 (ns.map dN) = true
  | [] => by simp [PyData.canLayAll0]
  | n :: ns => by simp [PyData.canLayAll0, PyData.canLay0, lay_nums ns]
theorem dep_nums : ∀ ns : List Nat, PyData.depthAll (ns.map dN) = 0
  | [] => by simp [PyData.depthAll]
  | n :: ns => by simp [PyData.depthAll, PyData.depth, dep_nums ns]
theorem lay_all : ∀ ds : List PyData, (∀ d ∈ ds, d.canLay0 = true) → PyData.canLayAll0 ds = true
  | [], _ => by simp [PyData.canLayAll0]
  | d :: ds, h => by
    have h1 := h d List.mem_cons_self
    have h2 := lay_all ds fun e he => h e (List.mem_cons_of_mem _ he)
    simp [PyData.canLayAll0, h1, h2]
theorem dep_all {n : Nat} : ∀ ds : List PyData, (∀ d ∈ ds, d.depth ≤ n) → PyData.depthAll ds ≤ n
  | [], _ => by simp [PyData.depthAll]
  | d :: ds, h => by
    have h1 := h d List.mem_cons_self
    have h2 := dep_all ds fun e he => h e (List.mem_cons_of_mem _ he)
    simp only [PyData.depthAll]
    omega
/-- laid, and at most n deep -/
structure Flat (n : Nat) (d : PyData) : Prop where
  lay : d.canLay0 = true
  dep : d.depth ≤ n
theorem Flat.mono {n m : Nat} {d : PyData} (h : Flat n d) (l : n ≤ m) : Flat m d := ⟨h.lay, Nat.le_trans h.dep l⟩
theorem Flat.shaped {n : Nat} {d : PyData} (h : Flat n d) (l : n ≤ 64) : SeqAt.shaped d = true := by
  show (d.canLay0 && decide (d.depth ≤ 64)) = true
  rw [Bool.and_eq_true]
  exact ⟨h.lay, decide_eq_true (Nat.le_trans h.dep l)⟩
theorem flat_n (n : Nat) : Flat 0 (dN n) := ⟨by simp [PyData.canLay0], by simp [PyData.depth]⟩
theorem flat_list {n : Nat} {ds : List PyData} (h : ∀ d ∈ ds, Flat n d) : Flat (n + 1) (.list ds) :=
  ⟨by simp only [PyData.canLay0]; exact lay_all ds fun d hd => (h d hd).lay, by
    have := dep_all (n := n) ds fun d hd => (h d hd).dep
    simp only [PyData.depth]; omega⟩
theorem flat_tup {n : Nat} {ds : List PyData} (h : ∀ d ∈ ds, Flat n d) : Flat (n + 1) (.tuple ds) :=
  ⟨by simp only [PyData.canLay0]; exact lay_all ds fun d hd => (h d hd).lay, by
    have := dep_all (n := n) ds fun d hd => (h d hd).dep
    simp only [PyData.depth]; omega⟩
theorem flat_map {α : Type} {f : α → PyData} {n : Nat} (h : ∀ x, Flat n (f x)) (l : List α) : ∀ d ∈ l.map f, Flat n d := fun d hd => by
  obtain ⟨x, _, rfl⟩ := List.mem_map.mp hd
  exact h x
theorem flat_dL (ns : List Nat) : Flat 1 (dL ns) := flat_list (flat_map flat_n ns)
theorem flat_dT (ns : List Nat) : Flat 1 (dT ns) := flat_tup (flat_map flat_n ns)
theorem flat_dTT (S : List (List Nat)) : Flat 2 (dTT S) := flat_tup (flat_map flat_dT S)
theorem flat_dLL (S : List (List Nat)) : Flat 2 (dLL S) := flat_list (flat_map flat_dL S)

/-- f tells values apart, as == does -/
def EqAs {α : Type} (f : α → PyData) : Prop := ∀ x y, PyData.eqv (f x) (f y) = true ↔ x = y
theorem eqAll_map {α : Type} {f : α → PyData} (h : EqAs f) : ∀ xs ys : List α, PyData.eqvAll (xs.map f) (ys.map f) = true ↔ xs = ys
  | [], [] => by simp [PyData.eqvAll]
  | [], y :: ys => by simp [PyData.eqvAll]
  | x :: xs, [] => by simp [PyData.eqvAll]
  | x :: xs, y :: ys => by
    have h1 := h x y
    have h2 := eqAll_map h xs ys
    simp only [List.map_cons, PyData.eqvAll, Bool.and_eq_true, List.cons.injEq]
    rw [h1, h2]
theorem eq_n : EqAs dN := fun x y => by
  simp only [PyData.eqv, beq_iff_eq]
  omega
theorem eq_list {α : Type} {f : α → PyData} (h : EqAs f) : EqAs fun xs : List α => .list (xs.map f) := fun xs ys => by
  simp only [PyData.eqv]; exact eqAll_map h xs ys
theorem eq_tup {α : Type} {f : α → PyData} (h : EqAs f) : EqAs fun xs : List α => .tuple (xs.map f) := fun xs ys => by
  simp only [PyData.eqv]; exact eqAll_map h xs ys
theorem eq_dL : EqAs dL := eq_list eq_n
theorem eq_dT : EqAs dT := eq_tup eq_n
theorem eq_dTT : EqAs dTT := eq_tup eq_dT
theorem eqv_dec {α : Type} [DecidableEq α] {f : α → PyData} (h : EqAs f) (x y : α) : PyData.eqv (f x) (f y) = decide (x = y) := by
  by_cases e : x = y
  · rw [decide_eq_true e]; exact (h x y).mpr e
  · rw [decide_eq_false e]
    cases q : PyData.eqv (f x) (f y) with
    | false => rfl
    | true => exact absurd ((h x y).mp q) e
theorem any_eqv {α : Type} [DecidableEq α] {f : α → PyData} (h : EqAs f) (xs : List α) (x : α) : ((xs.map f).any fun z => PyData.eqv z (f x)) = decide (x ∈ xs) := by
  induction xs with
  | nil => simp
  | cons y ys ih =>
    rw [List.map_cons, List.any_cons, ih, eqv_dec h]
    by_cases e : y = x
    · simp [e]
    · have : ¬ x = y := fun q => e q.symm
      simp [e, this]
end M22

set_option maxRecDepth 100000
set_option maxHeartbeats 4000000
/-! k22: own rules: != where the class has __eq__ alone; a call by keywords alone. -/
namespace M22
open PySem PySem.W L2

section
variable {M : Model} {A : Around} {E : Value → Shared → Prop} {s : Shared} {K : Frag} {x C f : Addr} {ox : Obj} {od : Option Obj} {name : Str} {id : String}
/-- a special method that object itself has, of an instance -/
theorem ifBound_obj {args : List Value} {Q : Option Value → Shared → Prop} (X : K.In s.heap) (I : InstAt s.heap x ox C od) (S : Slot "object" name id) (hs : findIn K (.ref C) name = some (some (.builtin id)))
    (h : wpAny M A (call (.builtin id) (.ref x :: args)) (fun v => Q (some v)) E s) : wpAny M A (callSpecialIfBound? (.ref x) name args) Q E s := by
  simp only [callSpecialIfBound?, bindSpecialIfBound?]
  refine wpAny_holding (wpAny_bind (wpAny_bind (wpAny_bind (I.type.here ((looks_findIn X hs).here ?_)))))
  simp only [S.bind]
  have fin : wpAny M A (call (.builtin id) ([.ref x] ++ args) >>= fun v => pure (some v)) Q E s := by
    refine wpAny_bind (wpAny_mono h (fun v s' q => ?_) fun _ _ z => z)
    exact wpAny_pure q
  refine wpAny_bind (wpAny_askSetting (wpAny_ite ?_))
  split
  all_goals first
    | exact wpAny_bind (wpAny_pure (wpAny_pure fin))
    | exact wpAny_tryCatch (wpAny_bind (wpAny_pure (wpAny_pure fin)))
/-- an instance is an object -/
theorem check_obj {n : String} {rest : List Value} {Q : Unit → Shared → Prop} (X : K.In s.heap) (I : InstAt s.heap x ox C od) (hsub : subIn K (.ref C) (.type "object") = some true)
    (hk : builtinKind id = some .slot) (hs : splitId id = some ("object", n)) (ha : argsOk id ⟨.ref x :: rest, []⟩) (hq : Q () s) : wpAny M A (checkBuiltinCall id ⟨.ref x :: rest, []⟩) Q E s := by
  simp only [checkBuiltinCall, hk, hs]
  refine wpAny_bind (wpAny_bind (I.type.here ((looks_subIn X hsub).here ?_)))
  simp only [Bool.not_true, Bool.false_eq_true, if_false]
  cases hsig : Manifest.signature? id with
  | none => exact wpAny_pure hq
  | some sig =>
    simp only [argsOk, hsig] at ha
    have e : Bind.checkArgs id sig ⟨.ref x :: rest, []⟩ = pure () := ha
    show wpAny M A (Bind.checkArgs id sig ⟨.ref x :: rest, []⟩) Q E _
    rw [e]
    exact wpAny_pure hq
end

section
variable {prog : Program} {w : World} {A : Around} {E : Value → Shared → Prop} {s : Shared} {K : Frag} {x y C f : Addr} {ox oy : Obj} {od od' : Option Obj} {h₀ : Heap} {L : Addr} {m : Str → Option Value}
/-- what object has under __ne__: __eq__ asked, turned about -/
theorem objNe_K {Q : Fin → Shared → Prop} (X : K.In s.heap) (I : InstAt s.heap x ox C od) (hs : findIn K (.ref C) "__eq__" = some (some (.ref f))) (hf : isFn K (.ref f) = true) (hu : A.units < cLine)
    (h : wpAny (model prog w) A (call (.ref f) [.ref x, .ref y]) (fun v s' => ∃ b, v = .bool b ∧ Q (.done (.ret (.bool (!b)))) s') E s) :
    wpAny (model prog w) A (Builtin.«object.__ne__» ⟨[.ref x, .ref y], []⟩) Q E s := by
  unfold Builtin.«object.__ne__»
  repeat (first
    | with_reducible refine wpAny_cRoomFor hu ?_
    | (refine wpAny_bind (m := callSpecialIfBound? (.ref x) (Str.ofString "__eq__") [.ref y]) (ifBound_K X I hs hf (wpAny_mono h (fun r s' q => ?_) fun _ _ z => z))
       obtain ⟨b, rfl, q⟩ := q
       repeat (first | exact q | exact wpAny_pure q | exact wpAny_truthy_bool q | (refine wpAny_bind (m := truthy (.bool _)) (wpAny_truthy_bool ?_)) | wp_step))
    | wp_step)
/-- x != y, the class having __eq__ alone -/
theorem ne_K {Q : Value → Shared → Prop} (hu : A.units + 1 < cLine) (X : K.In s.heap) (I : InstAt s.heap x ox C od) (J : InstAt s.heap y oy C od')
    (hne : findIn K (.ref C) "__ne__" = some (some (.builtin "object.__ne__"))) (hs : findIn K (.ref C) "__eq__" = some (some (.ref f))) (hf : isFn K (.ref f) = true) (hsub : subIn K (.ref C) (.type "object") = some true)
    (h : wpAny (model prog w) A.in1 (call (.ref f) [.ref x, .ref y]) (fun v s' => ∃ b, v = .bool b ∧ Q (.bool (!b)) s') E s) :
    wpAny (model prog w) A (richCompare .NotEq (.ref x) (.ref y)) Q E s := by
  have ask : wpAny (model prog w) A (call (.builtin "object.__ne__") [.ref x, .ref y]) (fun v s' => ∃ b, v = .bool b ∧ Q (.bool b) s') E s := by
    refine wpAny_call (codeAny_call_builtin PySem.F.cmp_object.ne.plain F.cmpEntry_ne (check_obj X I hsub F.cmpKind_ne F.cmpSplit_ne (F.cmpArgs_ne _ _)
      (objNe_K (A := A.in1) X I hs hf (show A.units + 1 < cLine from hu) (wpAny_mono h (fun v s' q => ?_) fun _ _ z => z))))
    obtain ⟨b, rfl, q⟩ := q
    exact ⟨b, rfl, _, rfl, q⟩
  have one : wpAny (model prog w) A (tryCompare (.ref x) "__ne__" (.ref y)) (fun r s' => ∃ b, r = some (.bool b) ∧ Q (.bool b) s') E s := by
    unfold tryCompare
    refine wpAny_bind (ifBound_obj X I PySem.F.cmp_object.ne hne (wpAny_mono ask (fun v s' q => ?_) fun _ _ z => z))
    obtain ⟨b, rfl, q⟩ := q
    exact wpAny_pure ⟨b, rfl, q⟩
  unfold richCompare
  simp only [oneThing_ref]
  refine wpAny_holding (wpAny_bind (wpAny_cRoomFor (Nat.lt_of_succ_lt hu) ?_))
  rw [cmpInfo_NotEq]
  dsimp only
  refine wpAny_bind (I.type.here (wpAny_bind (J.type.here ?_)))
  rw [show (Value.ref C != Value.ref C) = false from by simp]
  simp only [Bool.false_eq_true, if_false]
  refine wpAny_bind (wpAny_pure ?_)
  simp only [Bool.false_eq_true, if_false]
  refine wpAny_bind (wpAny_mono one (fun v s' q => ?_) fun _ _ z => z)
  obtain ⟨b, rfl, q⟩ := q
  exact wpAny_pure q
end

/-! ### over the layer -/
section
variable {X : Cx} {n : Nat}
/-- what is promised of an __eq__ that only looks: its answer -/
def spEqB (R : Addr → Addr → Hp → Bool → Prop) : Sp := fun vs H Q _ => ∃ a b c, vs = [.ref a, .ref b] ∧ R a b H c ∧ ∀ H', Same H H' → Q (.bl c) H'
/-- the text's class with its own == and no !=: what a comparison by != asks -/
structure NeC (K : Frag) (C f : Addr) : Prop where
  ne : findIn K (.ref C) "__ne__" = some (some (.builtin "object.__ne__"))
  eq : findIn K (.ref C) "__eq__" = some (some (.ref f))
  fn : isFn K (.ref f) = true
  sub : subIn K (.ref C) (.type "object") = some true
def rNeO (C : Addr) (R : Addr → Addr → Hp → Bool → Prop) : R2 := fun x y H Q => ∃ a b dx dy fs gs c, x = .ref a ∧ y = .ref b ∧ H a = some (.ins C dx fs) ∧ H b = some (.ins C dy gs) ∧ R a b H c ∧ ∀ H', Same H H' → Q (.bl (!c)) H'
theorem op_neO {C f : Addr} {fd : FuncData} {ps : List Str} {R : Addr → Addr → Hp → Bool → Prop} (F : FnOk X.prog X.w X.K X.mg X.base CX0 n f fd ps (spEqB R)) (N : NeC X.K C f) (hb : Binds X.K fd ps []) (hr : Room (n + 1) X.A) :
    OpR X (compareOp .NotEq) (rNeO C R) := by
  intro pins s σ H x y v u Q I rx ry h
  obtain ⟨a, b, dx, dy, fs, gs, c, rfl, rfl, ha, hb', hR, q⟩ := h
  cases rx
  cases ry
  obtain ⟨mA, J, _⟩ := ins_get I.hok ha
  obtain ⟨mB, J', _⟩ := ins_get I.hok hb'
  obtain ⟨od, J, _⟩ := J.look
  obtain ⟨od', J', _⟩ := J'.look
  show wpAny (model X.prog X.w) X.A (richCompare .NotEq (.ref a) (.ref b)) (EP X pins σ Q) X.xe s
  refine ne_K (by have := hr.units; omega) I.kIn J J' N.ne N.eq N.fn N.sub ?_
  have hsp : spEqB R [.ref a, .ref b] H (fun v H' => v = .bl c ∧ Q (.bl (!c)) H') E0 := ⟨a, b, c, rfl, hR, fun H' e => ⟨rfl, q H' e⟩⟩
  have e0 := I.env0.in1
  have hl := F.len _ _ _ _ hsp
  have r2 : Vals [V.ref a, V.ref b] [Value.ref a, Value.ref b] := .cons rfl (.cons rfl .nil)
  have hbind := hb s [.ref a, .ref b] I.kIn (by simpa using hl)
  rw [List.append_nil] at hbind
  refine wpAny_call (codeAny_mono (F.run X.A.in1 X.stack s H ⟨[.ref a, .ref b], []⟩ [.ref a, .ref b] [.ref a, .ref b] _ E0 hr.in1 e0 hbind r2 hsp) fun r s' hq => ?_)
  cases r with
  | error e => exact False.elim hq
  | ok fl =>
    cases fl with
    | ret w =>
      obtain ⟨z, H', I', rz, ez, ex⟩ := I.after hq
      subst ez
      cases rz
      exact ⟨c, rfl, .bl (!c), H', I', rfl, ex⟩
    | next => exact False.elim hq
    | brk => exact False.elim hq
    | cont => exact False.elim hq
end

section
variable {X : Cx} {CX : CXT} {k : Nat} {f : Addr} {fd : FuncData} {ps ks : List Str} {sp : Sp} {E : XK} {x : Str} {p pos : Pos} {kws : List Keyword} {tk : TA} {g : List Value → List Value → List Value} {gV : List V → List V → List V}
/-- f(k = v, ..) -/
theorem pe_callK0 (F : FnOk X.prog X.w X.K X.mg X.base CX k f fd ps sp) (hr : Room k X.A) (hg : Gl X x) (hm : X.mg x = some (.ref f)) (hk : keepIn X.K (.ref f) = true) (hb : KBinds X.K fd ps ks g gV) (hx : Passes CX X E) (hkw : PK X kws tk)
    (hall : (backToKw pos (keywordEach kws X.env)).all (·.1.isSome) = true := by rfl) (hks : (backToKw pos (keywordEach kws X.env)).filterMap (·.1) = ks := by rfl) (hdb : (x == ("__debug__" : Str)) = false := by decide)
    (hpl : ((backTo pos (starEach [] X.env)).any (·.1) || (backToKw pos (keywordEach kws X.env)).any (·.1.isNone)) = false := by rfl) :
    PE X (.Call (.Name x p) [] kws pos) (tCallK sp gV E tNil tk) := by
  refine ⟨fun pins s σ H Q I h => wpAny_Call_Name_kw (ld_glob I hg hm ?_ hdb)⟩
  refine callWith_KW0 (h₀ := X.base) I.ok.mod.kin hk hall (thn (hkw.run pos pins s σ H _ I h) fun ws s2 ⟨zs, H2, I2, rz, q2⟩ => ⟨I2.kIn, ?_⟩) hpl
  rw [hks]
  exact run_fnk (us := []) F hr hb hx I2 .nil rz q2
end
end M22

set_option maxRecDepth 100000
set_option maxHeartbeats 4000000
/-! k22: own rules: repr of a bool, of a list of small numbers; a def told at one place of the stack. -/
namespace M22
open PySem PySem.W L2

theorem textFrom_most {m : Nat} : ∀ (ts : List Str) (k : Nat) (acc : Str), (∀ t ∈ ts, t.length ≤ m) → (textFrom k acc ts).length ≤ acc.length + ts.length * (m + 2)
  | [], k, acc, _ => by show acc.length ≤ _; omega
  | t :: r, k, acc, h => by
    have h1 := h t List.mem_cons_self
    have e : (t :: r).length * (m + 2) = r.length * (m + 2) + (m + 2) := by rw [List.length_cons, Nat.succ_mul]
    rw [e]
    unfold textFrom
    refine Nat.le_trans (textFrom_most r _ _ fun u hu => h u (List.mem_cons_of_mem _ hu)) ?_
    split
    all_goals
      simp only [strLen_append]
      have e2 : ((", " : String) : Str).length = 2 := by decide +kernel
      have e0 : (("" : String) : Str).length = 0 := by decide +kernel
      omega
theorem digit_len : ∀ n : Nat, n < 100 → (Str.ofString (toString (n : Int))).length ≤ 2 := by decide +kernel
theorem shown_nums : ∀ {ns : List Nat}, (∀ n ∈ ns, n < 100) → (∀ t ∈ PyData.shownAll (ns.map dN), t.length ≤ 2) ∧ (PyData.shownAll (ns.map dN)).length = ns.length
  | [], _ => ⟨fun t ht => by simp [PyData.shownAll] at ht, rfl⟩
  | n :: ns, h => by
    obtain ⟨i1, i2⟩ := shown_nums (ns := ns) fun k hk => h k (List.mem_cons_of_mem _ hk)
    refine ⟨fun t ht => ?_, ?_⟩
    · rw [List.map_cons, PyData.shownAll] at ht
      rcases List.mem_cons.mp ht with e | ht
      · rw [e, PyData.shown]
        exact digit_len n (h n List.mem_cons_self)
      · exact i1 t ht
    · rw [List.map_cons, PyData.shownAll, List.length_cons, List.length_cons, i2]
theorem showable_nums : ∀ {ns : List Nat}, (∀ n ∈ ns, n < 100) → PyData.showableAll (ns.map dN) = true
  | [], _ => by simp [PyData.showableAll]
  | n :: ns, h => by
    have h1 := h n List.mem_cons_self
    have e : ((n : Int).natAbs.log2 < 1920) := by
      have : (n : Int).natAbs = n := Int.natAbs_natCast n
      rw [this]
      have := Nat.log2_le_self n
      omega
    rw [List.map_cons, PyData.showableAll, PyData.showable, showable_nums fun k hk => h k (List.mem_cons_of_mem _ hk), Bool.and_true]
    exact decide_eq_true e
section
variable {X : Cx}
/-- repr of a list of small numbers, no repr being under way; repr of a bool -/
def rRepr (K : Frag) : List V → Hp → VK → Prop := fun xs H Q => (∃ a ns, xs = [.ref a] ∧ Dp K H (.ref a) (dL ns) ∧ (∀ n ∈ ns, n < 100) ∧ ns.length ≤ 1000 ∧ Q (.str (PyData.shown (dL ns))) H) ∨
  ∃ b : Bool, xs = [.bl b] ∧ Q (.str (if b then "True" else "False")) H
theorem cr_repr (hg : X.A.guards = some []) (hu : X.A.units + 64 < cLine) : CallR X (.builtin "repr") (rRepr X.K) := by
  intro pins s σ H xs us Q I r h
  rcases h with ⟨a, ns, rfl, hd, hn, hl, q⟩ | ⟨b, rfl, q⟩
  · obtain ⟨u, rfl, ru⟩ := vals1 r
    obtain ⟨as, hr⟩ := Dp.reads I (dL ns) (.ref a) u hd ru
    cases ru
    have f := flat_dL ns
    have hsz : (PyData.shown (dL ns)).length ≤ sizeLine := by
      obtain ⟨t1, t2⟩ := shown_nums hn
      have e : PyData.shown (dL ns) = listText (PyData.shownAll (ns.map dN)) := by rw [PyData.shown]
      have b := textFrom_most (m := 2) (PyData.shownAll (ns.map dN)) 0 "[" t1
      have e1 : ((("[" : String) : Str)).length = 1 := by decide +kernel
      have e2 : ((("]" : String) : Str)).length = 1 := by decide +kernel
      rw [e]
      unfold listText
      rw [strLen_append, e2]
      rw [e1, t2] at b
      have := sizeLine_eq
      omega
    refine repr_of_reads' hr (by rw [PyData.showable]; exact showable_nums hn) (PyData.noDict_hsm (PyData.hasDict_of_canLay _ f.lay)) hg (by have := f.dep; omega) (fun _ _ e => e) (fun h' u tk hk => ?_) hsz
    exact ⟨.str _, H, I.kept hk, ⟨_, rfl⟩, q⟩
  · obtain ⟨u, rfl, ru⟩ := vals1 r
    cases ru
    exact P.repr_of_bool ⟨.str _, H, I.tok _, ⟨_, rfl⟩, q⟩
end

/-! ### a def told at one place of the stack -/
/-- as FnOk, for calls from A₀ alone -/
structure FnAt (P : Program) (w : World) (K : Frag) (mg : Str → Option Value) (base : Heap) (A₀ : Around) (f : Addr) (fd : FuncData) (ps : List Str) (sp : Sp) : Prop where
  len : ∀ vs H Q E, sp vs H Q E → vs.length = ps.length
  run : ∀ (outer : List Env) (s : Shared) (H : Hp) (args : Args) (us : List Value) (vs : List V) (Q : VK) (E : XK), Env0 P w K mg base A₀ outer s H → BindsTo s fd args (ps.zip us) → Vals vs us → sp vs H Q E →
    codeAny (model P w) A₀ (.call (.ref f) args) (CR CX0 outer P w H s Q E) s
section
variable {P : Program} {w : World} {K : Frag} {mg : Str → Option Value} {base : Heap}
theorem fnAt_of {k : Nat} {A₀ : Around} {x qual : Str} {st : Stmt} {f : Addr} {fd : FuncData} {N ps : List Str} {sp : Sp} (F : Fun K x qual st f fd) (S : FnScope N ps (defScope st)) (hr : Room (k + 1) A₀)
    (len : ∀ vs H Q E, sp vs H Q E → vs.length = ps.length)
    (body : ∀ (cdv : Value) (outer : List Env) (s : Shared) (H : Hp) (vs : List V) (Q : VK) (E : XK), sp vs H Q E →
      ∃ t, PSs (cxOf CX0 P w K mg base N qual (defScope st) f cdv A₀ outer s H E).nox (defBody st) t ∧ t { nx := fun _ H' => Q .non H', rt := Q } (start N vs) H) : FnAt P w K mg base A₀ f fd ps sp := by
  obtain ⟨oc, od, kV, doc, pm, an, cdv, ct, osl, rfl, lk, hcd⟩ := F.ex
  refine ⟨len, fun outer s H args us vs Q E e0 hb r hsp => ?_⟩
  have KX : K.In s.heap := e0.mod.kin.keeps fun b o e => (e0.bs b o e).1
  have lim : s.heap.NoLimit := e0.mod.nolimit.keeps fun b o e => (e0.bs b o e).1
  refine codeAny_call_function hr.depth (KX _ _ lk) rfl S.co S.gen rfl (codeRec_of KX hcd) (hb _ _ _ _ ?_)
  refine wpAny_newFunctionEnv_cells S.kind (fun ⟨n, v⟩ hy => ?_) fun env he s1 x => ?_
  · rcases S.par n (List.of_mem_zip hy).1 with q | q
    · exact .inl q
    · exact .inr ⟨q, cellsFrom_some _ _ _ (.inl q)⟩
  · subst he
    refine ⟨lim.keeps x.toInCall.keep, codeAny_func ?_⟩
    obtain ⟨t, ht, hq⟩ := body cdv outer s H vs Q E hsp
    have I := inv_start (CX := CX0) (P := P) (w := w) (mg := mg) (base := base) (E := E) S hr.hd e0 (len _ _ _ _ hsp) r x
    refine wpAny_mono (ht.nox.run [] s1 (start N vs) H _ I hq) (fun fl s' hs => ?_) fun e s' hs => hs
    cases fl with
    | ret u =>
      obtain ⟨v, σ', H', J, rv, q⟩ := hs
      exact ⟨v, H', J.os, J.bare, J.base, J.hok, rv, q⟩
    | next =>
      obtain ⟨σ', H', J, q⟩ := hs
      exact ⟨V.non, H', J.os, J.bare, J.base, J.hok, rfl, q⟩
    | brk =>
      obtain ⟨_, _, _, q⟩ := hs
      exact False.elim q
    | cont =>
      obtain ⟨_, _, _, q⟩ := hs
      exact False.elim q
end
section
variable {X : Cx} {f : Addr} {fd : FuncData} {ps : List Str} {sp : Sp} {x : Str} {p pos : Pos} {e : Expr} {es : List Expr} {t : TA}
/-- its call from there -/
theorem pe_callAt (F : FnAt X.prog X.w X.K X.mg X.base X.A f fd ps sp) (hg : Gl X x) (hm : X.mg x = some (.ref f)) (hk : keepIn X.K (.ref f) = true) (hb : Binds X.K fd ps []) (ha : PA X (e :: es) t)
    (hdb : (x == ("__debug__" : Str)) = false := by decide) (he : starEach (e :: es) X.env = (false, eval e X.env) :: starEach es X.env := by rfl) (hpl : (backTo pos (starEach es X.env)).any (·.1) = false := by rfl) :
    PE X (.Call (.Name x p) (e :: es) [] pos) (tCall sp [] E0 t) := by
  refine ⟨fun pins s σ H Q I h => wpAny_Call_Name_kw (ld_glob I hg hm ?_ hdb)⟩
  refine callWith_K (h₀ := X.base) I.ok.mod.kin hk (thn (ha.run pos pins s σ H _ I h) fun us s1 ⟨vs, H1, I1, r, q⟩ => ⟨I1.kIn, ?_⟩) he hpl
  have q : sp (vs ++ []) H1 Q E0 := q
  rw [List.append_nil] at q
  have hl : (us ++ []).length = ps.length := by rw [List.append_nil, ← r.length]; exact F.len _ _ _ _ q
  have b := hb s1 us I1.kIn hl
  rw [List.append_nil] at b
  refine wpAny_call (codeAny_mono (F.run X.stack s1 H1 ⟨us, []⟩ us vs Q E0 I1.env0 b r q) fun r s' hq => ?_)
  cases r with
  | error e => exact False.elim hq
  | ok fl =>
    cases fl with
    | ret u => exact I1.after hq
    | next => exact False.elim hq
    | brk => exact False.elim hq
    | cont => exact False.elim hq
end
end M22

set_option maxRecDepth 100000
set_option maxHeartbeats 4000000
/-! k22: own rules: dicts whose keys are tuples, nested or not. -/
namespace M22
open PySem PySem.Spec PyProof.Rows L2

/-! ### keys -/
/-- what may be a key, by its name as a nested key -/
structure KTy (κ : Type) where
  nk : κ → NestedKey
  inj : ∀ x y, nk x = nk y → x = y
  dep : ∀ x, (nk x).depth ≤ 8
abbrev KTy.dk {κ : Type} (T : KTy κ) (x : κ) : PyData := (T.nk x).data
abbrev nums (ns : List Nat) : List NestedKey := ns.map fun (n : Nat) => NestedKey.num (n : Int)
theorem nums_inj : ∀ {a b : List Nat}, nums a = nums b → a = b
  | [], [], _ => rfl
  | [], _ :: _, e => by simp [nums] at e
  | _ :: _, [], e => by simp [nums] at e
  | x :: xs, y :: ys, e => by
    rw [nums, nums, List.map_cons, List.map_cons, List.cons.injEq] at e
    obtain ⟨e1, e2⟩ := e
    injection e1 with e1
    rw [nums_inj e2, show x = y by omega]
theorem nums_dep : ∀ ns : List Nat, NestedKey.depthAll (nums ns) = 0
  | [] => rfl
  | n :: ns => by
    show max (NestedKey.depth (.num (n : Int))) (NestedKey.depthAll (nums ns)) = 0
    rw [nums_dep ns]
    rfl
theorem nums_data : ∀ ns : List Nat, NestedKey.datas (nums ns) = ns.map dN
  | [] => rfl
  | n :: ns => by
    show NestedKey.data (.num (n : Int)) :: NestedKey.datas (nums ns) = _
    rw [nums_data ns]
    rfl
/-- a tuple of numbers -/
def kT : KTy (List Nat) where
  nk := fun ns => .tup (nums ns)
  inj := fun x y e => by injection e with e; exact nums_inj e
  dep := fun ns => by show NestedKey.depthAll (nums ns) + 1 ≤ 8; rw [nums_dep]; decide
theorem kT_dk (ns : List Nat) : kT.dk ns = dT ns := by show PyData.tuple (NestedKey.datas (nums ns)) = _; rw [nums_data]
abbrev tups (c : List (List Nat)) : List NestedKey := c.map fun ns => NestedKey.tup (nums ns)
theorem tups_inj : ∀ {a b : List (List Nat)}, tups a = tups b → a = b
  | [], [], _ => rfl
  | [], _ :: _, e => by simp [tups] at e
  | _ :: _, [], e => by simp [tups] at e
  | x :: xs, y :: ys, e => by
    rw [tups, tups, List.map_cons, List.map_cons, List.cons.injEq] at e
    obtain ⟨e1, e2⟩ := e
    injection e1 with e1
    rw [tups_inj e2, nums_inj e1]
theorem tups_dep : ∀ c : List (List Nat), NestedKey.depthAll (tups c) ≤ 1
  | [] => by show 0 ≤ 1; decide
  | x :: c => by
    have := tups_dep c
    have h := nums_dep x
    show max (NestedKey.depthAll (nums x) + 1) (NestedKey.depthAll (tups c)) ≤ 1
    omega
theorem tups_data : ∀ c : List (List Nat), NestedKey.datas (tups c) = c.map dT
  | [] => rfl
  | x :: c => by
    show PyData.tuple (NestedKey.datas (nums x)) :: NestedKey.datas (tups c) = _
    rw [tups_data c, nums_data]
    rfl
/-- a tuple of tuples of numbers -/
def kC : KTy (List (List Nat)) where
  nk := fun c => .tup (tups c)
  inj := fun x y e => by injection e with e; exact tups_inj e
  dep := fun c => by
    have := tups_dep c
    show NestedKey.depthAll (tups c) + 1 ≤ 8
    omega
theorem kC_dk (c : List (List Nat)) : kC.dk c = dTT c := by show PyData.tuple (NestedKey.datas (tups c)) = _; rw [tups_data]
/-- a pair of numbers -/
def kP : KTy (Nat × Nat) where
  nk := fun p => .tup (nums [p.1, p.2])
  inj := fun x y e => by
    injection e with e
    have e := nums_inj e
    simp only [List.cons.injEq, and_true] at e
    exact Prod.ext e.1 e.2
  dep := fun p => by show NestedKey.depthAll (nums [p.1, p.2]) + 1 ≤ 8; rw [nums_dep]; decide
theorem kP_dk (p : Nat × Nat) : kP.dk p = dT [p.1, p.2] := by show PyData.tuple (NestedKey.datas (nums [p.1, p.2])) = _; rw [nums_data]

section
variable {X : Cx} {pins : List (Addr × Obj)} {σ : L2.St} {H : Hp} {s : Shared}
mutual
theorem nested_of (I : Inv X pins σ H s) : ∀ (k : NestedKey) (v : V) (u : Value), Dp X.K H v k.data → RelV v u → NestedIs s.heap k u
  | .none, v, u, h, r => by
    rw [NestedKey.data] at h
    cases h
    cases r
    exact .none
  | .num i, v, u, h, r => by
    rw [NestedKey.data] at h
    cases h
    obtain ⟨t, rfl⟩ := r
    exact .int i t
  | .text x, v, u, h, r => by
    rw [NestedKey.data] at h
    cases h
    obtain ⟨t, rfl⟩ := r
    exact .text x t
  | .tup ks, v, u, h, r => by
    rw [NestedKey.data] at h
    cases h with
    | tup hs ha =>
      cases r
      obtain ⟨its, rv, ⟨o, e1, e2, n, e3⟩, _⟩ := I.tuple hs
      exact .tup e1 e2 e3 (by simpa using nested_all I ks _ its ha rv)
theorem nested_all (I : Inv X pins σ H s) : ∀ (ks : List NestedKey) (vs : List V) (us : List Value), DpAll X.K H vs (NestedKey.datas ks) → Vals vs us → NestedAll s.heap ks us
  | [], vs, us, h, r => by
    rw [NestedKey.datas] at h
    cases h
    cases r
    exact .nil
  | k :: ks, vs, us, h, r => by
    rw [NestedKey.datas] at h
    cases h with
    | cons h1 h2 =>
      cases r with
      | cons r1 r2 => exact .cons (nested_of I k _ _ h1 r1) (nested_all I ks _ _ h2 r2)
end
end

/-! ### the dict -/
section
variable {κ : Type} [DecidableEq κ] (T : KTy κ)
abbrev Ents (κ : Type) := List (κ × Addr × V)
abbrev NK (P : Program) (w : World) : HeapKind P w NestedKey := nestedKind P w
abbrev EntRel : Ents κ → List (NestedKey × Addr × Value) → Prop := Paired fun e q => T.nk e.1 = q.1 ∧ e.2.1 = q.2.1 ∧ RelV e.2.2 q.2.2
/-- the dict's own object -/
def DnOk (P : Program) (w : World) (d : Addr) (es : Ents κ) (h : Heap) : Prop := es.length ≤ sizeLine ∧ (d == sysModules) = false ∧ ∃ xs, EntRel T es xs ∧
  ∃ o arr ep, h.get? d = some o ∧ o.ExactDict ∧ o.data = .dict arr ep ∧ arr.toList = xs.map (entryOfKey (NK P w)) ∧ (xs.map (·.1)).Nodup
def dnO (P : Program) (w : World) (d : Addr) (es : Ents κ) : HO := .ext (DnOk T P w d es)
/-- the keys' own tuples stand -/
def KeysAt (K : PySem.W.Frag) (H : Hp) (es : Ents κ) : Prop := ∀ e ∈ es, Dp K H (.ref e.2.1) (T.dk e.1)
def look (es : Ents κ) (k : κ) : Option V := (es.find? fun e => decide (e.1 = k)).map (·.2.2)
variable {T}
theorem KeysAt.mono {K : PySem.W.Frag} {H H' : Hp} {es : Ents κ} (s : Same H H') (h : KeysAt T K H es) : KeysAt T K H' es := fun e he => dp_mono s (h e he)
theorem KeysAt.nil {K : PySem.W.Frag} {H : Hp} : KeysAt T K H ([] : Ents κ) := fun _ h => absurd h List.not_mem_nil
theorem KeysAt.snoc {K : PySem.W.Frag} {H : Hp} {es : Ents κ} {k : κ} {b : Addr} {v : V} (h : KeysAt T K H es) (hb : Dp K H (.ref b) (T.dk k)) : KeysAt T K H (es ++ [(k, b, v)]) := fun e he => by
  rcases List.mem_append.mp he with he | he
  · exact h e he
  · rw [List.mem_singleton.mp he]; exact hb
theorem DnOk.stay {P : Program} {w : World} {d : Addr} {es : Ents κ} {h h' : Heap} (x : DnOk T P w d es h) (k : ∀ o, h.get? d = some o → h'.get? d = some o) : DnOk T P w d es h' := by
  obtain ⟨z, hd, xs, r, o, arr, ep, e, rest⟩ := x
  exact ⟨z, hd, xs, r, o, arr, ep, k _ e, rest⟩
theorem dn_new {P : Program} {w : World} {H : Hp} {d : Addr} {es : Ents κ} {h : Heap} (x : DnOk T P w d es h) : ObjOk P w H h d (dnO T P w d es) := by
  obtain ⟨_, _, _, _, o, _, _, e, _⟩ := id x
  exact ⟨x, ⟨o, e⟩, fun h1 h2 y k => y.stay k⟩
theorem EntRel.find {es : Ents κ} {xs : List (NestedKey × Addr × Value)} (r : EntRel T es xs) (k : κ) :
    (match look es k with | some v => ∃ a u, atKey xs (T.nk k) = some (a, u) ∧ RelV v u | none => atKey xs (T.nk k) = none) := by
  induction r with
  | nil => exact rfl
  | @cons e q es xs h t ih =>
    obtain ⟨h1, h2, h3⟩ := h
    by_cases c : e.1 = k
    · have c' : q.1 = T.nk k := by rw [← h1, c]
      have l : look (e :: es) k = some e.2.2 := by simp [look, List.find?_cons, c]
      rw [l]
      exact ⟨q.2.1, q.2.2, by simp [atKey, List.find?_cons, c'], h3⟩
    · have c' : ¬ q.1 = T.nk k := fun z => c (T.inj _ _ (h1.trans z))
      have l : look (e :: es) k = look es k := by simp [look, List.find?_cons, c]
      have l' : atKey (q :: xs) (T.nk k) = atKey xs (T.nk k) := by simp [atKey, List.find?_cons, c']
      rw [l, l']
      exact ih
theorem EntRel.keys {es : Ents κ} {xs : List (NestedKey × Addr × Value)} (r : EntRel T es xs) : xs.map (·.1) = es.map fun e => T.nk e.1 := by
  induction r with
  | nil => rfl
  | cons h t ih => rw [List.map_cons, List.map_cons, ih, h.1]
theorem look_none {es : Ents κ} {k : κ} (h : ¬ k ∈ es.map (·.1)) : look es k = none := by
  unfold look
  rw [List.find?_eq_none.mpr fun e he => ?_]
  · rfl
  · intro c
    exact h (List.mem_map.mpr ⟨e, he, of_decide_eq_true c⟩)
theorem look_some {es : Ents κ} {k : κ} (h : k ∈ es.map (·.1)) : ∃ v, look es k = some v := by
  obtain ⟨e, he, rfl⟩ := List.mem_map.mp h
  unfold look
  cases q : es.find? fun x => decide (x.1 = e.1) with
  | some x => exact ⟨_, rfl⟩
  | none => exact absurd (decide_eq_true rfl) (List.find?_eq_none.mp q e he)
theorem look_at {es : Ents κ} (nd : (es.map (·.1)).Nodup) {i : Nat} {k : κ} {b : Addr} {v : V} (h : es[i]? = some (k, b, v)) : look es k = some v := by
  induction es generalizing i with
  | nil => simp at h
  | cons e es ih =>
    obtain ⟨n1, n2⟩ := List.nodup_cons.mp (show (e.1 :: es.map (·.1)).Nodup from nd)
    cases i with
    | zero =>
      simp at h
      subst h
      simp [look, List.find?_cons]
    | succ i =>
      have h' : es[i]? = some (k, b, v) := by simpa using h
      have hne : ¬ e.1 = k := fun z => n1 (List.mem_map.mpr ⟨_, List.mem_of_getElem? h', z.symm⟩)
      have := ih n2 h'
      unfold look at this ⊢
      rw [List.find?_cons, decide_eq_false hne]
      exact this

variable {X : Cx} {pins : List (Addr × Obj)} {σ : L2.St} {H : Hp} {s : Shared} {d b : Addr} {es : Ents κ} {k : κ}
theorem keys_are (I : Inv X pins σ H s) : ∀ {es : Ents κ} {xs : List (NestedKey × Addr × Value)}, EntRel T es xs → KeysAt T X.K H es → ∀ x ∈ xs, (NK X.prog X.w).is s.heap x.1 x.2.1
  | _, _, .nil, _, x, hx => nomatch hx
  | _, _, .cons (a := e) (b := q) hq t, ks, x, hx => by
    rcases List.mem_cons.mp hx with rfl | hx
    · have := ks e List.mem_cons_self
      obtain ⟨h1, h2, _⟩ := hq
      rw [← h1, ← h2]
      exact ⟨nested_of I _ _ _ this rfl, T.dep _⟩
    · exact keys_are I t (fun e he => ks e (List.mem_cons_of_mem _ he)) x hx
theorem dn_at (I : Inv X pins σ H s) (h : H d = some (dnO T X.prog X.w d es)) (ks : KeysAt T X.K H es) : es.length ≤ sizeLine ∧ (d == sysModules) = false ∧
    ∃ xs, EntRel T es xs ∧ s.heap.DictOfH (NK X.prog X.w) d xs := by
  obtain ⟨⟨z, hd, xs, r, o, arr, ep, e, e2, e3, e4, e5⟩, _⟩ := I.hok d _ h
  exact ⟨z, hd, xs, r, o, arr, ep, e, e2, e3, e4, keys_are I r ks, e5⟩
theorem key_at (I : Inv X pins σ H s) (h : Dp X.K H (.ref b) (T.dk k)) : (NK X.prog X.w).is s.heap (T.nk k) b := ⟨nested_of I _ _ _ h rfl, T.dep _⟩
theorem room_at {A : Around} (hu : A.units + 64 < cLine) (P : Program) (w : World) : (NK P w).room A.in1 := by
  show A.units + 1 + 8 < cLine
  omega
theorem isSome_find {xs : List (NestedKey × Addr × Value)} (r : EntRel T es xs) (k : κ) : (atKey xs (T.nk k)).isSome = decide (k ∈ es.map (·.1)) := by
  have f := r.find k
  by_cases c : k ∈ es.map (·.1)
  · obtain ⟨v, hv⟩ := look_some c
    rw [hv] at f
    obtain ⟨a, u, e, _⟩ := f
    rw [e, decide_eq_true c]
    rfl
  · rw [look_none c] at f
    rw [f, decide_eq_false c]
    rfl

/-- {}, for such keys -/
def tNewN (T : KTy κ) (P : Program) (w : World) : TE := fun _ H Q => ∀ p, H p = none → Q (.ref p) (upd H p (dnO T P w p []))
theorem dn_empty {P : Program} {w : World} {H : Hp} (h : Heap) (hb : sysModules < h.objs.size) : ObjOk P w H (h.push { cls := .type "dict", data := .dict #[] }) h.objs.size (dnO T P w h.objs.size []) :=
  dn_new ⟨Nat.zero_le _, beq_eq_false_iff_ne.mpr (Ne.symm (Nat.ne_of_lt hb)), [], .nil, _, #[], 0, Heap.get?_push_size _ rfl, ⟨rfl, rfl, rfl⟩, rfl, rfl, List.nodup_nil⟩
theorem pe_newN {pos : Pos} : PE X (.Dict [] [] pos) (tNewN T X.prog X.w) := ⟨fun pins s σ H Q I h =>
  wpAny_Dict_empty ⟨.ref s.heap.objs.size, _, I.laid (o := dnO T X.prog X.w s.heap.objs.size []) (t' := s.toks) (fun _ _ q => Heap.get?_push_of_some _ q) (Nat.le_refl _) (dn_empty s.heap I.big), rfl, h _ (I.hok.fresh (Nat.le_refl _))⟩⟩
/-- {k: v}, one pair -/
def tDispN (T : KTy κ) (K : PySem.W.Frag) (P : Program) (w : World) (trs : List (TE × TE)) : TE := fun σ H Q => ∀ p, H p = none → tPairs trs σ (upd H p (dnO T P w p [])) fun ps H2 =>
  ∃ b k v, ps = [(.ref b, v)] ∧ H2 p = some (dnO T P w p []) ∧ Dp K H2 (.ref b) (T.dk k) ∧ Q (.ref p) (upd H2 p (dnO T P w p [(k, b, v)]))
theorem pe_dispN {pos : Pos} {keys : List (Option Expr)} {values : List Expr} {trs : List (TE × TE)} (hu : X.A.units + 64 < cLine) (h : PPs X pos keys values trs) (hall : keys.all (·.isSome) = true) (hl : keys.length = values.length) (h0 : keys ≠ [])
    (h15 : keys.length ≤ 15) : PE X (.Dict keys values pos) (tDispN T X.K X.prog X.w trs) := by
  refine ⟨fun pins s σ H Q I q => ?_⟩
  have hn := I.hok.fresh (Nat.le_refl s.heap.objs.size)
  have I1 := I.laid (o := dnO T X.prog X.w s.heap.objs.size []) (h' := s.heap.push { cls := .type "dict", data := .dict #[] }) (t' := s.toks) (fun _ _ q => Heap.get?_push_of_some _ q) (Nat.le_refl _) (dn_empty s.heap I.big)
  have hlen := pairTrees_length keys values X.env pos hall hl
  rw [arm_eval_Dict, zip_pairTrees keys values X.env pos hall hl, dictDisplay_pairs _ (fun he => by rw [he] at hlen; exact h0 (List.length_eq_zero_iff.mp hlen.symm)) (by omega)]
  refine wpAny_bind (wpAny_standAt (wpAny_bind (wpAny_subDictH (knd := NK X.prog X.w) (Q := fun d s' => wpAny (model X.prog X.w) X.A (pure (Value.ref d)) (EP X pins σ Q) X.xe s') (show X.A.units + 8 < cLine by omega) (by omega) ?_)))
  refine thn (h.run pins _ σ _ _ I1 (q _ hn)) fun ws s2 ⟨ps, H2, I2, rel, b, k, v, ep, e, hk, q2⟩ => ?_
  subst ep
  cases rel with
  | @cons pa pb pas pbs r1 r2 =>
    cases r2
    obtain ⟨q1, q2'⟩ := pb
    obtain ⟨ra, rb⟩ := r1
    cases (show q1 = Value.ref b from ra)
    obtain ⟨z, hd, xs, r, dd⟩ := dn_at (T := T) (es := []) I2 e KeysAt.nil
    cases r
    refine ⟨[(T.nk k, b, q2')], ⟨rfl, rfl, key_at I2 hk, True.intro⟩, dd, fun h' tk dd' hs => wpAny_pure ⟨.ref s.heap.objs.size, _, ?_, rfl, q2⟩⟩
    obtain ⟨o, arr, ep, a1, a2, a3, a4, _, a5⟩ := dd'
    exact d_write I2 (by rw [e]; exact True.intro) hs ⟨o, a1⟩ (dn_new ⟨by show 1 ≤ sizeLine; decide, hd, _, .cons ⟨rfl, rfl, rb⟩ .nil, o, arr, ep, a1, a2, a3, a4, a5⟩)

/-- k in d, k not in d -/
def rInN (T : KTy κ) (K : PySem.W.Frag) (P : Program) (w : World) (neg : Bool) : R2 := fun x y H Q => ∃ d es b k, x = .ref b ∧ y = .ref d ∧ H d = some (dnO T P w d es) ∧ KeysAt T K H es ∧ Dp K H (.ref b) (T.dk k) ∧
  Q (.bl (if neg then !decide (k ∈ es.map (·.1)) else decide (k ∈ es.map (·.1)))) H
theorem op_inN (hu : X.A.units + 64 < cLine) : OpR X (compareOp .In) (rInN T X.K X.prog X.w false) := by
  intro pins s σ H x y v u Q I rx ry h
  obtain ⟨d, es, b, k, rfl, rfl, hd, ks, hb, q⟩ := h
  cases rx
  cases ry
  obtain ⟨z, hs, xs, r, dd⟩ := dn_at I hd ks
  refine wpAny_in_heap (room_at hu _ _) (key_at I hb) hs dd ?_
  rw [isSome_find r]
  exact ⟨.bl _, H, I.tok _, rfl, q⟩
theorem op_notInN (hu : X.A.units + 64 < cLine) : OpR X (compareOp .NotIn) (rInN T X.K X.prog X.w true) := by
  intro pins s σ H x y v u Q I rx ry h
  obtain ⟨d, es, b, k, rfl, rfl, hd, ks, hb, q⟩ := h
  cases rx
  cases ry
  obtain ⟨z, hs, xs, r, dd⟩ := dn_at I hd ks
  refine wpAny_notIn_heap (room_at hu _ _) (key_at I hb) hs dd ?_
  rw [isSome_find r]
  exact ⟨.bl _, H, I.tok _, rfl, q⟩
/-- d[k], there -/
def tGetN (T : KTy κ) (K : PySem.W.Frag) (P : Program) (w : World) (td ty : TE) : TE := fun σ H Q => td σ H fun x H1 => ty σ H1 fun y H2 => ∃ d es b k v, x = .ref d ∧ y = .ref b ∧ H2 d = some (dnO T P w d es) ∧ KeysAt T K H2 es ∧
  Dp K H2 (.ref b) (T.dk k) ∧ look es k = some v ∧ Q v H2
theorem pe_getN {o i : Expr} {pos : Pos} {td ty : TE} (hu : X.A.units + 64 < cLine) (ho : PE X o td) (hi : PE X i ty) (hs : NoSl i) : PE X (.Subscript o i pos) (tGetN T X.K X.prog X.w td ty) := by
  refine ⟨fun pins s σ H Q I h => ?_⟩
  refine subD_of PySem.F.slot_dict_getitem.lookup hs (thn (ho.run pins s σ H _ I h) fun u s1 ⟨x, H1, I1, rx, q1⟩ => thn (hi.run pins s1 σ H1 _ I1 q1) fun iv s2 ⟨y, H2, I2, ry, d, es, b, k, v, ex, ey, hd, ks, hb, hl, q2⟩ => ?_)
  subst ex ey
  cases (show u = Value.ref d from rx)
  cases (show iv = Value.ref b from ry)
  obtain ⟨z, hsy, xs, r, dd⟩ := dn_at I2 hd ks
  have f := r.find k
  rw [hl] at f
  obtain ⟨a, u, ea, ru⟩ := f
  exact ⟨dd.typeIs, wpAny_getItem_heap (room_at hu _ _) (key_at I2 hb) dd ea ⟨v, H2, I2.tok _, ru, q2⟩⟩
/-- d[k] = v, k new -/
def rSetN (T : KTy κ) (K : PySem.W.Frag) (P : Program) (w : World) : TSet := fun o i v H Q => ∃ d es b k, o = .ref d ∧ i = .ref b ∧ H d = some (dnO T P w d es) ∧ KeysAt T K H es ∧ Dp K H (.ref b) (T.dk k) ∧ ¬ k ∈ es.map (·.1) ∧ es.length < sizeLine ∧
  Q (upd H d (dnO T P w d (es ++ [(k, b, v)])))
theorem set_N (hu : X.A.units + 64 < cLine) : PSet X (rSetN T X.K X.prog X.w) := by
  intro pins s σ H o i v ov iv u Q I ro ri rv h
  obtain ⟨d, es, b, k, eo, ei, hd, ks, hb, hn, hl, q⟩ := h
  subst eo ei
  cases (show ov = Value.ref d from ro)
  cases (show iv = Value.ref b from ri)
  obtain ⟨z, hs, xs, r, dd⟩ := dn_at I hd ks
  have hx : es.length = xs.length := Paired.length r
  refine wpAny_setItem_heap (hsz := by omega) (room_at hu _ _) (key_at I hb) dd fun h' dd' hsb => ?_
  have f := r.find k
  rw [look_none hn] at f
  rw [storedH_new f] at dd'
  obtain ⟨q0, arr, ep, a1, a2, a3, a4, _, a5⟩ := dd'
  refine ⟨_, d_write I (by rw [hd]; exact True.intro) hsb ⟨q0, a1⟩ (dn_new ⟨by rw [List.length_append]; exact hl, hs, _, Paired.snoc r ⟨rfl, rfl, rv⟩, q0, arr, ep, a1, a2, a3, a4, a5⟩), q⟩
/-- len(d) -/
theorem cr_lenN : CallR X (.builtin "len") (fun xs H Q => ∃ d es, xs = [.ref d] ∧ H d = some (dnO T X.prog X.w d es) ∧ KeysAt T X.K H es ∧ Q (.int (es.length : Int)) H) := by
  intro pins s σ H xs us Q I r h
  obtain ⟨d, es, rfl, hd, ks, q⟩ := h
  obtain ⟨u, rfl, rx⟩ := vals1 r
  cases rx
  obtain ⟨z, hs, xs, rel, dd⟩ := dn_at I hd ks
  have hx : es.length = xs.length := Paired.length rel
  refine call_len_dictH hs dd (by have := sizeLine_eq; omega) ?_
  rw [← hx]
  exact ⟨.int _, H, I.tok _, ⟨_, rfl⟩, q⟩
/-- d.setdefault(k, x) -/
def tSetdN (T : KTy κ) (K : PySem.W.Frag) (P : Program) (w : World) (td ty tx : TE) : TE := fun σ H Q => td σ H fun x H1 => (∃ d es, x = .ref d ∧ H1 d = some (dnO T P w d es) ∧ KeysAt T K H1 es) ∧ ty σ H1 fun y H2 => tx σ H2 fun z H3 =>
  ∃ d es b k, x = .ref d ∧ y = .ref b ∧ H3 d = some (dnO T P w d es) ∧ KeysAt T K H3 es ∧ Dp K H3 (.ref b) (T.dk k) ∧ es.length < sizeLine ∧ (∀ v, look es k = some v → Q v H3) ∧ (¬ k ∈ es.map (·.1) → Q z (upd H3 d (dnO T P w d (es ++ [(k, b, z)]))))
theorem pe_setdN {o e f : Expr} {td ty tx : TE} {apos cpos : Pos} (hu : X.A.units + 64 < cLine) (ho : PE X o td) (he : PE X e ty) (hf : PE X f tx) (m : M2 X o "setdefault" apos e f cpos) :
    PE X (.Call (.Attribute o "setdefault" apos) [e, f] [] cpos) (tSetdN T X.K X.prog X.w td ty tx) := by
  refine ⟨fun pins s σ H Q I h => ?_⟩
  refine wpAny_Call_method m.base m.few m.line PySem.F.plainAttrs_dict PySem.F.slot_dict_setdefault PySem.F.type_dict_setdefault (thn (ho.run pins s σ H _ I h) fun u s1 ⟨x, H1, I1, rx, ⟨d, es, ex, hd, ks⟩, q1⟩ => ?_)
  subst ex
  cases (show u = Value.ref d from rx)
  obtain ⟨z, hs, xs, r, dd⟩ := dn_at I1 hd ks
  refine ⟨dd.typeIs, fun b q => ?_, ?_⟩
  · cases q
    obtain ⟨ob, _, _, a1, a2, _⟩ := dd
    exact ⟨ob, a1, a2.2.1⟩
  rw [m.trees]
  refine Calls.callWith_builtin rfl (Calls.evalArgs_plain (Calls.spliced_cons (thn (he.run pins s1 σ H1 _ I1 q1) fun iv s2 ⟨y, H2, I2, ry, q2⟩ =>
    Calls.spliced_cons (thn (hf.run pins s2 σ H2 _ I2 q2) fun fv s3 ⟨w0, H3, I3, rz, d', es', b, k, ed, ey, hd', ks', hb, hl, q3, q4⟩ => Calls.spliced_nil ?_))))
  cases ed
  subst ey
  cases (show iv = Value.ref b from ry)
  obtain ⟨z', hs', xs', r', dd'⟩ := dn_at I3 hd' ks'
  have hx : es'.length = xs'.length := Paired.length r'
  have fd := r'.find k
  refine call_setdefault_heap (hsz := by omega) (room_at hu _ _) (key_at I3 hb) hs' dd' ?h1 ?h2
  case h1 =>
    intro p hp
    cases hv : look es' k with
    | none => rw [hv] at fd; rw [fd] at hp; cases hp
    | some v =>
      rw [hv] at fd
      obtain ⟨a, u, ea, ru⟩ := fd
      rw [ea] at hp
      cases hp
      exact ⟨v, H3, I3.tok _, ru, q3 v hv⟩
  case h2 =>
    intro hp h' dd2 hsb
    have hn : ¬ k ∈ es'.map (·.1) := fun c => by
      have := isSome_find r' k
      rw [hp, decide_eq_true c] at this
      cases this
    rw [storedH_new hp] at dd2
    obtain ⟨q0, arr, ep, a1, a2, a3, a4, _, a5⟩ := dd2
    exact ⟨w0, _, d_write I3 (by rw [hd']; exact True.intro) hsb ⟨q0, a1⟩ (dn_new ⟨by rw [List.length_append]; exact hl, hs', _, Paired.snoc r' ⟨rfl, rfl, rz⟩, q0, arr, ep, a1, a2, a3, a4, a5⟩), rz, q4 hn⟩
end
end M22

set_option maxRecDepth 100000
set_option maxHeartbeats 4000000
/-! k22: own rules: such a dict walked by its keys. -/
namespace M22
open PySem PySem.Spec PyProof.Rows L2
section
variable {κ : Type} [DecidableEq κ] {T : KTy κ}
variable {X : Cx} {pins : List (Addr × Obj)} {σ : L2.St} {H : Hp} {s : Shared} {d b : Addr} {o : Obj} {es : Ents κ} {k : κ}
theorem frzN (I : Inv X pins σ H s) (h : H d = some (.frz o (dnO T X.prog X.w d es))) : (d == sysModules) = false ∧ s.heap.get? d = some o ∧ o.ExactDict ∧
    ∃ (arr : Array DictEntry) (ep : Nat), o.data = .dict arr ep ∧ arr.size = es.length ∧ ∀ (i : Nat) (k : κ) (b : Addr) (v : V), es[i]? = some (k, b, v) → ∃ en, arr[i]? = some en ∧ en.key = .ref b := by
  obtain ⟨hg, ⟨z, hs, xs, r, o', arr, ep, e, e2, e3, e4, e5⟩, _⟩ := I.hok d _ h
  rw [hg] at e
  cases e
  refine ⟨hs, hg, e2, arr, ep, e3, ?_, fun i k b v hi => ?_⟩
  · have l1 : arr.size = xs.length := size_of_entries e4
    have l2 : es.length = xs.length := Paired.length r
    omega
  · obtain ⟨q, hq, _, h2, _⟩ := paired_get r hi
    have z := entry_at e4 i
    rw [hq] at z
    exact ⟨_, z, by show Value.ref q.2.1 = .ref b; rw [← h2]⟩
/-- the keys of such a locked dict, in their order: their own tuples -/
def ItkN (T : KTy κ) (P : Program) (w : World) (d : Addr) (o : Obj) (es : Ents κ) : It :=
  ⟨fun i H => H d = some (.frz o (dnO T P w d es)) ∧ i < es.length, fun i H x H' => H' = H ∧ ∃ k b v, es[i]? = some (k, b, v) ∧ x = .ref b, fun i H => H d = some (.frz o (dnO T P w d es)) ∧ es.length ≤ i⟩
theorem turn_keysN {P : Program} {w : World} {K : PySem.W.Frag} {tg : Expr} {arr : Array DictEntry} {ep : Nat} (it : Addr) (hod : o.data = .dict arr ep) :
    Turn P w K tg (ItkN T P w d o es) [it] it (fun i h => h.IsKeyIter it d i es.length ep) where
  mem := by simp
  obj := fun i h st c hc => by
    have e : c = it := by simpa using hc
    subst e
    obtain ⟨oi, e, _, dd⟩ := st
    exact ⟨oi, e, fun v z => by rw [dd] at z; cases z⟩
  keep := fun i h h' st k => st.at fun oi e => k it (by simp) oi e
  item := by
    intro X hP hw hK hc i pins s σ H E I hf st hg
    subst hP hw hK
    obtain ⟨hd, hi⟩ := hg
    obtain ⟨f0, f1, f2, f3, f4, f5⟩ := hf it (by simp)
    obtain ⟨hs, hgd, hx, arr', ep', hdt, hsz, ent⟩ := frzN I hd
    obtain ⟨rfl, rfl⟩ := dict_ep hod hdt
    obtain ⟨⟨k, b, v⟩, hkv⟩ : ∃ p, es[i]? = some p := ⟨es[i], List.getElem?_eq_getElem hi⟩
    obtain ⟨en, hen, hkey⟩ := ent i k b v hkv
    refine next_key_item st hgd hdt hsz hen fun h' st' sb => ?_
    have I1 : Inv X pins σ H { s with heap := h' } := I.turned (t' := s.toks) (fun c ob hc e => (sb.2 c hc).trans e) f0 f1 f3 f4 f5
    obtain ⟨oi, e, c, dd⟩ := id st'
    exact ⟨en.key, rfl, go_of (s := { s with heap := h' }) e c dd (by decide) ⟨.ref b, H, I1, hkey, ⟨rfl, k, b, v, hkv, rfl⟩, st', fun c hc => (hf c hc).1⟩⟩
  done := by
    intro X hP hw hK hc i pins s σ H E I hf st hg
    subst hP hw hK
    obtain ⟨hd, hi⟩ := hg
    obtain ⟨f0, f1, f2, f3, f4, f5⟩ := hf it (by simp)
    obtain ⟨hs, hgd, hx, arr', ep', hdt, hsz, ent⟩ := frzN I hd
    obtain ⟨rfl, rfl⟩ := dict_ep hod hdt
    exact next_key_end (I.ok.hd hc) st hgd hdt hsz hi fun h' eb => ⟨rfl, I.turned (t' := s.toks) (fun c ob hc e => eb c ob hc e) f0 f1 f3 f4 f5⟩
  self := fun A i s Q E st h => by
    refine wpAny_pyIter_slot st.typeIs F.slot_dict_keyiterator_iter (wpAny_call_entry F.slot_dict_keyiterator_iter st.typeIs F.entry_dict_keyiterator_iter ?_ (F.args_dict_keyiterator_iter_1 _))
    refine wpAny_pure ?_
    exact ⟨_, rfl, "dict_keyiterator", _, st.typeIs, F.slot_dict_keyiterator_next.lookup, h⟩
def iKeysN (T : KTy κ) (P : Program) (w : World) (td : TE) : TI := fun σ H R => td σ H fun x H1 => ∃ d o es, x = .ref d ∧ H1 d = some (.frz o (dnO T P w d es)) ∧ R (ItkN T P w d o es) H1
theorem pi_keysN {tg e : Expr} {td : TE} (he : PE X e td) : PI X tg e (iKeysN T X.prog X.w td) := by
  refine ⟨fun pins s σ H R I h => thn (he.run pins s σ H _ I h) fun u s1 ⟨x, H1, I1, rx, d, o, es, ex, hd, q⟩ => ?_⟩
  subst ex
  cases (show u = Value.ref d from rx)
  obtain ⟨hs, hgd, hx, arr, ep, hdt, hsz, ent⟩ := frzN I1 hd
  refine iter_keys hs hgd hx hdt (pi_one (tk := s1.toks) I1 _ (turn_keysN _ hdt) ⟨_, Heap.get?_push_size _ rfl, rfl, ?_⟩ q)
  rw [hsz] <;> rfl
/-- a comprehension over them -/
theorem lc_keysN {P : Program} {w : World} {g : TG} {tt : TT} {te : TE} {vs : List Nat} {σ : L2.St} {H1 : Hp} {D : Addr} {Qd : Hp → Prop} (Pv : Nat → Hp → Prop) (h0 : Pv 0 (upd H1 D (.lst []))) (hl : ∀ i H, i ≤ es.length → Pv i H → H d = some (.frz o (dnO T P w d es)))
    (hs : ∀ i k b v H, es[i]? = some (k, b, v) → Pv i H → g (.ref b) (wipe σ vs) H fun σ2 H2 => wipe σ2 vs = wipe σ vs ∧ tt σ2 H2 fun c H3 =>
      if c = true then te σ2 H3 fun y H4 => ∃ acc, H4 D = some (.lst acc) ∧ acc.length < sizeLine ∧ Pv (i + 1) (upd H4 D (.lst (acc ++ [y]))) else Pv (i + 1) H3) (hd : ∀ H, Pv es.length H → Qd H) :
    ∃ W : Nat → Nat → Hp → Prop, (∃ m, W 0 m (upd H1 D (.lst []))) ∧ ∀ i m H, W i m H →
      ((ItkN T P w d o es).stop i H ∧ Qd H) ∨ ((ItkN T P w d o es).go i H ∧ ∃ Nx : Hp → Prop, (∀ H', Nx H' → ∃ m', m' < m ∧ W (i + 1) m' H') ∧ ∀ x H', (ItkN T P w d o es).yld i H x H' → g x (wipe σ vs) H' fun σ2 H2 => wipe σ2 vs = wipe σ vs ∧ tt σ2 H2 fun c H3 =>
        if c = true then te σ2 H3 fun y H4 => ∃ acc, H4 D = some (.lst acc) ∧ acc.length < sizeLine ∧ Nx (upd H4 D (.lst (acc ++ [y]))) else Nx H3) := by
  refine ⟨fun i m H => m = es.length - i ∧ i ≤ es.length ∧ Pv i H, ⟨es.length, by simp, Nat.zero_le _, h0⟩, ?_⟩
  rintro i m H ⟨rfl, hi, p⟩
  have q := hl i H hi p
  by_cases hlt : i < es.length
  · refine .inr ⟨⟨q, hlt⟩, Pv (i + 1), fun H' p' => ⟨es.length - (i + 1), by omega, rfl, hlt, p'⟩, fun x H' y => ?_⟩
    obtain ⟨e, k, b, v, hk, ex⟩ := y
    subst e ex
    exact hs i k b v _ hk p
  · have e : i = es.length := by omega
    subst e
    exact .inl ⟨⟨q, Nat.le_refl _⟩, hd H p⟩
end
end M22

set_option maxRecDepth 100000
set_option maxHeartbeats 4000000
/-! k22: own rules: list(d.values()). -/
namespace M22
open PySem PySem.Spec PyProof.Rows L2
theorem vals_ix : ∀ {xs : List V} {us : List Value}, xs.length = us.length → (∀ (i : Nat) x u, xs[i]? = some x → us[i]? = some u → RelV x u) → Vals xs us
  | [], [], _, _ => .nil
  | [], _ :: _, h, _ => by cases h
  | _ :: _, [], h, _ => by cases h
  | x :: xs, u :: us, h, f => .cons (f 0 x u rfl rfl) (vals_ix (Nat.succ.inj h) fun i x u e1 e2 => f (i + 1) x u e1 e2)
def tListVals (te : TE) : TE := fun σ H Q => te σ H fun x H1 => ∃ (d : Addr) (kvs : List (Key × V)), x = .ref d ∧ H1 d = some (.dK kvs) ∧ ∀ p, H1 p = none → Q (.ref p) (upd H1 p (.lst (kvs.map (·.2))))
section
variable {X : Cx} {e : Expr} {te : TE} {p apos cpos pos : Pos}
theorem pe_listVals (hc : X.calm = true) (he : PE X e te) (hg : Gl X "list") (hm : X.mg "list" = none) (hv : bootBuiltins "list" = some (.type "list")) (hbase : attributeBase e "values" X.env (eval e X.env) = eval e X.env := by rfl) (hline : (apos.endLine == cpos.line) = true := by rfl)
    (hs : starEach [.Call (.Attribute e "values" apos) [] [] cpos] X.env = (false, eval (.Call (.Attribute e "values" apos) [] [] cpos) X.env) :: starEach [] X.env := by rfl) :
    PE X (.Call (.Name "list" p) [.Call (.Attribute e "values" apos) [] [] cpos] [] pos) (tListVals te) := by
  refine ⟨fun pins s σ H Q I hq => wpAny_Call_Name_kw (ld_blt I hg hm hv ?_)⟩
  refine PyProof.Rows.callWith_type1 ?_ hs rfl
  rw [hs]
  refine Calls.spliced_cons (rest := backTo pos (starEach [] X.env)) ?_
  refine wpAny_Call_method (T := "dict") (id := "dict.values") hbase rfl hline F.plainAttrs_dict F.slot_dict_values F.type_dict_values (thn (he.run pins s σ H _ I hq) fun u s1 ⟨x, H1, I1, rx, d, kvs, ex, hd, q⟩ => ?_)
  subst ex
  cases (show u = Value.ref d from rx)
  obtain ⟨hz, hs0, vs, kv, hdo⟩ := I1.hok d _ hd
  have lk : kvs.length = vs.length := Paired.length kv
  have I2 : Inv X pins σ H1 { s1 with heap := s1.heap.push { cls := .type "dict_values", data := .fields #[.ref d] } } := I1.kept (t' := s1.toks) fun b ob q => Heap.get?_push_of_some _ q
  refine ⟨hdo.typeIs, hdo.mapOf.noDict, ?_⟩
  refine method_meetsIn F.slot_dict_values F.entry_dict_values rfl (PySem.evalArgs_none ⟨rfl, hdo.typeIs, F.args_dict_values_1 _, _, meets_dict_values (mixKind X.prog X.w) d hs0, ⟨vs, hdo⟩, ?_⟩)
  refine Calls.spliced_nil ?_
  obtain ⟨es, ep, raw, hsz, hes⟩ := (hdo.push (o := { cls := .type "dict_values", data := .fields #[.ref d] })).raw
  refine W.kdl_call PySem.KdlSrc.rawValues (I1.ok.hd hc) ⟨⟨_, Heap.get?_push_size _ rfl, rfl, rfl⟩, raw⟩ (by omega) fun h' tk acc c hk hS hi => ?_
  have I3 : Inv X pins σ (upd H1 _ (.lst (kvs.map (·.2)))) { s1 with heap := h', toks := tk } := I2.laid (h' := h') (t' := tk) hk (Nat.le_refl _) ?_
  · exact ⟨.ref _, _, I3, rfl, q _ (I2.hok.fresh (Nat.le_refl _))⟩
  · refine ⟨by rw [List.length_map]; exact hz, acc.toList, c, ?_, by simpa using hS⟩
    obtain ⟨h1, h2⟩ := hi
    have hl : acc.toList.length = acc.size := by simp
    refine vals_ix (by rw [List.length_map, hl, h1, hsz, lk]) fun i x u ex eu => ?_
    rw [Array.getElem?_toList] at eu
    obtain ⟨hi, ev⟩ := h2 i u eu
    rw [List.getElem?_map] at ex
    obtain ⟨⟨k, y⟩, ek, ey⟩ := Option.map_eq_some_iff.mp ex
    cases ey
    obtain ⟨u', hu, ru⟩ := kv_get kv ek
    rw [ev, (hes i hi k u' hu).2]
    exact ru
end
end M22

set_option maxRecDepth 100000
set_option maxHeartbeats 4000000
namespace M22
open PySem PySem.Spec PyProof.Rows L2

/-! ### the text by places -/
def top (i : Nat) : Stmt := PySem.Challenge.pw_widefills_k22_whole_lots_as_machines_and.main.body.getD i (.Pass ⟨0, 0, 0, 0⟩)

/-! ### a def of the module, its promise, its call -/
structure DefAt (K : PySem.W.Frag) (mg : Str → Option Value) (x : Str) (st : Stmt) : Prop where
  ex : ∃ f fd, Fun K x x st f fd ∧ mg x = some (.ref f)
def BindOk (x qual : Str) (st : Stmt) (ps : List Str) : Prop := ∀ (kV doc pm : Value) (an : Option Addr) (cdv ct : Value) (us : List Value), us.length = ps.length → bindArgs (PySem.W.fnOf x qual (defArgs st) (defBody st) (defScope st) .none kV doc pm an cdv ct) ⟨us, []⟩ = pure (ps.zip us)
structure Cal (P : Program) (w : World) (K : PySem.W.Frag) (mg : Str → Option Value) (base : Heap) (k : Nat) (x : Str) (ps : List Str) (sp : Sp) : Prop where
  ex : ∃ f fd, FnOk P w K mg base CX0 k f fd ps sp ∧ mg x = some (.ref f) ∧ PySem.W.keepIn K (.ref f) = true ∧ Binds K fd ps [] ∧ ∃ (oc : Value) (od : Option Addr) (osl : Array (Option Value)), K.lookup f = some ⟨oc, od, .func fd, osl⟩
section
variable {P : Program} {w : World} {K : PySem.W.Frag} {mg : Str → Option Value} {base : Heap}
theorem cal_of {x : Str} {st : Stmt} {N ps : List Str} {k : Nat} {sp : Sp} (D : DefAt K mg x st) (S : FnScope N ps (defScope st)) (b : BindOk x x st ps) (len : ∀ vs H Q E, sp vs H Q E → vs.length = ps.length)
    (hbody : ∀ (f : Addr) (cdv : Value) (A : Around) (outer : List Env) (s : Shared) (H : Hp) (vs : List V) (Q : VK) (E : XK), Room k (A.deeper (envOfC x (defScope st) s.heap.objs.size f cdv)) → sp vs H Q E →
      ∃ t, PSs (cxOf CX0 P w K mg base N x (defScope st) f cdv A outer s H E).nox (defBody st) t ∧ t { nx := fun _ H' => Q .non H', rt := Q } (start N vs) H) : Cal P w K mg base (k + 1) x ps sp := by
  obtain ⟨f, fd, F, hm⟩ := D.ex
  refine ⟨f, fd, F.ok S len (fun cdv A outer s H vs Q E => hbody f cdv A outer s H vs Q E), hm, F.kp, F.binds b, ?_⟩
  obtain ⟨oc, od, _, _, _, _, _, _, osl, _, lk, _⟩ := F.ex
  exact ⟨oc, od, osl, lk⟩
theorem hu_64 {A : Around} {k : Nat} (hr : Room k A) : A.units + 64 < cLine := hr.units
end
section
variable {X : Cx} {k j : Nat} {x : Str} {ps : List Str} {sp : Sp} {p pos : Pos} {e : Expr} {es : List Expr} {t : TA}
theorem pe_c (c : Cal X.prog X.w X.K X.mg X.base k x ps sp) (hr : Room j X.A) (hk : k ≤ j) (hg : Gl X x) (ha : PA X (e :: es) t)
    (hdb : (x == ("__debug__" : Str)) = false := by decide) (he : starEach (e :: es) X.env = (false, eval e X.env) :: starEach es X.env := by rfl) (hpl : (backTo pos (starEach es X.env)).any (·.1) = false := by rfl) :
    PE X (.Call (.Name x p) (e :: es) [] pos) (tCall sp [] E0 t) := by
  obtain ⟨f, fd, F, hm, kp, b, _⟩ := c.ex
  exact pe_call F (hr.mono hk) hg hm kp b .nil pass0 ha hdb he hpl
end

/-! ### the classes -/
structure InsC (K : PySem.W.Frag) (C : Addr) : Prop where
  cl : Cls K C
  ha : PySem.W.findIn K (.ref C) "__class__" = some (some (.builtin "object.__class__"))
  hn : PySem.W.specialIn K (.builtin "object.__class__") "__get__" = some (some (.builtin "getset_descriptor.__get__"))
  htk : PySem.W.takesIn K (.builtin "object.__class__") = some true
  hm : PySem.W.mroIn K C (.type "object") = some true
  me : PySem.W.kitOne K (.ref C) (.ref C) = some true
theorem InsC.ty {K : PySem.W.Frag} {C a dx : Addr} {H : Hp} {fs : List (Str × V)} (c : InsC K C) (h : H a = some (.ins C dx fs)) : TyX K H (.ref a) (.ref C) := .base (.ins h c.cl c.ha c.hn c.htk c.hm)
/-- what the walks ask of the top -/
structure Tx (K : PySem.W.Frag) (mg : Str → Option Value) (CM CT : Addr) : Prop where
  len : mg "len" = none
  isinstance : mg "isinstance" = none
  int : mg "int" = none
  bool : mg "bool" = none
  str : mg "str" = none
  list : mg "list" = none
  tuple : mg "tuple" = none
  all : mg "all" = none
  set : mg "set" = none
  sorted : mg "sorted" = none
  range : mg "range" = none
  zip : mg "zip" = none
  enumerate : mg "enumerate" = none
  sum : mg "sum" = none
  abs : mg "abs" = none
  max : mg "max" = none
  divmod : mg "divmod" = none
  repr : mg "repr" = none
  SIGNS : ∃ u, mg "SIGNS" = some u ∧ RelV (.str "abc") u
  MOST_LETTERS : ∃ u, mg "MOST_LETTERS" = some u ∧ RelV (.int 3) u
  MOST_SIGNS : ∃ u, mg "MOST_SIGNS" = some u ∧ RelV (.int 60) u
  MOST_GIVEN : ∃ u, mg "MOST_GIVEN" = some u ∧ RelV (.int 12) u
  MOST_STATES : ∃ u, mg "MOST_STATES" = some u ∧ RelV (.int 60) u
  MOST_MACHINES : ∃ u, mg "MOST_MACHINES" = some u ∧ RelV (.int 3) u
  MOST_CLASSES : ∃ u, mg "MOST_CLASSES" = some u ∧ RelV (.int 24) u
  Machine : mg "Machine" = some (.ref CM)
  Table : mg "Table" = some (.ref CT)
  iM : InsC K CM
  iT : InsC K CT
  mL : NoAttr K CM "own_letters"
  mS : NoAttr K CM "own_steps"
  mE : NoAttr K CM "own_ends"
  tL : NoAttr K CT "own_letters"
  tM : NoAttr K CT "own_machines"
  tW : NoAttr K CT "own_words"
  tC : NoAttr K CT "own_changes"
  tP : NoAttr K CT "own_products"
  tK : NoAttr K CT "own_kept"
/-- a name of the module, by its value -/
theorem pe_g {X : Cx} {x : Str} {v : V} {pos : Pos} (hg : Gl X x) (h : ∃ u, X.mg x = some u ∧ RelV v u) (hd : (x == ("__debug__" : Str)) = false := by decide) : PE X (.Name x pos) (fun _ H Q => Q v H) := by
  obtain ⟨u, hm, r⟩ := h
  exact pe_glob hg hm r hd
theorem pe_gC {X : Cx} {x : Str} {C : Addr} {pos : Pos} (hg : Gl X x) (h : X.mg x = some (.ref C)) (hd : (x == ("__debug__" : Str)) = false := by decide) : PE X (.Name x pos) (fun _ H Q => Q (.ref C) H) := pe_glob hg h rfl hd
end M22

set_option maxRecDepth 100000
set_option maxHeartbeats 4000000
/-! k22: comprehensions of data, read once. -/
namespace M22
open PySem PySem.Spec PyProof.Rows L2
theorem ifT {c : Bool} {A B : Prop} (h : c = true) (p : A) : if c = true then A else B := by rw [if_pos h]; exact p
theorem ifF {c : Bool} {A B : Prop} (h : c = false) (p : B) : if c = true then A else B := by rw [if_neg (by rw [h]; exact Bool.false_ne_true)]; exact p
theorem line_lt {n : Nat} (h : n ≤ 1000) : n < sizeLine := small1000 h
theorem line_le {n : Nat} (h : n ≤ 1000) : n ≤ sizeLine := Nat.le_of_lt (small1000 h)
section
variable {K : PySem.W.Frag} {D : Addr} {H0 H H4 : Hp} {F : Nat → List PyData} {i : Nat} {y : V} {d : PyData}
/-- what such a list holds at turn i -/
def LcP (K : PySem.W.Frag) (D : Addr) (H0 : Hp) (F : Nat → List PyData) (i : Nat) (H : Hp) : Prop :=
  ∃ acc, H D = some (.lst acc) ∧ Same H0 (Wo [D] H) ∧ DpAll K (Wo [D] H) acc (F i) ∧ acc.length ≤ i
abbrev LcN (K : PySem.W.Frag) (D : Addr) (H0 : Hp) (F : Nat → List PyData) (i : Nat) (y : V) (H4 : Hp) : Prop :=
  ∃ acc, H4 D = some (.lst acc) ∧ acc.length < sizeLine ∧ LcP K D H0 F (i + 1) (upd H4 D (.lst (acc ++ [y])))
theorem in1 {D : Addr} : D ∈ [D] := List.mem_singleton.mpr rfl
theorem LcP.zero (hD : H0 D = none) (f0 : F 0 = []) : LcP K D H0 F 0 (upd H0 D (.lst [])) := by
  refine ⟨[], upd_same, ?_, by rw [f0]; exact .nil, Nat.le_refl _⟩
  rw [wo_upd in1]
  intro b o e
  rw [wo_out fun z => by rw [List.mem_singleton.mp z, hD] at e; cases e]
  exact e
theorem LcP.same (p : LcP K D H0 F i H) : Same H0 H := by
  obtain ⟨_, _, s, _⟩ := p
  exact fun b o e => (wo_some (s b o e)).1
theorem LcP.ne (p : LcP K D H0 F i H) {b : Addr} {o : HO} (h : H0 b = some o) : b ≠ D := by
  obtain ⟨_, _, s, _⟩ := p
  exact fun e => (wo_some (s b o h)).2 (by rw [e]; exact in1)
/-- the turn is not in it -/
theorem LcP.skip (p : LcP K D H0 F i H) (hH : H4 D = H D) (s : Same (Wo [D] H) (Wo [D] H4)) (e : F (i + 1) = F i) : LcP K D H0 F (i + 1) H4 := by
  obtain ⟨acc, h1, h2, h3, h4⟩ := p
  exact ⟨acc, hH.trans h1, fun b o z => s b o (h2 b o z), by rw [e]; exact dpAll_mono s h3, by omega⟩
theorem LcP.skip0 (p : LcP K D H0 F i H) (e : F (i + 1) = F i) : LcP K D H0 F (i + 1) H := p.skip rfl (fun _ _ z => z) e
theorem LcP.put (p : LcP K D H0 F i H) (hi : i < sizeLine) (hH : H4 D = H D) (s : Same (Wo [D] H) (Wo [D] H4)) (hy : Dp K (Wo [D] H4) y d) (e : F (i + 1) = F i ++ [d]) : LcN K D H0 F i y H4 := by
  obtain ⟨acc, h1, h2, h3, h4⟩ := p
  refine ⟨acc, hH.trans h1, by omega, acc ++ [y], upd_same, ?_, ?_, by rw [List.length_append, List.length_singleton]; omega⟩
  · rw [wo_upd in1]
    exact fun b o z => s b o (h2 b o z)
  · rw [wo_upd in1, e]
    exact (dpAll_mono s h3).snoc hy
theorem LcP.put0 (p : LcP K D H0 F i H) (hi : i < sizeLine) (hy : Dp K (Wo [D] H) y d) (e : F (i + 1) = F i ++ [d]) : LcN K D H0 F i y H := p.put hi rfl (fun _ _ z => z) hy e
/-- something new was laid meanwhile -/
theorem new_keeps {T : Addr} {o : HO} (hT : H T = none) (hD : H D ≠ none) : (upd H T o) D = H D ∧ Same (Wo [D] H) (Wo [D] (upd H T o)) :=
  ⟨upd_ne fun e => hD (by rw [e]; exact hT), wo_new hT⟩
theorem LcP.some (p : LcP K D H0 F i H) : H D ≠ none := by
  obtain ⟨acc, h1, _⟩ := p
  rw [h1]
  exact fun z => nomatch z
variable {J : It} {n : Nat} {G : Hp → Prop} {Y : Nat → Hp → V → Hp → Prop}
/-- a comprehension of data -/
theorem lc_d (w : Walk J n G Y) {g : TG} {tt : TT} {te : TE} {vs : List Nat} {σ : L2.St} {Qd : Hp → Prop} (F : Nat → List PyData) (hD : H0 D = none) (f0 : F 0 = []) (hG : ∀ H, Same H0 H → G H)
    (hs : ∀ i x H H', i < n → LcP K D H0 F i H → Y i H x H' → g x (wipe σ vs) H' fun σ2 H2 => wipe σ2 vs = wipe σ vs ∧ tt σ2 H2 fun b H3 =>
      if b = true then te σ2 H3 fun y H4 => LcN K D H0 F i y H4 else LcP K D H0 F (i + 1) H3) (hd : ∀ acc H, H D = some (.lst acc) → Same H0 (Wo [D] H) → DpAll K (Wo [D] H) acc (F n) → Qd H) :
    ∃ W : Nat → Nat → Hp → Prop, (∃ m, W 0 m (upd H0 D (.lst []))) ∧ ∀ i m H, W i m H →
      (J.stop i H ∧ Qd H) ∨ (J.go i H ∧ ∃ Nx : Hp → Prop, (∀ H', Nx H' → ∃ m', m' < m ∧ W (i + 1) m' H') ∧ ∀ x H', J.yld i H x H' → g x (wipe σ vs) H' fun σ2 H2 => wipe σ2 vs = wipe σ vs ∧ tt σ2 H2 fun b H3 =>
        if b = true then te σ2 H3 fun y H4 => ∃ acc, H4 D = some (.lst acc) ∧ acc.length < sizeLine ∧ Nx (upd H4 D (.lst (acc ++ [y]))) else Nx H3) :=
  lc_it w (LcP K D H0 F) (LcP.zero hD f0) (fun i H _ p => hG H p.same) hs fun H ⟨acc, h1, h2, h3, _⟩ => hd acc H h1 h2 h3
theorem bls_of : ∀ {bs : List Bool} {vs : List V}, DpAll K H vs (bs.map PyData.bool) → vs = bs.map V.bl
  | [], _, h => by cases h; rfl
  | b :: bs, _, h => by
    cases h with
    | cons a t =>
      cases a
      rw [bls_of t]
      rfl
/-- the i first of a list's images -/
theorem take_map {α β : Type} (f : α → β) (l : List α) {i : Nat} {x : α} (h : l[i]? = .some x) : (l.take (i + 1)).map f = (l.take i).map f ++ [f x] := by
  rw [List.take_succ, h, List.map_append]
  rfl
theorem take_nil {α β : Type} (f : α → β) (l : List α) : (l.take 0).map f = [] := by rw [List.take_zero]; rfl
/-- .. of a kept part -/
theorem take_keep {α : Type} (p : α → Bool) (l : List α) {i : Nat} {x : α} (h : l[i]? = .some x) : (l.take (i + 1)).filter p = if p x = true then (l.take i).filter p ++ [x] else (l.take i).filter p := by
  rw [List.take_succ, h, List.filter_append]
  by_cases q : p x = true
  · rw [if_pos q]; simp [q]
  · rw [if_neg q]; simp [q]
theorem get_vN {ns : List Nat} {i : Nat} {x : V} (h : (ns.map vN)[i]? = .some x) : ∃ n, ns[i]? = .some n ∧ x = vN n := by
  rw [List.getElem?_map] at h
  obtain ⟨n, hn, e⟩ := Option.map_eq_some_iff.mp h
  exact ⟨n, hn, e.symm⟩
theorem lt_of_get {α : Type} {l : List α} {i : Nat} {x : α} (h : l[i]? = .some x) : i < l.length := (List.getElem?_eq_some_iff.mp h).1
end
end M22

set_option maxRecDepth 100000
set_option maxHeartbeats 4000000
/-! k22: the layer's rules with the written part told (within comprehensions it can't be found). -/
namespace M22
open PySem PySem.Spec PyProof.Rows L2
section
variable {X : Cx} (K : PySem.W.Frag)
theorem ix_listK (h : X.K = K := by rfl) : IxR X (rIxL K) := h ▸ ix_list
theorem ix_tupK (h : X.K = K := by rfl) : IxR X (rIxT K) := h ▸ ix_tup
def rLenK (K : PySem.W.Frag) : List V → Hp → VK → Prop := fun xs H Q => ∃ p ys, xs = [V.ref p] ∧ (SqL K H p ys ∨ SqT K H p ys) ∧ Q (V.int ys.length) H
theorem call_lenK (h : X.K = K := by rfl) : CallR X (.builtin "len") (rLenK K) := h ▸ call_len_seq
theorem op_inK (h : X.K = K := by rfl) : OpR X (compareOp .In) (rIn K false) := h ▸ op_in_seq
theorem op_notInK (h : X.K = K := by rfl) : OpR X (compareOp .NotIn) (rIn K true) := h ▸ op_notIn_seq
def rTupK (K : PySem.W.Frag) : List V → Hp → VK → Prop := fun xs H Q => ∃ p ys, xs = [V.ref p] ∧ ((SqL K H p ys ∧ ∀ l : Addr, H l = none → Q (V.ref l) (upd H l (HO.tup ys))) ∨ SqT K H p ys ∧ Q (V.ref p) H)
theorem call_tupK (h : X.K = K := by rfl) : CallR X (.type "tuple") (rTupK K) := h ▸ call_tuple_of
def rLstK (K : PySem.W.Frag) : List V → Hp → VK → Prop := fun xs H Q => ∃ p ys, xs = [V.ref p] ∧ (SqL K H p ys ∨ SqT K H p ys) ∧ ∀ l : Addr, H l = none → Q (V.ref l) (upd H l (HO.lst ys))
theorem call_lstK (h : X.K = K := by rfl) : CallR X (.type "list") (rLstK K) := h ▸ call_list_of
theorem pe_fldK {e : Expr} {f : Str} {pos : Pos} {ta : TE} (he : PE X e ta) (hb : attributeBase e f X.env (eval e X.env) = eval e X.env) (h : X.K = K := by rfl) : PE X (e.Attribute f pos) (tFld K ta f) := h ▸ pe_fld he hb
theorem pe_bmK {o e : Expr} {es : List Expr} {to : TE} {t : TA} {name : Str} {apos cpos : Pos} {T id : String} {r : V → List V → Hp → VK → Prop} (h1 : PlainAttrs T) (h2 : Slot T name id) (h3 : typeOf (.builtin id) = pure (.type "method_descriptor")) (hm : MtR X id r) (ho : PE X o to) (ha : PA X (e :: es) t)
    (hbase : attributeBase o name X.env (eval o X.env) = eval o X.env := by rfl)
    (hfew : ((backTo cpos (starEach (e :: es) X.env)).all (fun x => !x.1) && (backToKw cpos (keywordEach [] X.env)).all (fun x => x.1.isSome) && decide ((e :: es).length + ([] : List Keyword).length + (if ([] : List Keyword).isEmpty then 0 else 1) < 30)) = true := by rfl)
    (hline : (apos.endLine == cpos.line) = true := by rfl) (hs : starEach (e :: es) X.env = (false, eval e X.env) :: starEach es X.env := by rfl) (hplain : (backTo cpos (starEach es X.env)).any (·.1) = false := by rfl) (h : X.K = K := by rfl) :
    PE X (.Call (.Attribute o name apos) (e :: es) [] cpos) (tBM K T r to t) := h ▸ pe_bm h1 h2 h3 hm ho ha hbase hfew hline hs hplain
theorem pi_listK {tg l : Expr} {tl : TE} (hl : PE X l tl) (h : X.K = K := by rfl) : PI X tg l (iList K tl) := h ▸ pi_list hl
theorem pi_tupK {tg l : Expr} {tl : TE} (hl : PE X l tl) (h : X.K = K := by rfl) : PI X tg l (iTup K tl) := h ▸ pi_tup hl
theorem pi_enumK {e : Expr} {ta : TA} {p pos tpos : Pos} {elts : List Expr} {kk : Nat} (hg : Gl X "enumerate") (hm : X.mg "enumerate" = none) (ha : PA X [e] ta) (hs : starEach [e] X.env = [(false, eval e X.env)] := by rfl) (h : X.K = K := by rfl) :
    PI X (.Tuple elts kk tpos) (.Call (.Name "enumerate" p) [e] [] pos) (iEnum K ta) := h ▸ pi_enum hg hm ha hs
theorem pi_zipAK {e e2 : Expr} {ta : TA} {p pos tpos : Pos} {elts : List Expr} {kk : Nat} (hg : Gl X "zip") (hm : X.mg "zip" = none) (ha : PA X [e, e2] ta)
    (hs : starEach [e, e2] X.env = (false, eval e X.env) :: starEach [e2] X.env := by rfl) (hpl : (backTo pos (starEach [e2] X.env)).any (·.1) = false := by rfl) (h : X.K = K := by rfl) :
    PI X (.Tuple elts kk tpos) (.Call (.Name "zip" p) [e, e2] [] pos) (RZ.iZipA K ta) := h ▸ RZ.pi_zipA hg hm ha hs hpl
theorem cr_allK (hc : X.calm = true) (h : X.K = K := by rfl) : CallR X (.builtin "all") (rAll K) := h ▸ cr_all hc
theorem sl_listK (h : X.K = K := by rfl) : SlR X (rSlL K) := h ▸ sl_list
theorem op_catTK (h : X.K = K := by rfl) : OpR X (binaryOp .Add) (rCatA K) := h ▸ op_catA
theorem op_eqDK (hu : X.A.units + 64 < cLine) (h : X.K = K := by rfl) : OpR X (compareOp .Eq) (rEqD K) := h ▸ op_eqD hu
theorem op_neDK (hu : X.A.units + 64 < cLine) (h : X.K = K := by rfl) : OpR X (compareOp .NotEq) (rNeD K) := h ▸ op_neD hu
theorem op_inDK (hu : X.A.units + 65 < cLine) (h : X.K = K := by rfl) : OpR X (compareOp .In) (rInD K) := h ▸ op_inD hu
theorem op_notInDK (hu : X.A.units + 65 < cLine) (h : X.K = K := by rfl) : OpR X (compareOp .NotIn) (rNotInD K) := h ▸ op_notInD hu
theorem mt_indexDK (hu : X.A.units + 65 < cLine) (h : X.K = K := by rfl) : MtR X "list.index" (rIndexD K) := h ▸ mt_indexD hu
theorem mt_indexK (h : X.K = K := by rfl) : MtR X "list.index" (rIndex K) := h ▸ mt_index
theorem pg_tupK {pos : Pos} {es : List Expr} {k : Nat} {t : TGs} {n : Nat} (hc : X.calm = true) (hp : PGs X es t) (hn : (assignEach es X.env).length = n := by rfl) (hf : List.findIdx? (fun x => x.fst) (assignEach es X.env) = none := by rfl) (h : X.K = K := by rfl) :
    PG X (.Tuple es k pos) (gTup K n t) := h ▸ pg_tup hc hp hn hf
theorem cr_sortedIK (h : X.K = K := by rfl) : CallR X (.builtin "sorted") (rSortedI K) := h ▸ cr_sortedI
theorem pe_revK {e : Expr} {te : TE} {k : Nat} {p1 p2 p3 pos : Pos} (he : PE X e te) (h : X.K = K := by rfl) : PE X (e.Subscript (.Slice none none (some (.UnaryOp .USub (.Constant (.int 1) k p1) p2)) p3) pos) (tRevL K te) := h ▸ pe_revL he
theorem cr_sumK (hc : X.calm = true) (h : X.K = K := by rfl) : CallR X (.builtin "sum") (rSum K) := h ▸ cr_sum hc
theorem call_isiK (h : X.K = K := by rfl) : CallR X (.builtin "isinstance") (rIsi K) := h ▸ call_isi
theorem call_isiTK (h : X.K = K := by rfl) : CallR X (.builtin "isinstance") (rIsiT K) := h ▸ call_isiT
theorem ps_fldK {o value : Expr} {f : Str} {pos pos' : Pos} {ta tv : TE} (ho : PE X o ta) (hv : PE X value tv) (hs : swapsWith value (some (o.Attribute f pos')) pos.line X.env = pure false) (h : X.K = K := by rfl) : PS X (.Assign [o.Attribute f pos'] value pos) (sFld K ta tv f) := h ▸ ps_fld ho hv hs
end
section
/-- o.f as a target -/
def gFld (K : PySem.W.Frag) (to : TE) (f : Str) : TG := fun v σ H Q => to σ H fun x H1 => ∃ a C dx fs, x = .ref a ∧ H1 a = some (.ins C dx fs) ∧ Cls K C ∧ NoAttr K C f ∧ fs.length < 1000 ∧ Q σ (upd H1 a (.ins C dx (putF f v fs)))
theorem pg_attr {X : Cx} (K : PySem.W.Frag) {o : Expr} {f : Str} {pos : Pos} {to : TE} (ho : PE X o to) (h : X.K = K := by rfl) : PG X (.Attribute o f pos) (gFld K to f) := by
  subst h
  refine ⟨fun pins s σ H v u Q I r q => ?_⟩
  rw [assign_Attribute]
  refine wpAny_bind (wpAny_holding (thn (ho.run pins s σ H _ I q) fun ov s1 ⟨x, H1, I1, rx, a, C, dx, fs, ex, ea, c, n, l, q2⟩ => ?_))
  subst ex
  obtain rfl : ov = Value.ref a := rx
  refine wpAny_bind (wpAny_standAt (wpAny_bind (wpAny_holding (setattr_ok I1 ea c n l r fun s3 I3 => ?_))))
  exact wpAny_release ⟨σ, _, I3, q2⟩
end
end M22

set_option maxRecDepth 100000
set_option maxHeartbeats 4000000
/-! k22: own rules: set(list), whatever its loop does. -/
namespace M22
open PySem PySem.Spec PyProof.Rows L2
/-- an empty set, as it is made -/
abbrev set0 (w : World) : Obj := { cls := .type "set", dict := none, data := .set #[] 0 (.fresh 0 0 (!w.params.followText "set-order")) }
abbrev itr0 (l : Addr) : Obj := { cls := .type "list_iterator", data := .fields #[.ref l, .int 0 0] }
section
variable {P : Program} {w : World} {A : Around} {E : Value → Shared → Prop} {s : Shared}
set_option maxHeartbeats 6400000 in
theorem set_of_list {l : Addr} {its : Array Value} {Post : Shared → Prop} {Q : Value → Shared → Prop} (hl : s.heap.IsList l its)
    (hU : ∀ A1 : Around, A1.handled = A.handled → A1.units ≤ A.units + 8 → codeAny (model P w) A1 (.builtin "set.update.loop" ⟨[.ref s.heap.objs.size, .ref (s.heap.objs.size + 1)], []⟩) (wants (fun r s2 => r = .none ∧ Post s2) E) { s with heap := (s.heap.push (set0 w)).push (itr0 l) })
    (hQ : ∀ s2, Post s2 → Q (.ref s.heap.objs.size) s2) : wpAny (model P w) A (call (.type "set") [.ref l]) Q E s := by
  obtain ⟨z1, z2, hmro⟩ := F.called_set.mro
  have m1 := F.called_set.made; have m2 := F.called_set.sub
  refine wpAny_call (codeAny_of_tree ?_)
  show wpAny _ _ (callAny (.type "set") _) _ _ _
  refine wpAny_pure ⟨Code.quiet_builtin _ (by decide +kernel), codeAny_builtin F.entry_type_call ?_⟩
  rw [Around.under_plain (weight_type_call_type "set" [.ref l] []) rfl]
  have m3 := F.called_set.notType; have m4 := F.called_set.canCreate
  have m5 := F.typeCall_set_1 (.ref l)
  repeat (any_goals (first | assumption | wp_step))
  refine codeAny_mono (code_set_led1 (.ref l) (E := E) (Q₁ := fun o s1 => o = .ref s.heap.objs.size ∧ s1 = { s with heap := s.heap.push (set0 w) }) ⟨rfl, rfl⟩) fun r s1 hr => ?_
  cases r with
  | error e => exact hr
  | ok fl =>
    cases fl with
    | ret o =>
      obtain ⟨rfl, rfl⟩ := hr
      have hS : (s.heap.push (set0 w)).get? s.heap.objs.size = some (set0 w) := Heap.get?_push_size _ rfl
      have hT : Shared.TypeIs { s with heap := s.heap.push (set0 w) } (.ref s.heap.objs.size) "set" := ⟨_, hS, rfl⟩
      have i1 := F.called_set.init.lookup; have i2 := F.called_set.init.bind (.ref s.heap.objs.size)
      repeat (any_goals (first | assumption | wp_step))
      refine codeAny_mono (codeAny_call_builtin (R := wants (fun r s2 => r = .none ∧ Post s2) E) F.called_set.init.plain F.entry_set_init (check_set_init_1 hT ?_)) fun r2 s2 hr2 => ?_
      · obtain ⟨⟨oc, od, dt, sl⟩, hol, hcl, nl, hdl⟩ := hl
        simp only at hcl hdl
        subst hcl hdl
        have ho2 : (s.heap.push (set0 w)).get? l = some { cls := .type "list", dict := od, data := .seq its nl, slots := sl } := Heap.get?_push_of_some _ hol
        have s1 := F.sub_list_set; have s2 := F.sub_list_frozenset
        have ne : (Value.type "list" == Value.type "dict") = false := by decide
        have hl1 : (s.heap.push (set0 w)).IsList l its := ⟨_, ho2, rfl, nl, rfl⟩
        unfold Builtin.«set.__init__» noKeywords Builtin.Frozenset.updateFrom
        generalize hPI : pyIter = PI
        wp_walk
        subst hPI
        refine wpAny_pyIter_list hl1 ?_
        refine wpAny_bind (wpAny_runValue ?_)
        have hz : (s.heap.push (set0 w)).objs.size = s.heap.objs.size + 1 := Heap.size_push ..
        rw [hz]
        refine codeAny_mono (hU _ (by simp) ?un) fun r s3 h3 => ?_
        case un =>
          show A.units + 1 + 1 ≤ _
          omega
        cases r with
        | error e => exact h3
        | ok f3 =>
          cases f3 with
          | ret v =>
            obtain ⟨rfl, hp⟩ := h3
            exact wpAny_pure (wpAny_pure ⟨rfl, hp⟩)
          | _ => exact h3.elim
      · cases r2 with
        | error e => exact hr2
        | ok f2 =>
          cases f2 with
          | ret r =>
            obtain ⟨rfl, hp⟩ := hr2
            repeat (any_goals (first | assumption | wp_step))
            exact hQ _ hp
          | _ => exact hr2.elim
    | _ => exact hr.elim
/-- set(a list of ints) -/
theorem set_ints {l : Addr} {its : Array Value} {ns : List Int} {Q : Value → Shared → Prop} (hh : A.handled = none) (hl : s.heap.IsList l its) (hi : IntsAre its.toList ns) (hb : ns.length + 1 < scanBound)
    (hQ : ∀ (h' : Heap) (tk c : Nat), SetR w h' s.heap.objs.size (fun j => decide (j ∈ ns)) c → (∀ b o, s.heap.get? b = some o → h'.get? b = some o) → Q (.ref s.heap.objs.size) { s with heap := h', toks := tk }) :
    wpAny (model P w) A (call (.type "set") [.ref l]) Q E s := by
  have hsz : its.size = ns.length := by
    have q := IntsAre.length hi
    rwa [Array.length_toList] at q
  refine set_of_list (Post := fun s2 => ∃ (h' : Heap) (tk c : Nat), s2 = { s with heap := h', toks := tk } ∧ SetR w h' s.heap.objs.size (fun j => decide (j ∈ ns)) c ∧ ∀ b o, s.heap.get? b = some o → h'.get? b = some o) hl (fun A1 e1 _ => ?_) fun s2 hp => ?_
  · obtain ⟨o, ho, hc⟩ := id hl
    have hlt : l < s.heap.objs.size := Heap.lt_size ho
    have hz : (s.heap.push (set0 w)).objs.size = s.heap.objs.size + 1 := Heap.size_push ..
    have h1 : (s.heap.push (set0 w)).IsList l its := hl.push _
    have hne : l ≠ (s.heap.push (set0 w)).objs.size := by rw [hz]; exact Nat.ne_of_lt (Nat.lt_succ_of_lt hlt)
    have hSn : s.heap.objs.size ∉ [(s.heap.push (set0 w)).objs.size, l] := by
      rw [hz]
      intro z
      rcases List.mem_cons.mp z with z | z
      · exact absurd z (Nat.ne_of_lt (Nat.lt_succ_self _))
      · exact absurd (List.mem_singleton.mp z) (Nat.ne_of_gt hlt)
    have hv : ∀ (i : Nat) (v : Value), its[i]? = some v → ∃ k t, ns[i]? = some k ∧ v = .int k t := fun i v hv => by
      have hi2 : i < ns.length := by rw [← hsz]; exact (Array.getElem?_eq_some_iff.mp hv).1
      obtain ⟨t, e⟩ := IntsAre.int_at hi i v (by rw [Array.getElem?_toList]; exact hv)
      refine ⟨ns[i], t, List.getElem?_eq_getElem hi2, ?_⟩
      rw [e, List.getD_eq_getElem?_getD, List.getElem?_eq_getElem hi2]
      rfl
    have hh3 : A1.in1.handled = none := by simp [e1, hh]
    rw [← hz]
    refine set_update_ints ((Walks.list hh3 _ l hne its).toS) s.heap.objs.size hSn ns hsz hb hv (its.size - 0) 0 _ (by omega) (Nat.zero_le _) ⟨⟨_, Heap.get?_push_size _ rfl, rfl, rfl⟩, h1.push _⟩ ?h0 ?hR
    case h0 => exact ⟨0, Nat.le_refl 0, setR_new_at (Heap.get?_push_of_some _ (Heap.get?_push_size _ rfl))⟩
    case hR =>
      intro s' c hm hc' hS'
      obtain ⟨h', g', d', tk, os'⟩ := s'
      have eg : g' = s.gens := hm.gens; have ed : d' = s.drawn := hm.drawn; have eo : os' = s.os := hm.os
      subst eg ed eo
      refine ⟨rfl, h', tk, c, rfl, hS', fun b o e => ?_⟩
      have hb0 : b < s.heap.objs.size := Heap.lt_size e
      refine hm.heap b o (fun z => ?_) (Heap.get?_push_of_some _ (Heap.get?_push_of_some _ e))
      rw [hz] at z
      rcases List.mem_cons.mp z with z | z
      · exact absurd z (Nat.ne_of_lt hb0)
      · exact absurd (List.mem_singleton.mp z) (Nat.ne_of_lt (Nat.lt_succ_of_lt hb0))
  · obtain ⟨h', tk, c, rfl, a, b⟩ := hp
    exact hQ h' tk c a b
theorem setR_size {h : Heap} {a : Addr} {ns : List Int} {c : Nat} (R : SetR w h a (fun j => decide (j ∈ ns)) c) : ∃ ks : List Int, ks.Nodup ∧ ks.length = c ∧ ∀ k, k ∈ ks ↔ k ∈ ns := by
  obtain ⟨o, es, ep, t, ho, hex, hd, g, nd, hm, hb, hf, hn, hr, hl⟩ := R
  refine ⟨es.toList.map keyOf, nd, by rw [List.length_map, Array.length_toList]; exact hn, fun k => ?_⟩
  rw [← hm k]
  exact decide_eq_true_iff
end
theorem same_members : ∀ {a b : List Int}, a.Nodup → b.Nodup → (∀ k, k ∈ a ↔ k ∈ b) → a.length = b.length
  | [], b, _, _, h => by
    cases b with
    | nil => rfl
    | cons y r => exact absurd ((h y).mpr List.mem_cons_self) List.not_mem_nil
  | x :: r, b, ha, hb, h => by
    obtain ⟨n1, n2⟩ := List.nodup_cons.mp ha
    have hx := (h x).mp List.mem_cons_self
    have := same_members (a := r) (b := b.erase x) n2 (hb.erase x) fun k => by
      rw [hb.mem_erase_iff, ← h k, List.mem_cons]
      constructor
      · exact fun q => ⟨fun e => n1 (e ▸ q), .inr q⟩
      · rintro ⟨q1, q2 | q2⟩
        · exact absurd q2 q1
        · exact q2
    rw [List.length_cons, this, List.length_erase_of_mem hx]
    have := List.length_pos_of_mem hx
    omega
section
variable {X : Cx}
/-- set(xs), xs a list or a tuple of ints -/
def rSetI (K : PySem.W.Frag) (w : World) : List V → Hp → VK → Prop := fun xs H Q => ∃ (p : Addr) (ns : List Int), xs = [V.ref p] ∧ (SqL K H p (ns.map V.int) ∨ SqT K H p (ns.map V.int)) ∧ ns.length ≤ 1000 ∧
  ∀ (a : Addr) (c : Nat) (S : Int → Bool), H a = none → (∀ k, S k = decide (k ∈ ns)) → (∀ ks : List Int, ks.Nodup → (∀ k, k ∈ ks ↔ k ∈ ns) → ks.length = c) → Q (.ref a) (upd H a (SetO w a S c))
theorem cr_setI (hc : X.calm = true) : CallR X (.type "set") (rSetI X.K X.w) := by
  intro pins s σ H xs us Q I r h
  obtain ⟨p, ns, rfl, hq, hl, q⟩ := h
  rw [Vals.ref1 r]
  have fin : ∀ (h' : Heap) (tk c : Nat), SetR X.w h' s.heap.objs.size (fun j => decide (j ∈ ns)) c → (∀ b o, s.heap.get? b = some o → h'.get? b = some o) → EP X pins σ Q (.ref s.heap.objs.size) { s with heap := h', toks := tk } := fun h' tk c R k => by
    obtain ⟨ks, n1, n2, n3⟩ := setR_size R
    refine ⟨.ref s.heap.objs.size, _, I.laid (h' := h') (t' := tk) k (Nat.le_refl _) (setO_new R), rfl, q _ c _ (I.hok.fresh (Nat.le_refl _)) (fun _ => rfl) fun ks' m1 m2 => ?_⟩
    rw [← n2]
    exact same_members m1 n1 fun k => (m2 k).trans (n3 k).symm
  have hb : ns.length + 1 < scanBound := by unfold scanBound; omega
  rcases hq with hq | hq
  · obtain ⟨its, rv, pl, hz⟩ := I.list hq
    exact set_ints (I.ok.hd hc) pl.isList (by simpa using ints_of_vals rv) hb fin
  · obtain ⟨its, rv, pl, hz⟩ := I.tuple hq
    exact call_set_tupI ns (I.ok.hd hc) pl (by simpa using ints_of_vals rv) hb fun h' tk c R _ k => fin h' tk c R k
/-- len(set) -/
def rLenS (w : World) : List V → Hp → VK → Prop := fun xs H Q => ∃ (a : Addr) (S : Int → Bool) (n : Nat), xs = [V.ref a] ∧ H a = some (SetO w a S n) ∧ n ≤ 1000 ∧ Q (.int (n : Nat)) H
theorem call_lenS : CallR X (.builtin "len") (rLenS X.w) := by
  intro pins s σ H xs us Q I r h
  obtain ⟨a, S, n, rfl, ha, hn, q⟩ := h
  rw [Vals.ref1 r]
  obtain ⟨o, es, ep, t, ho, hex, hd, g, nd, hm, hb, hf, hsz, hr, hl⟩ := setO_get I ha
  exact call_len_set ho hex hd hf (by omega) ⟨.int n, H, I.tok _, ⟨_, by rw [hsz]⟩, q⟩
end
end M22

set_option maxRecDepth 100000
set_option maxHeartbeats 4000000
/-! k22: own rules: sorted(a list or a tuple of ints). -/
namespace M22
open PySem PySem.Spec PyProof.Rows L2
section
variable {P : Program} {w : World} {A : Around} {E : Value → Shared → Prop} {s : Shared}
abbrev gath (h : Heap) (its : Array Value) : Heap := (h.push { cls := .type "list", data := .seq ([] : List Value).toArray }).update h.objs.size (Obj.mapSeq (· ++ its))
/-- a list or tuple gathered: the heap behind told -/
theorem gather {it : Addr} {T : String} {o : Obj} {its : Array Value} {n : Nat} {Q : List Value → Shared → Prop} (hT : T = "list" ∨ T = "tuple") (ho : s.heap.get? it = some o) (hc : o.cls = .type T) (hd : o.data = .seq its n) (hz : its.size ≤ sizeLine)
    (hQ : Q its.toList { s with heap := gath s.heap its }) : wpAny (model P w) A (collect (.ref it)) Q E s := by
  unfold collect; refine wpAny_bind (wpAny_runValue (codeAny_builtin F.entry_proto_collect ?_))
  rw [Around.under_plainId F.plain_proto_collect _]; show wpAny _ A.in1 (newList [] >>= fun x => again (.builtin "list.__iadd__" ⟨[x, .ref it], []⟩)) _ _ s
  refine wpAny_bind (wpAny_newList ?_ (by decide))
  refine wpAny_pure ⟨plainId_quiet F.plain_list_iadd _, codeAny_builtin F.entry_list_iadd ?_⟩; rw [Around.under_plainId F.plain_list_iadd _]
  show wpAny _ A.in1 (Builtin.List.listExtendWith (.ref s.heap.objs.size) (.ref it) (.ref s.heap.objs.size)) _ _ { s with heap := s.heap.push { cls := .type "list", data := .seq ([] : List Value).toArray } }
  have g1 : (s.heap.push { cls := .type "list", data := .seq ([] : List Value).toArray }).get? s.heap.objs.size = some { cls := .type "list", data := .seq #[] 0 } := Heap.get?_push_size _ rfl
  have g2 := Heap.get?_update_self (Obj.mapSeq (· ++ its)) g1 rfl
  have last : wpAny (model P w) A (match Value.ref s.heap.objs.size with | .ref a => do (match (← load a).data with | Data.seq xs _ => pure xs.toList | _ => unsupported "internal:collect") | _ => unsupported "internal:collect") Q E { s with heap := gath s.heap its } := by
    show wpAny _ A (load s.heap.objs.size >>= _) _ _ _
    refine wpAny_bind (wpAny_load g2 (wpAny_pure ?_))
    show Q ((#[] : Array Value) ++ its).toList _
    rw [show ((#[] : Array Value) ++ its).toList = its.toList by simp]
    exact hQ
  refine wpAny_mono (wpAny_extend_seq (hsz := hz) (A := A) (R := fun r s' => r = .ok (.ret (.ref s.heap.objs.size)) ∧ s' = { s with heap := gath s.heap its }) (s := { s with heap := s.heap.push { cls := .type "list", data := .seq ([] : List Value).toArray } }) _ it _ 0 hT g1 (Heap.get?_push_of_some _ ho) hc hd ⟨rfl, rfl⟩) (fun fin s' h => ?_) fun e s' h => absurd h.1 (by simp)
  cases fin with
  | done f => (obtain ⟨e, rfl⟩ := h; cases e; exact last)
  | again c => exact ⟨h.1, codeAny_mono h.2 fun r s2 hr => by (obtain ⟨rfl, rfl⟩ := hr; exact last)⟩
theorem sorted_any {l : Addr} {vs : List Value} {ns : List Int} {T : String} {o : Obj} {n : Nat} {Q : Value → Shared → Prop} (hT : T = "list" ∨ T = "tuple") (ho : s.heap.get? l = some o) (hc : o.cls = .type T) (hd : o.data = .seq vs.toArray n) (hi : IntsAre vs ns) (hz : vs.length ≤ sizeLine)
    (hQ : ∀ (h' : Heap) (p : Addr) (out : List Value) (ep : Nat), (∀ b u, s.heap.get? b = some u → h'.get? b = some u) → s.heap.objs.size ≤ p → h'.get? p = some (seqObj "list" out.toArray ep) → IntsAre out (out.map SrtO.iv) → (out.map SrtO.iv).Perm ns → (out.map SrtO.iv).Pairwise (· ≤ ·) → Q (.ref p) { s with heap := h' }) :
    wpAny (model P w) A (call (.builtin "sorted") [.ref l]) Q E s := by
  refine Calls.call_function_entry kind_sorted plain_sorted entry_sorted (args_sorted1 _) ?_; unfold Builtin.«sorted»
  refine wpAny_bind (m := checkCount "sorted" 1 1 _) (wpAny_pure (wpAny_bind (gather hT ho hc hd (by rw [List.size_toArray]; exact hz) ?_)))
  have hn : (gath s.heap vs.toArray).objs.size = s.heap.objs.size + 1 := (Heap.size_update ..).trans (Heap.size_push ..)
  have k1 : ∀ b u, s.heap.get? b = some u → (gath s.heap vs.toArray).get? b = some u := fun b u hb => (Heap.get?_update_other _ _ (Nat.ne_of_gt (Heap.lt_size hb))).trans (Heap.get?_push_of_some _ hb)
  generalize hg : gath s.heap vs.toArray = h1 at hn k1
  have e : vs.toArray.toList = vs := rfl
  rw [e]
  refine wpAny_bind (wpAny_newList ?_ hz)
  have hL : (h1.push (seqObj "list" vs.toArray 0)).get? h1.objs.size = some (seqObj "list" vs.toArray 0) := Heap.get?_push_size _ rfl
  have hlt : s.heap.objs.size ≤ h1.objs.size := by rw [hn]; exact Nat.le_succ _
  show wpAny _ _ _ _ _ { s with heap := h1.push (seqObj "list" vs.toArray 0) }
  refine wpAny_bind (wpAny_holding (wpAny_call_entry slot_list_sort ⟨_, hL, rfl⟩ entry_list_sort (SrtO.list_sort_ord SrtO.swo_int hL hz (fun h2 => SrtO.ints_sortable hi h2) fun out a1 a2 => ⟨_, rfl, ?_⟩) (args_list_sort _)))
  refine wpAny_pure ⟨_, rfl, ?_⟩
  obtain ⟨k1', k2, k3⟩ := SrtO.ints_out hi a1 a2
  obtain ⟨ep, he⟩ := sortedHeap_at (vs := vs) (out := out.toArray) hL
  refine hQ _ _ out ep (fun b u hb => ?_) hlt he k1' k2 k3
  have hb1 := k1 b u hb
  rw [sortedHeap_old (Nat.ne_of_lt (Heap.lt_size hb1)) (Heap.lt_size (Heap.get?_push_of_some _ hb1))]
  exact Heap.get?_push_of_some _ hb1
end
section
variable {X : Cx}
def rSortA (K : PySem.W.Frag) : List V → Hp → VK → Prop := fun vs H Q => ∃ (a : Addr) (ns : List Int), vs = [V.ref a] ∧ (SqL K H a (ns.map V.int) ∨ SqT K H a (ns.map V.int)) ∧
  ∀ (ns' : List Int) (p : Addr), ns'.Perm ns → ns'.Pairwise (· ≤ ·) → H p = none → Q (.ref p) (upd H p (.lst (ns'.map V.int)))
theorem cr_sortA : CallR X (.builtin "sorted") (rSortA X.K) := by
  intro pins s σ H vs us Q I r h
  obtain ⟨a, ns, rfl, hq, q⟩ := h
  rw [Vals.ref1 r]
  have fin : ∀ (its : List Value), Vals (ns.map V.int) its → (ns.map V.int).length ≤ sizeLine → ∀ (h' : Heap) (p : Addr) (out : List Value) (ep : Nat), (∀ b u, s.heap.get? b = some u → h'.get? b = some u) → s.heap.objs.size ≤ p → h'.get? p = some (seqObj "list" out.toArray ep) → IntsAre out (out.map SrtO.iv) → (out.map SrtO.iv).Perm ns → (out.map SrtO.iv).Pairwise (· ≤ ·) → EP X pins σ Q (.ref p) { s with heap := h' } :=
    fun its rv hz h' p out ep k hp he i1 i2 i3 => ⟨.ref p, upd H p (.lst ((out.map SrtO.iv).map V.int)), I.laid (h' := h') (t' := s.toks) k hp ⟨by rw [List.length_map, i2.length_eq]; rw [List.length_map] at hz; exact hz, out, ep, vals_of_ints i1, he⟩, rfl, q _ _ i2 i3 (I.hok.fresh hp)⟩
  rcases hq with hq | hq
  · obtain ⟨its, rv, pl, hz⟩ := I.list hq
    obtain ⟨o, ho, hc, n, hd⟩ := pl.isList
    exact sorted_any (.inl rfl) ho hc hd rv.ints (by rw [← rv.length]; exact hz) (fin its rv hz)
  · obtain ⟨its, rv, pl, hz⟩ := I.tuple hq
    obtain ⟨o, ho, hc, n, hd⟩ := id pl
    exact sorted_any (.inr rfl) ho hc hd rv.ints (by rw [← rv.length]; exact hz) (fin its rv hz)
end
end M22

set_option maxRecDepth 100000
set_option maxHeartbeats 4000000
/-! k22: short readings of data. -/
namespace M22
open PySem PySem.Spec PyProof.Rows L2
theorem _root_.L2.Same.put {H H' : Hp} {p : Addr} {o : HO} (s : Same H H') (hp : H p = none) : Same H (upd H' p o) := fun b u e => by
  rw [upd_ne fun z => by rw [z, hp] at e; cases e]
  exact s b u e
section
variable {K : PySem.W.Frag} {H H' : Hp} {v : V} {S : List (List Nat)} {s : Nat} {r ns : List Nat} {n : Nat}
theorem flat_nums (ns : List Nat) : (ns.map vN).all flatV = true := by
  rw [List.all_eq_true]
  intro x hx
  obtain ⟨n, _, rfl⟩ := List.mem_map.mp hx
  rfl
theorem inV_num (x : Nat) (ns : List Nat) : inV (vN x) (ns.map vN) = decide (x ∈ ns) := by
  induction ns with
  | nil => rfl
  | cons y ys ih =>
    show (eqV (vN y) (vN x) || inV (vN x) (ys.map vN)) = _
    rw [ih]
    have e : eqV (vN y) (vN x) = decide (y = x) := by
      show decide ((y : Int) = (x : Int)) = _
      exact decide_eq_decide.mpr (by omega)
    rw [e]
    by_cases q : y = x
    · simp [q]
    · have : ¬ x = y := fun z => q z.symm
      simp [q, this]
theorem at_num {ns : List Nat} {i n : Nat} (h : ns[i]? = some n) : atI (ns.map vN) (i : Int) = some (vN n) := atI_nat (by rw [List.getElem?_map, h]; rfl)
/-- a row of a list of lists -/
theorem row_l (h : Dp K H v (dLL S)) (e : S[s]? = some r) : ∃ a xs b, v = .ref a ∧ SqL K H a xs ∧ atI xs (s : Int) = some (.ref b) ∧ SqL K H b (r.map vN) := by
  obtain ⟨a, xs, ev, hs, hd⟩ := list_of h
  obtain ⟨u, hu, du⟩ := hd.get (i := s) (d := dL r) (by rw [List.getElem?_map, e]; rfl)
  obtain ⟨b, rfl, hb⟩ := l_of du
  exact ⟨a, xs, b, ev, hs, atI_nat hu, hb⟩
/-- a row of a tuple of tuples -/
theorem row_t (h : Dp K H v (dTT S)) (e : S[s]? = some r) : ∃ a xs b, v = .ref a ∧ SqT K H a xs ∧ atI xs (s : Int) = some (.ref b) ∧ SqT K H b (r.map vN) := by
  obtain ⟨a, xs, ev, hs, hd⟩ := tup_of h
  obtain ⟨u, hu, du⟩ := hd.get (i := s) (d := dT r) (by rw [List.getElem?_map, e]; rfl)
  obtain ⟨b, rfl, hb⟩ := t_of du
  exact ⟨a, xs, b, ev, hs, atI_nat hu, hb⟩
theorem len_l (h : Dp K H v (.list (ns.map dN))) : True := True.intro
theorem dp_len_l {α : Type} {f : α → PyData} {l : List α} (h : Dp K H v (.list (l.map f))) : ∃ a xs, v = .ref a ∧ SqL K H a xs ∧ xs.length = l.length ∧ DpAll K H xs (l.map f) := by
  obtain ⟨a, xs, ev, hs, hd⟩ := list_of h
  exact ⟨a, xs, ev, hs, by rw [hd.length, List.length_map], hd⟩
theorem dp_len_t {α : Type} {f : α → PyData} {l : List α} (h : Dp K H v (.tuple (l.map f))) : ∃ a xs, v = .ref a ∧ SqT K H a xs ∧ xs.length = l.length ∧ DpAll K H xs (l.map f) := by
  obtain ⟨a, xs, ev, hs, hd⟩ := tup_of h
  exact ⟨a, xs, ev, hs, by rw [hd.length, List.length_map], hd⟩
theorem int_map (ns : List Nat) : (ns.map vN) = (ns.map fun n : Nat => (n : Int)).map V.int := by rw [List.map_map]; rfl
theorem cast_nodup {ns : List Nat} (h : ns.Nodup) : (ns.map fun n : Nat => (n : Int)).Nodup := by
  induction ns with
  | nil => exact List.nodup_nil
  | cons n ns ih =>
    obtain ⟨a, b⟩ := List.nodup_cons.mp h
    refine List.nodup_cons.mpr ⟨fun z => ?_, ih b⟩
    obtain ⟨m, hm, e⟩ := List.mem_map.mp z
    have e : (m : Int) = (n : Int) := e
    exact a (by rw [← show m = n by omega]; exact hm)
/-- a list of ints, none below 0, as numbers -/
theorem nat_list : ∀ {ks : List Int}, (∀ k ∈ ks, ∃ n : Nat, k = n) → ∃ ns : List Nat, ks = ns.map fun n : Nat => (n : Int)
  | [], _ => ⟨[], rfl⟩
  | k :: ks, h => by
    obtain ⟨n, rfl⟩ := h k List.mem_cons_self
    obtain ⟨ns, rfl⟩ := nat_list fun j hj => h j (List.mem_cons_of_mem _ hj)
    exact ⟨n :: ns, rfl⟩
end
end M22

set_option maxRecDepth 100000
set_option maxHeartbeats 4000000
/-! k22: dicts of numbers; keys in their order. -/
namespace M22
open PySem PySem.Spec PyProof.Rows L2
/-! ### a dict of numbers, told by a function -/
abbrev gk (l : List Nat) (f : Nat → V) : List (Key × V) := l.map fun (s : Nat) => ((Sum.inl (s : Int) : Key), f s)
theorem gk_in {l : List Nat} {f : Nat → V} {s : Nat} (h : s ∈ l) : valV (gk l f) (Sum.inl (s : Int) : Key) = some (f s) := by
  induction l with
  | nil => exact absurd h List.not_mem_nil
  | cons x l ih =>
    by_cases e : x = s
    · subst e; exact valV_pos rfl
    · rw [show valV (gk (x :: l) f) (Sum.inl (s : Int) : Key) = valV (gk l f) (Sum.inl (s : Int) : Key) from valV_neg (p := ((Sum.inl (x : Int) : Key), f x)) fun z => e (by injection z with z; omega)]
      exact ih ((List.mem_cons.mp h).resolve_left fun z => e z.symm)
theorem gk_out {l : List Nat} {f : Nat → V} {s : Nat} (h : ¬ s ∈ l) : valV (gk l f) (Sum.inl (s : Int) : Key) = none := by
  induction l with
  | nil => rfl
  | cons x l ih =>
    rw [show valV (gk (x :: l) f) (Sum.inl (s : Int) : Key) = valV (gk l f) (Sum.inl (s : Int) : Key) from valV_neg (p := ((Sum.inl (x : Int) : Key), f x)) fun z => h (by injection z with z; rw [show s = x by omega]; exact List.mem_cons_self)]
    exact ih fun z => h (List.mem_cons_of_mem _ z)
theorem gk_is (l : List Nat) (f : Nat → V) (s : Nat) : (valV (gk l f) (Sum.inl (s : Int) : Key)).isSome = decide (s ∈ l) := by
  by_cases h : s ∈ l
  · rw [gk_in h, decide_eq_true h]; rfl
  · rw [gk_out h, decide_eq_false h]; rfl
theorem gk_put {l : List Nat} {f : Nat → V} {s : Nat} (h : ¬ s ∈ l) (v : V) (e : v = f s) : putK (gk l f) (Sum.inl (s : Int) : Key) v = gk (l ++ [s]) f := by
  rw [putK_new _ (gk_out h), e, gk, gk, List.map_append]
  rfl
theorem gk_again {l : List Nat} {f : Nat → V} {s : Nat} (h : s ∈ l) (v : V) (e : v = f s) : putK (gk l f) (Sum.inl (s : Int) : Key) v = gk l f := by
  unfold putK
  rw [if_pos (by rw [valV_any, gk_in h]; rfl), List.map_map]
  refine List.map_congr_left fun x hx => ?_
  show (if (Sum.inl (x : Int) : Key) = Sum.inl (s : Int) then ((Sum.inl (x : Int) : Key), v) else ((Sum.inl (x : Int) : Key), f x)) = _
  by_cases q : x = s
  · subst q; rw [if_pos rfl, e]
  · rw [if_neg fun z => q (by injection z with z; omega)]
theorem take_snoc {α : Type} {l : List α} {i : Nat} {s : α} (h : l[i]? = some s) : l.take (i + 1) = l.take i ++ [s] := by rw [List.take_succ, h]; rfl
theorem not_before {l : List Nat} {i s : Nat} (nd : l.Nodup) (h : l[i]? = some s) : ¬ s ∈ l.take i := by
  intro z
  obtain ⟨j, hj⟩ := List.getElem?_of_mem z
  have hlt := (List.getElem?_eq_some_iff.mp hj).1
  rw [List.length_take] at hlt
  rw [List.getElem?_take_of_lt (by omega)] at hj
  have e1 := idxOf_get nd hj
  have e2 := idxOf_get nd h
  omega
theorem gk_put_at {l : List Nat} {f : Nat → V} {i s : Nat} (nd : l.Nodup) (h : l[i]? = some s) (v : V) (e : v = f s) : putK (gk (l.take i) f) (Sum.inl (s : Int) : Key) v = gk (l.take (i + 1)) f := by
  rw [gk_put (not_before nd h) v e, take_snoc h]
theorem gk_len (l : List Nat) (f : Nat → V) : (gk l f).length = l.length := List.length_map _
theorem gk_congr {l : List Nat} {f f' : Nat → V} (h : ∀ s ∈ l, f s = f' s) : gk l f = gk l f' := List.map_congr_left fun s hs => by rw [h s hs]
/-- a list without repeats, of the same members -/
theorem dedup (l : List Int) : ∃ ks : List Int, ks.Nodup ∧ (∀ k, k ∈ ks ↔ k ∈ l) ∧ ks.length ≤ l.length := by
  induction l with
  | nil => exact ⟨[], List.nodup_nil, fun _ => Iff.rfl, Nat.le_refl _⟩
  | cons x l ih =>
    obtain ⟨ks, n, m, z⟩ := ih
    by_cases h : x ∈ ks
    · refine ⟨ks, n, fun k => ?_, by rw [List.length_cons]; omega⟩
      rw [m, List.mem_cons]
      exact ⟨.inr, fun q => q.elim (fun e => by rw [e]; exact (m x).mp h) id⟩
    · exact ⟨x :: ks, List.nodup_cons.mpr ⟨h, n⟩, fun k => by rw [List.mem_cons, List.mem_cons, m], by rw [List.length_cons, List.length_cons]; omega⟩
/-! ### keys in the order in which they are met -/
section
variable {S : Steps} {g : Nat → Nat} {l : List Nat} {i s : Nat} {L : Nat} {E : List Nat}
def keysOf (S : Steps) (g : Nat → Nat) (l : List Nat) : List (List Nat) := addAll [] (l.map (key S g))
def gN (S : Steps) (g : Nat → Nat) (l : List Nat) (s : Nat) : Nat := (keysOf S g l).idxOf (key S g s)
theorem keysOf_nodup : (keysOf S g l).Nodup := addAll_nodup List.nodup_nil
theorem mem_keysOf {k : List Nat} : k ∈ keysOf S g l ↔ k ∈ l.map (key S g) := by
  unfold keysOf; rw [mem_addAll]; exact ⟨fun h => h.resolve_left List.not_mem_nil, .inr⟩
theorem keysOf_take (h : l[i]? = some s) : keysOf S g (l.take (i + 1)) = if key S g s ∈ keysOf S g (l.take i) then keysOf S g (l.take i) else keysOf S g (l.take i) ++ [key S g s] := by
  unfold keysOf
  rw [take_snoc h, List.map_append]
  have e := addAll_snoc [] ((l.take i).map (key S g)) (key S g s)
  by_cases q : key S g s ∈ addAll [] ((l.take i).map (key S g))
  · rw [if_pos q]; rw [if_pos q] at e; exact e
  · rw [if_neg q]; rw [if_neg q] at e; exact e
theorem keysOf_pre : keysOf S g (l.take i) <+: keysOf S g l := by
  have : keysOf S g l = addAll (keysOf S g (l.take i)) ((l.drop i).map (key S g)) := by
    unfold keysOf
    rw [← addAll_append, ← List.map_append, List.take_append_drop]
  rw [this]
  exact addAll_prefix _ _
theorem idx_pre {α : Type} [BEq α] [LawfulBEq α] {p q : List α} {k : α} (h : p <+: q) (hk : k ∈ p) : q.idxOf k = p.idxOf k := by
  obtain ⟨t, rfl⟩ := h
  rw [List.idxOf_append, if_pos hk]
theorem gN_len : (keysOf S g (l.take i)).length ≤ l.length := by
  refine Nat.le_trans keysOf_pre.length_le ?_
  have := addAll_length_le ([] : List (List Nat)) (l.map (key S g))
  rw [List.length_map] at this
  unfold keysOf
  simpa using this
theorem gN_finer : Finer S l g (gN S g l) := fun s hs t ht => by
  have h1 : key S g s ∈ keysOf S g l := mem_keysOf.mpr (List.mem_map.mpr ⟨s, hs, rfl⟩)
  have h2 : key S g t ∈ keysOf S g l := mem_keysOf.mpr (List.mem_map.mpr ⟨t, ht, rfl⟩)
  constructor
  · intro e
    have a := get_idxOfA h1
    have b := get_idxOfA h2
    rw [show (keysOf S g l).idxOf (key S g s) = (keysOf S g l).idxOf (key S g t) from e, b] at a
    exact (Option.some.inj a).symm
  · intro e
    show (keysOf S g l).idxOf _ = (keysOf S g l).idxOf _
    rw [e]
theorem gN_cnt : (keysOf S g l).length = cnt (gN S g l) l := by
  rw [cnt_list (key S g) l _ keysOf_nodup fun v => mem_keysOf]
  exact cnt_congr _ _ _ fun s hs t ht => gN_finer s hs t ht
theorem cnt_bound {β : Type} [DecidableEq β] (f : Nat → β) (l : List Nat) : cnt f l ≤ l.length := cnt_le_len f l
/-- the first parting: ends, the others -/
theorem Part.first (D : Led L S l) : Part L S E l fun s => if s ∈ E then 1 else 0 := by
  refine ⟨fun s hs t ht h => ?_, fun s hs t ht h => ?_⟩
  · have := h.end_
    by_cases q : s ∈ E
    · rw [if_pos q, if_pos (this.mp q)]
    · rw [if_neg q, if_neg fun z => q (this.mpr z)]
  · by_cases q : s ∈ E
    · rw [if_pos q] at h
      by_cases r : t ∈ E
      · exact ⟨fun _ => r, fun _ => q⟩
      · rw [if_neg r] at h; cases h
    · rw [if_neg q] at h
      by_cases r : t ∈ E
      · rw [if_pos r] at h; cases h
      · exact ⟨fun z => absurd z q, fun z => absurd z r⟩
end
end M22

set_option maxRecDepth 100000
set_option maxHeartbeats 4000000
/-! k22: the first state of each part. -/
namespace M22
open PySem PySem.Spec PyProof.Rows L2
section
variable {g : Nat → Nat} {l : List Nat} {i s c : Nat}
def rep (l : List Nat) (g : Nat → Nat) (c : Nat) : Nat := (l.find? fun s => decide (g s = c)).getD 0
def hks (g : Nat → Nat) (l : List Nat) : List Nat := addAll [] (l.map g)
theorem mem_hks : c ∈ hks g l ↔ c ∈ l.map g := by
  unfold hks; rw [mem_addAll]; exact ⟨fun h => h.resolve_left List.not_mem_nil, .inr⟩
theorem hks_take (h : l[i]? = some s) : hks g (l.take (i + 1)) = if g s ∈ hks g (l.take i) then hks g (l.take i) else hks g (l.take i) ++ [g s] := by
  unfold hks
  rw [take_snoc h, List.map_append]
  have e := addAll_snoc [] ((l.take i).map g) (g s)
  by_cases q : g s ∈ addAll [] ((l.take i).map g)
  · rw [if_pos q]; rw [if_pos q] at e; exact e
  · rw [if_neg q]; rw [if_neg q] at e; exact e
theorem rep_spec (h : s ∈ l) : rep l g (g s) ∈ l ∧ g (rep l g (g s)) = g s := by
  unfold rep
  cases q : l.find? fun x => decide (g x = g s) with
  | none => exact absurd (decide_eq_true rfl) (List.find?_eq_none.mp q s h)
  | some x =>
    have z := List.find?_some q
    exact ⟨List.mem_of_find?_eq_some q, of_decide_eq_true z⟩
theorem rep_new (h : l[i]? = some s) (hn : ¬ g s ∈ hks g (l.take i)) : rep l g (g s) = s := by
  unfold rep
  have e : l = l.take i ++ (s :: l.drop (i + 1)) := by
    have hi := lt_of_get h
    have : l.drop i = s :: l.drop (i + 1) := by
      rw [List.drop_eq_getElem_cons hi]
      congr 1
      exact (List.getElem?_eq_some_iff.mp h).2
    rw [← this, List.take_append_drop]
  have h0 : (l.take i).find? (fun x => decide (g x = g s)) = none := List.find?_eq_none.mpr fun x hx z => hn (mem_hks.mpr (List.mem_map.mpr ⟨x, hx, of_decide_eq_true z⟩))
  conv => lhs; rw [e]
  rw [List.find?_append, h0]
  simp
theorem hks_len : (hks g (l.take i)).length ≤ l.length := by
  have := addAll_length_le ([] : List Nat) ((l.take i).map g)
  rw [List.length_map, List.length_take] at this
  have h : ([] : List Nat).length = 0 := rfl
  rw [h] at this
  unfold hks
  omega
theorem sub_len : ∀ {m o : List Nat}, o.Nodup → (∀ c ∈ o, c ∈ m) → o.length ≤ m.length
  | [], [], _, _ => Nat.le_refl _
  | [], c :: o, _, h => absurd (h c List.mem_cons_self) List.not_mem_nil
  | a :: m, o, nd, h => by
    by_cases q : a ∈ o
    · have := sub_len (m := m) (nd.erase a) fun c hc => by
        have hne : c ≠ a := fun e => by subst e; exact nd.not_mem_erase hc
        exact (List.mem_cons.mp (h c (List.mem_of_mem_erase hc))).resolve_left hne
      rw [List.length_erase_of_mem q] at this
      rw [List.length_cons]
      omega
    · have := sub_len (m := m) nd fun c hc => (List.mem_cons.mp (h c hc)).resolve_left fun e => q (e ▸ hc)
      rw [List.length_cons]
      omega
theorem filter_range (p : Nat → Bool) (i : Nat) : (List.range (i + 1)).filter p = if p i = true then (List.range i).filter p ++ [i] else (List.range i).filter p := by
  rw [List.range_succ, List.filter_append]
  by_cases q : p i = true
  · rw [if_pos q]; simp [q]
  · rw [if_neg q]; simp [q]
theorem quo_of {L : Nat} {S : Steps} {E : List Nat} (led : Led L S l) (h0 : 0 ∈ l) (al : ∀ s ∈ l, ∀ t ∈ l, (g s = g t ↔ Alike L S E s t)) : Quo L S E l g (rep l g) :=
  ⟨led, h0, al, fun s hs => (rep_spec hs).1, fun s hs => (rep_spec hs).2⟩
end
section
variable {K : PySem.W.Frag} {D t : Addr} {H : Hp} {ns : List Nat}
/-- a new tuple of numbers, the list at D left out -/
theorem dp_new_t (ht : H t = none) (hD : H D ≠ none) : Dp K (Wo [D] (upd H t (.tup (ns.map vN)))) (.ref t) (dT ns) :=
  dp_t (SqT.of (by
    rw [wo_out fun z => hD (by rw [← List.mem_singleton.mp z]; exact ht)]
    exact upd_same))
theorem bfs_led {L : Nat} {S : Steps} {st : List Nat} {n : Nat} (W : Whole L S) (b : Bfs (row S) 0 st n) (h : st.length ≤ n) : Led L S st := by
  have lt : ∀ s ∈ st, s < S.length := b.ind W.pos fun x y hx hy => by
    obtain ⟨l, hl, rfl⟩ := (W.mem_row hx).mp hy
    exact W.nx hx hl
  exact ⟨W, lt, fun s hs l hl => b.closed h hs ((W.mem_row (lt s hs)).mpr ⟨l, hl, rfl⟩)⟩
end
end M22

set_option maxRecDepth 100000
set_option maxHeartbeats 4000000
/-! k22: classes made, compared; machines and tables in the heap. -/
namespace M22
open PySem PySem.Spec PyProof.Rows L2
structure InitAt (K : PySem.W.Frag) (C : Addr) (qual : Str) (st : Stmt) : Prop where
  ex : ∃ f fd, Fun K "__init__" qual st f fd ∧ Mk K C f
structure EqAt (K : PySem.W.Frag) (C : Addr) (qual : Str) (st : Stmt) : Prop where
  ex : ∃ f fd, Fun K "__eq__" qual st f fd ∧ NeC K C f
structure Mak (P : Program) (w : World) (K : PySem.W.Frag) (mg : Str → Option Value) (base : Heap) (k : Nat) (x : Str) (C : Addr) (ps : List Str) (sp : Sp) : Prop where
  ex : ∃ f fd, Mk K C f ∧ FnOk P w K mg base CX0 k f fd ps sp ∧ mg x = some (.ref C) ∧ Binds K fd ps []
structure EqOk (P : Program) (w : World) (K : PySem.W.Frag) (mg : Str → Option Value) (base : Heap) (k : Nat) (C : Addr) (ps : List Str) (sp : Sp) : Prop where
  ex : ∃ f fd, NeC K C f ∧ FnOk P w K mg base CX0 k f fd ps sp ∧ Binds K fd ps []
section
variable {P : Program} {w : World} {K : PySem.W.Frag} {mg : Str → Option Value} {base : Heap} {C : Addr}
theorem mak_of {x qual : Str} {st : Stmt} {N ps : List Str} {k : Nat} {sp : Sp} (D : InitAt K C qual st) (hm : mg x = some (.ref C)) (S : FnScope N ps (defScope st)) (b : BindOk "__init__" qual st ps) (len : ∀ vs H Q E, sp vs H Q E → vs.length = ps.length)
    (hbody : ∀ (f : Addr) (cdv : Value) (A : Around) (outer : List Env) (s : Shared) (H : Hp) (vs : List V) (Q : VK) (E : XK), Room k (A.deeper (envOfC qual (defScope st) s.heap.objs.size f cdv)) → sp vs H Q E →
      ∃ t, PSs (cxOf CX0 P w K mg base N qual (defScope st) f cdv A outer s H E).nox (defBody st) t ∧ t { nx := fun _ H' => Q .non H', rt := Q } (start N vs) H) : Mak P w K mg base (k + 1) x C ps sp := by
  obtain ⟨f, fd, F, M⟩ := D.ex
  exact ⟨f, fd, M, F.ok S len (fun cdv A outer s H vs Q E => hbody f cdv A outer s H vs Q E), hm, F.binds b⟩
theorem eq_of {qual : Str} {st : Stmt} {N ps : List Str} {k : Nat} {sp : Sp} (D : EqAt K C qual st) (S : FnScope N ps (defScope st)) (b : BindOk "__eq__" qual st ps) (len : ∀ vs H Q E, sp vs H Q E → vs.length = ps.length)
    (hbody : ∀ (f : Addr) (cdv : Value) (A : Around) (outer : List Env) (s : Shared) (H : Hp) (vs : List V) (Q : VK) (E : XK), Room k (A.deeper (envOfC qual (defScope st) s.heap.objs.size f cdv)) → sp vs H Q E →
      ∃ t, PSs (cxOf CX0 P w K mg base N qual (defScope st) f cdv A outer s H E).nox (defBody st) t ∧ t { nx := fun _ H' => Q .non H', rt := Q } (start N vs) H) : EqOk P w K mg base (k + 1) C ps sp := by
  obtain ⟨f, fd, F, M⟩ := D.ex
  exact ⟨f, fd, M, F.ok S len (fun cdv A outer s H vs Q E => hbody f cdv A outer s H vs Q E), F.binds b⟩
end
section
variable {X : Cx} {k j : Nat} {C : Addr} {x : Str} {ps : List Str} {sp : Sp} {p pos : Pos} {e : Expr} {es : List Expr} {t : TA}
theorem pe_mk (c : Mak X.prog X.w X.K X.mg X.base k x C ps sp) (hr : Room j X.A) (hk : k + 1 ≤ j) (hg : Gl X x) (ha : PA X (e :: es) t)
    (hdb : (x == ("__debug__" : Str)) = false := by decide) (he : starEach (e :: es) X.env = (false, eval e X.env) :: starEach es X.env := by rfl) (hpl : (backTo pos (starEach es X.env)).any (·.1) = false := by rfl) :
    PE X (.Call (.Name x p) (e :: es) [] pos) (tMake C sp [] E0 t) := by
  obtain ⟨f, fd, M, F, hm, b⟩ := c.ex
  exact pe_make M F (hr.mono hk) hg hm b .nil pass0 ha hdb he hpl
theorem op_neM {R : Addr → Addr → Hp → Bool → Prop} (c : EqOk X.prog X.w X.K X.mg X.base k C ps (spEqB R)) (hr : Room j X.A) (hk : k + 1 ≤ j) : OpR X (compareOp .NotEq) (rNeO C R) := by
  obtain ⟨f, fd, N, F, b⟩ := c.ex
  exact op_neO F N b (hr.mono hk)
end
/-! ### a machine -/
abbrev mfs (L : Nat) (a b : V) : List (Str × V) := [("own_letters", vN L), ("own_steps", a), ("own_ends", b)]
theorem ne1 : ¬ (("own_letters" : Str) = "own_steps") := by decide +kernel
theorem ne2 : ¬ (("own_letters" : Str) = "own_ends") := by decide +kernel
theorem ne3 : ¬ (("own_steps" : Str) = "own_ends") := by decide +kernel
theorem look_cons (f g : Str) (v : V) (r : List (Str × V)) : List.lookup f ((g, v) :: r) = if g = f then some v else List.lookup f r := by
  by_cases h : g = f
  · subst h
    rw [if_pos rfl]
    simp [List.lookup]
  · rw [if_neg h]
    have : (f == g) = false := beq_eq_false_iff_ne.mpr fun e => h e.symm
    simp [List.lookup, this]
theorem mfs_L (L : Nat) (a b : V) : (mfs L a b).lookup ("own_letters" : Str) = some (vN L) := by rw [look_cons, if_pos rfl]
theorem mfs_S (L : Nat) (a b : V) : (mfs L a b).lookup ("own_steps" : Str) = some a := by rw [look_cons, if_neg ne1, look_cons, if_pos rfl]
theorem mfs_E (L : Nat) (a b : V) : (mfs L a b).lookup ("own_ends" : Str) = some b := by rw [look_cons, if_neg ne2, look_cons, if_neg ne3, look_cons, if_pos rfl]
theorem putF_cons (f g : Str) (v x : V) (r : List (Str × V)) : putF f v ((g, x) :: r) = if g = f then (g, v) :: r else (g, x) :: putF f v r := rfl
theorem mfs_putS (L : Nat) (a b c : V) : putF "own_steps" c (mfs L a b) = mfs L c b := by rw [putF_cons, if_neg ne1, putF_cons, if_pos rfl]
theorem mfs_putE (L : Nat) (a b c : V) : putF "own_ends" c (mfs L a b) = mfs L a c := by rw [putF_cons, if_neg ne2, putF_cons, if_neg ne3, putF_cons, if_pos rfl]
theorem mfs_new (L : Nat) (a b : V) : putF "own_ends" b (putF "own_steps" a (putF "own_letters" (vN L) [])) = mfs L a b := by
  show putF "own_ends" b (putF "own_steps" a [("own_letters", vN L)]) = _
  rw [putF_cons, if_neg ne1]
  show putF "own_ends" b [("own_letters", vN L), ("own_steps", a)] = _
  rw [putF_cons, if_neg ne2, putF_cons, if_neg ne3]
  rfl
/-- at m a machine stands -/
def MAt (K : PySem.W.Frag) (CM : Addr) (H : Hp) (m : Addr) (L : Nat) (T : Steps) (F : List Nat) : Prop :=
  ∃ dx a b, H m = some (.ins CM dx (mfs L a b)) ∧ Dp K H a (dTT T) ∧ Dp K H b (dT F) ∧ Least L T F
theorem MAt.mono {K : PySem.W.Frag} {CM m : Addr} {H H' : Hp} {L : Nat} {T : Steps} {F : List Nat} (s : Same H H') (h : MAt K CM H m L T F) : MAt K CM H' m L T F := by
  obtain ⟨dx, a, b, h1, h2, h3, h4⟩ := h
  exact ⟨dx, a, b, s _ _ h1, dp_mono s h2, dp_mono s h3, h4⟩
end M22
namespace M22
open PySem PySem.Spec PyProof.Rows L2
section
variable {K : PySem.W.Frag} {H : Hp} {p C dx : Addr} {fs : List (Str × V)}
theorem seqL_out (h : H p = some (.ins C dx fs)) {a : Addr} {xs : List V} (s : SqL K H a xs) : SqL K (Wo [p] H) a xs := by
  rcases s with (s | ⟨o, s⟩) | s
  · exact .inl (.inl (by rw [wo_out fun z => by rw [List.mem_singleton.mp z, h] at s; cases s]; exact s))
  · exact .inl (.inr ⟨o, by rw [wo_out fun z => by rw [List.mem_singleton.mp z, h] at s; cases s]; exact s⟩)
  · exact .inr s
theorem seqT_out (h : H p = some (.ins C dx fs)) {a : Addr} {xs : List V} (s : SqT K H a xs) : SqT K (Wo [p] H) a xs := by
  rcases s with (s | ⟨o, s⟩) | s
  · exact .inl (.inl (by rw [wo_out fun z => by rw [List.mem_singleton.mp z, h] at s; cases s]; exact s))
  · exact .inl (.inr ⟨o, by rw [wo_out fun z => by rw [List.mem_singleton.mp z, h] at s; cases s]; exact s⟩)
  · exact .inr s
mutual
theorem dp_out (h : H p = some (.ins C dx fs)) : ∀ {v : V} {d : PyData}, Dp K H v d → Dp K (Wo [p] H) v d
  | _, _, .non => .non
  | _, _, .bl b => .bl b
  | _, _, .int i => .int i
  | _, _, .str x => .str x
  | _, _, .lst s a => .lst (seqL_out h s) (dpAll_out h a)
  | _, _, .tup s a => .tup (seqT_out h s) (dpAll_out h a)
theorem dpAll_out (h : H p = some (.ins C dx fs)) : ∀ {vs : List V} {ds : List PyData}, DpAll K H vs ds → DpAll K (Wo [p] H) vs ds
  | _, _, .nil => .nil
  | _, _, .cons a b => .cons (dp_out h a) (dpAll_out h b)
end
end
end M22

set_option maxRecDepth 100000
set_option maxHeartbeats 4000000
/-! k22: own rules: zip of a list and a tuple; its pairs taken apart, or taken whole. -/
namespace M22
open PySem PySem.Spec PyProof.Rows L2
/-- a zip's own object: u what it has handed out, f whether that is known to be kept -/
abbrev ZS (h : Heap) (z TI TO : Addr) (u : Value) (f : Bool) : Prop := h.get? z = some { cls := .type "zip", dict := none, data := .fields #[u, .bool f, .bool false, .ref TI, .ref TO], slots := #[] }
def Owed (u : Value) : Prop := u = .none ∨ ∃ T : Addr, u = rawInt T
section
variable {P : Program} {w : World} {A : Around} {E : Value → Shared → Prop} {s : Shared} {z TI TO i1 i2 : Addr} {fp1 fp2 : List Addr} {n1 n2 i : Nat} {P1 P2 : Nat → Value → Prop} {St1 St2 : Nat → Heap → Prop} {a1 a2 u : Value} {f : Bool}
theorem alive_or {a : Addr} {Q : Option Obj → Shared → Prop} (h : Q (s.heap.get? a) s) : wpAny (model P w) A (loadIfAlive a) Q E s := fun _ _ _ => h
/-- is its tuple free? either way -/
theorem owed_free {Q : Bool → Shared → Prop} (hz : ZS s.heap z TI TO u f) (hu : Owed u) (h : ∀ b h' f', ZS h' z TI TO u f' → Heap.SameBut z s.heap h' → Q b { s with heap := h' }) : wpAny (model P w) A (Builtin.SmallTypes.ownedTupleIsFree (.ref z)) Q E s := by
  unfold Builtin.SmallTypes.ownedTupleIsFree
  refine wpAny_bind (wpAny_field hz rfl (x := u) rfl ?_)
  rcases hu with rfl | ⟨T, rfl⟩
  · exact wpAny_pure (h true s.heap f hz (Heap.SameBut.refl _ _))
  show wpAny _ _ (loadIfAlive ((T : Int).toNat) >>= _) _ _ _
  refine wpAny_bind (alive_or ?_)
  cases s.heap.get? (T : Int).toNat with
  | none => exact wpAny_pure (h true s.heap f hz (Heap.SameBut.refl _ _))
  | some o =>
    simp only [Option.isNone_some, Bool.false_eq_true, if_false]
    refine wpAny_bind (wpAny_field hz rfl (x := .bool f) rfl ?_)
    cases f with
    | true => (rw [if_neg (show ¬ ((Value.bool true != Value.bool true) = true) from Bool.false_ne_true)]; exact wpAny_pure (h false s.heap true hz (Heap.SameBut.refl _ _)))
    | false => (rw [if_pos (show (Value.bool false != Value.bool true) = true from rfl)]; exact wpAny_bind (wpAny_setField_rec hz (by simp) fun h1 z1 k1 => wpAny_pure (h false h1 true z1 k1)))
/-- the next pair -/
theorem zip_item {Q : Value → Shared → Prop} (S : ZipSep2 z TI TO i1 i2 fp1 fp2) (D1 : Draws P w A i1 fp1 n1 P1 St1) (D2 : Draws P w A i2 fp2 n2 P2 St2)
    (hz : ZS s.heap z TI TO u f) (hu : Owed u) (hI : IsTupOf2 s.heap TI (.ref i1) (.ref i2)) (hO : IsTupOf2 s.heap TO a1 a2) (st1 : St1 i s.heap) (st2 : St2 i s.heap) (l1 : i < n1) (l2 : i < n2)
    (hQ : ∀ x1 x2 h' tk u' f' b1 b2, P1 i x1 → P2 i x2 → ZS h' z TI TO u' f' → Owed u' → IsTupOf2 h' TO b1 b2 → St1 (i + 1) h' → St2 (i + 1) h' → IsTupOf2 h' s.heap.objs.size x1 x2 →
      (∀ c o, c ≠ z → c ≠ TO → c ≠ i1 → c ≠ i2 → s.heap.get? c = some o → h'.get? c = some o) → Q (.ref s.heap.objs.size) { s with heap := h', toks := tk }) :
    wpAny (model P w) A (Builtin.«zip.__next__» ⟨[.ref z], []⟩) (fun fin s' => ∃ v, fin = .done (.ret v) ∧ Q v s') E s := by
  obtain ⟨hp, g, d, tk0, os⟩ := s
  show wpAny _ _ (field (.ref z) 2 >>= _) _ _ _
  refine wpAny_bind (wpAny_field hz rfl (x := .bool false) rfl ?_); show wpAny _ _ (field (.ref z) 3 >>= _) _ _ _
  refine wpAny_bind (wpAny_field hz rfl (x := .ref TI) rfl (wpAny_bind (wpAny_seqItems hI rfl ?_))); show wpAny _ _ (Builtin.SmallTypes.ownedTupleIsFree (.ref z) >>= _) _ _ _
  refine wpAny_bind (owed_free hz hu fun b e0 f0 hz hs0 => ?_)
  have hs0 : Heap.SameBut z hp e0 := hs0
  have hO : IsTupOf2 e0 TO a1 a2 := hs0.extBut _ _ S.TOz hO
  have st1 := D1.over st1 hs0 S.zf1
  have st2 := D2.over st2 hs0 S.zf2
  have hn0 : e0.objs.size = hp.objs.size := hs0.1
  have k0 : ∀ c o, c ≠ z → hp.get? c = some o → e0.get? c = some o := fun c o q e => hs0.extBut _ _ q e
  cases b with
  | true =>
    simp only [if_true]
    refine wpAny_bind (wpAny_rule (wpAny_bind (wpAny_field hz rfl (x := .ref TO) rfl (wpAny_bind (wpAny_setField_rec hz (by simp) fun e1 hz1 hs1 => ?_)))))
    replace hz1 : ZS e1 z TI TO .ellipsis f0 := hz1
    replace hs1 : Heap.SameBut z e0 e1 := hs1
    refine wpAny_bind ?_; simp only [List.zipIdx_cons, List.zipIdx_nil, List.forIn_cons, List.forIn_nil]
    refine wpAny_bind (wpAny_bind (wpAny_onRaise ?_)); show wpAny _ _ (Builtin.SmallTypes.nextOf (.ref i1) >>= _) _ _ ⟨e1, g, d, tk0, os⟩
    refine wpAny_bind (D1.item i _ _ _ l1 (D1.over st1 hs1 S.zf1) fun x1 e2 t2 y1 n1 hs2 => wpAny_pure ?_)
    replace hs2 : Heap.SameBut i1 e1 e2 := hs2
    have hO2 : IsTupOf2 e2 TO a1 a2 := hs2.extBut _ _ S.Ti1 (hs1.extBut _ _ S.TOz hO)
    refine wpAny_bind (wpAny_seqItems (s := ⟨e2, g, d, t2, os⟩) hO2 rfl (wpAny_bind (updateSeq_IsTupOf2 (s := ⟨e2, g, d, t2, os⟩) hO2 fun e3 hO3 hs3 => ?_)))
    replace hO3 : IsTupOf2 e3 TO x1 a2 := hO3
    replace hs3 : Heap.SameBut TO e2 e3 := hs3
    refine wpAny_bind (wpAny_letGo (wpAny_pure (wpAny_bind (wpAny_bind (wpAny_onRaise ?_))))); show wpAny _ _ (Builtin.SmallTypes.nextOf (.ref i2) >>= _) _ _ ⟨e3, g, d, t2, os⟩
    refine wpAny_bind (D2.item i _ _ _ l2 (D2.over (D2.over (D2.over st2 hs1 S.zf2) hs2 S.sep1_2) hs3 S.Tf2) fun x2 e4 t4 y2 n2 hs4 => wpAny_pure ?_)
    replace hs4 : Heap.SameBut i2 e3 e4 := hs4
    have hO4 : IsTupOf2 e4 TO x1 a2 := hs4.extBut _ _ S.Ti2 hO3
    refine wpAny_bind (wpAny_seqItems (s := ⟨e4, g, d, t4, os⟩) hO4 rfl (wpAny_bind (updateSeq_IsTupOf2 (s := ⟨e4, g, d, t4, os⟩) hO4 fun e5 hO5 hs5 => ?_)))
    replace hO5 : IsTupOf2 e5 TO x1 x2 := hO5
    replace hs5 : Heap.SameBut TO e4 e5 := hs5
    refine wpAny_bind (wpAny_letGo (wpAny_pure (wpAny_pure (wpAny_bind (wpAny_seqItems (s := ⟨e5, g, d, t4, os⟩) hO5 rfl (wpAny_bind (wpAny_newTuple ?_)))))))
    have hn5 : e5.objs.size = hp.objs.size := by rw [hs5.1, hs4.1, hs3.1, hs2.1, hs1.1, hn0]
    have hz5 : ZS e5 z TI TO .ellipsis f0 := hs5.extBut _ _ S.TOz.symm (hs4.extBut _ _ S.zi2 (hs3.extBut _ _ S.TOz.symm (hs2.extBut _ _ S.zi1 hz1)))
    have k5 : ∀ c o, c ≠ z → c ≠ TO → c ≠ i1 → c ≠ i2 → hp.get? c = some o → e5.get? c = some o := fun c o q1 q2 q3 q4 e => hs5.extBut _ _ q2 (hs4.extBut _ _ q4 (hs3.extBut _ _ q2 (hs2.extBut _ _ q3 (hs1.extBut _ _ q1 (k0 _ _ q1 e)))))
    have m1 : St1 (i + 1) e5 := D1.over (D1.over (D1.over n1 hs3 S.Tf1) hs4 S.sep2_1) hs5 S.Tf1
    have m2 : St2 (i + 1) e5 := D2.over n2 hs5 S.Tf2
    have zlt : z < e5.objs.size := Heap.lt_size hz5
    show wpAny _ _ (Builtin.SmallTypes.ownedTupleHandOut (.ref z) (.ref e5.objs.size) >>= _) _ _ ⟨e5.push { cls := .type "tuple", data := .seq #[x1, x2] }, g, d, t4, os⟩
    refine wpAny_bind ?_; unfold Builtin.SmallTypes.ownedTupleHandOut
    have hz6 : ZS (e5.push { cls := .type "tuple", data := .seq #[x1, x2] }) z TI TO .ellipsis f0 := Heap.get?_push_of_some _ hz5
    refine wpAny_bind (wpAny_setField_rec hz6 (by simp) fun e7 hz7 hs7 => ?_)
    replace hz7 : ZS e7 z TI TO (rawInt e5.objs.size) f0 := hz7
    refine wpAny_setField_rec hz7 (by simp) fun e8 hz8 hs8 => ?_
    replace hz8 : ZS e8 z TI TO (rawInt e5.objs.size) false := hz8
    replace hs7 : Heap.SameBut z (e5.push { cls := .type "tuple", data := .seq #[x1, x2] }) e7 := hs7
    replace hs8 : Heap.SameBut z e7 e8 := hs8
    have up : ∀ c o, c ≠ z → e5.get? c = some o → e8.get? c = some o := fun c o q e => hs8.extBut _ _ q (hs7.extBut _ _ q (Heap.get?_push_of_some _ e))
    have hT8 : IsTupOf2 e8 e5.objs.size x1 x2 := hs8.extBut _ _ (Nat.ne_of_gt zlt) (hs7.extBut _ _ (Nat.ne_of_gt zlt) (Heap.get?_push_size _ rfl))
    refine wpAny_pure ⟨_, rfl, ?_⟩
    show Q (.ref e5.objs.size) ⟨e8, g, d, t4, os⟩
    rw [hn5] at hT8 ⊢
    exact hQ x1 x2 e8 t4 _ _ x1 x2 y1 y2 hz8 (.inr ⟨_, rfl⟩) (up _ _ S.TOz hO5) (D1.frame _ _ _ m1 fun b hb o e => up b o (fun q => S.zf1 (q ▸ hb)) e) (D2.frame _ _ _ m2 fun b hb o e => up b o (fun q => S.zf2 (q ▸ hb)) e) hT8 fun c o q1 q2 q3 q4 e => up c o q1 (k5 c o q1 q2 q3 q4 e)
  | false =>
    simp only [Bool.false_eq_true, if_false]
    refine wpAny_bind ?_; rw [← Array.forIn_toList]; simp only [List.forIn_cons, List.forIn_nil]
    refine wpAny_bind (wpAny_bind (wpAny_holding ?_)); show wpAny _ _ (Builtin.SmallTypes.nextOf (.ref i1) >>= _) _ _ ⟨e0, g, d, tk0, os⟩
    refine wpAny_bind (D1.item i _ _ _ l1 st1 fun x1 e2 t2 y1 n1 hs2 => wpAny_pure (wpAny_pure (wpAny_bind (wpAny_bind (wpAny_holding ?_)))))
    replace hs2 : Heap.SameBut i1 e0 e2 := hs2
    show wpAny _ _ (Builtin.SmallTypes.nextOf (.ref i2) >>= _) _ _ ⟨e2, g, d, t2, os⟩
    refine wpAny_bind (D2.item i _ _ _ l2 (D2.over st2 hs2 S.sep1_2) fun x2 e4 t4 y2 n2 hs4 => wpAny_pure (wpAny_pure (wpAny_pure ?_)))
    replace hs4 : Heap.SameBut i2 e2 e4 := hs4
    show wpAny _ _ (newTuple [x1, x2] >>= _) _ _ ⟨e4, g, d, t4, os⟩
    refine wpAny_bind (wpAny_newTuple ?_)
    have hn4 : e4.objs.size = hp.objs.size := by rw [hs4.1, hs2.1, hn0]
    have up : ∀ c o, c ≠ i1 → c ≠ i2 → e0.get? c = some o → (e4.push { cls := .type "tuple", data := .seq #[x1, x2] }).get? c = some o := fun c o q1 q2 e => Heap.get?_push_of_some _ (hs4.extBut _ _ q2 (hs2.extBut _ _ q1 e))
    have hT : IsTupOf2 (e4.push { cls := .type "tuple", data := .seq #[x1, x2] }) e4.objs.size x1 x2 := Heap.get?_push_size _ rfl
    refine wpAny_pure ⟨_, rfl, ?_⟩
    show Q (.ref e4.objs.size) ⟨e4.push { cls := .type "tuple", data := .seq #[x1, x2] }, g, d, t4, os⟩
    rw [hn4] at hT ⊢
    exact hQ x1 x2 _ t4 _ _ _ _ y1 y2 (up _ _ S.zi1 S.zi2 hz) hu (up _ _ S.Ti1 S.Ti2 hO) (D1.frame _ _ _ (D1.over n1 hs4 S.sep2_1) fun b hb o e => Heap.get?_push_of_some _ e) (D2.frame _ _ _ n2 fun b hb o e => Heap.get?_push_of_some _ e) hT fun c o q1 _ q3 q4 e => up c o q3 q4 (k0 c o q1 e)
/-- no pair more -/
theorem zip_stop {Q : Fin → Shared → Prop} (S : ZipSep2 z TI TO i1 i2 fp1 fp2) (D1 : Draws P w A i1 fp1 n1 P1 St1) (D2 : Draws P w A i2 fp2 n2 P2 St2)
    (hz : ZS s.heap z TI TO u f) (hu : Owed u) (hI : IsTupOf2 s.heap TI (.ref i1) (.ref i2)) (hO : IsTupOf2 s.heap TO a1 a2) (st1 : St1 i s.heap) (st2 : St2 i s.heap) (l1 : i ≤ n1) (l2 : i ≤ n2) (hend : i = n1 ∨ i = n2)
    (hE : ∀ h' tk e, (∀ c o, c ≠ z → c ≠ TO → c ≠ i1 → c ≠ i2 → s.heap.get? c = some o → h'.get? c = some o) → (∃ o, h'.get? e = some o ∧ o.cls = .type "StopIteration") → E (.ref e) { s with heap := h', toks := tk }) :
    wpAny (model P w) A (Builtin.«zip.__next__» ⟨[.ref z], []⟩) Q E s := by
  obtain ⟨hp, g, d, tk0, os⟩ := s
  show wpAny _ _ (field (.ref z) 2 >>= _) _ _ _
  refine wpAny_bind (wpAny_field hz rfl (x := .bool false) rfl ?_); show wpAny _ _ (field (.ref z) 3 >>= _) _ _ _
  refine wpAny_bind (wpAny_field hz rfl (x := .ref TI) rfl (wpAny_bind (wpAny_seqItems hI rfl ?_))); show wpAny _ _ (Builtin.SmallTypes.ownedTupleIsFree (.ref z) >>= _) _ _ _
  refine wpAny_bind (owed_free hz hu fun b e0 f0 hz hs0 => ?_)
  have hs0 : Heap.SameBut z hp e0 := hs0
  have hO : IsTupOf2 e0 TO a1 a2 := hs0.extBut _ _ S.TOz hO
  have st1 := D1.over st1 hs0 S.zf1
  have st2 := D2.over st2 hs0 S.zf2
  have k0 : ∀ c o, c ≠ z → hp.get? c = some o → e0.get? c = some o := fun c o q e => hs0.extBut _ _ q e
  cases b with
  | true =>
    simp only [if_true]
    refine wpAny_bind (wpAny_rule (wpAny_bind (wpAny_field hz rfl (x := .ref TO) rfl (wpAny_bind (wpAny_setField_rec hz (by simp) fun e1 hz1 hs1 => ?_)))))
    replace hz1 : ZS e1 z TI TO .ellipsis f0 := hz1
    replace hs1 : Heap.SameBut z e0 e1 := hs1
    refine wpAny_bind ?_; simp only [List.zipIdx_cons, List.zipIdx_nil, List.forIn_cons, List.forIn_nil]
    refine wpAny_bind (wpAny_bind (wpAny_onRaise ?_)); show wpAny _ _ (Builtin.SmallTypes.nextOf (.ref i1) >>= _) _ _ ⟨e1, g, d, tk0, os⟩
    have fin : ∀ (q : Heap) (tk : Nat) (e : Addr) (oe : Obj), ZS q z TI TO .ellipsis f0 → q.get? e = some oe → oe.cls = .type "StopIteration" → (∀ c o, c ≠ z → c ≠ TO → c ≠ i1 → c ≠ i2 → hp.get? c = some o → q.get? c = some o) →
        wpAny (model P w) A (setField (.ref z) 0 .none) (fun _ s' => E (.ref e) s') E ⟨q, g, d, tk, os⟩ := fun q tk e oe hzq hoe hce k => by
      have hez : e ≠ z := fun x => by subst x; rw [hzq] at hoe; cases hoe; simp at hce
      refine wpAny_setField_rec (s := ⟨q, g, d, tk, os⟩) hzq (by simp) fun q' _ hq' => ?_
      replace hq' : Heap.SameBut z q q' := hq'
      exact hE q' tk e (fun c o c1 c2 c3 c4 x => hq'.extBut _ _ c1 (k c o c1 c2 c3 c4 x)) ⟨oe, hq'.extBut _ _ hez hoe, hce⟩
    by_cases q1 : i < n1
    · refine wpAny_bind (D1.item i _ _ _ q1 (D1.over st1 hs1 S.zf1) fun x1 e2 t2 y1 n1 hs2 => wpAny_pure ?_)
      replace hs2 : Heap.SameBut i1 e1 e2 := hs2
      have hO2 : IsTupOf2 e2 TO a1 a2 := hs2.extBut _ _ S.Ti1 (hs1.extBut _ _ S.TOz hO)
      refine wpAny_bind (wpAny_seqItems (s := ⟨e2, g, d, t2, os⟩) hO2 rfl (wpAny_bind (updateSeq_IsTupOf2 (s := ⟨e2, g, d, t2, os⟩) hO2 fun e3 hO3 hs3 => ?_)))
      replace hs3 : Heap.SameBut TO e2 e3 := hs3
      refine wpAny_bind (wpAny_letGo (wpAny_pure (wpAny_bind (wpAny_bind (wpAny_onRaise ?_))))); show wpAny _ _ (Builtin.SmallTypes.nextOf (.ref i2) >>= _) _ _ ⟨e3, g, d, t2, os⟩
      have hi2 : i = n2 := by omega
      refine wpAny_bind (D2.done ⟨e3, g, d, t2, os⟩ _ _ (by rw [← hi2]; exact D2.over (D2.over (D2.over st2 hs1 S.zf2) hs2 S.sep1_2) hs3 S.Tf2) fun q e hq he => ?_)
      replace hq : Heap.ExtBut i2 e3 q := hq
      obtain ⟨oe, hoe, hce⟩ := he
      exact fin q t2 e oe (hq _ _ S.zi2 (hs3.extBut _ _ S.TOz.symm (hs2.extBut _ _ S.zi1 hz1))) hoe hce fun c o c1 c2 c3 c4 x => hq _ _ c4 (hs3.extBut _ _ c2 (hs2.extBut _ _ c3 (hs1.extBut _ _ c1 (k0 _ _ c1 x))))
    · have hi1 : i = n1 := by omega
      refine wpAny_bind (D1.done ⟨e1, g, d, tk0, os⟩ _ _ (by rw [← hi1]; exact D1.over st1 hs1 S.zf1) fun q e hq he => ?_)
      replace hq : Heap.ExtBut i1 e1 q := hq
      obtain ⟨oe, hoe, hce⟩ := he
      exact fin q tk0 e oe (hq _ _ S.zi1 hz1) hoe hce fun c o c1 c2 c3 c4 x => hq _ _ c3 (hs1.extBut _ _ c1 (k0 _ _ c1 x))
  | false =>
    simp only [Bool.false_eq_true, if_false]
    refine wpAny_bind ?_; rw [← Array.forIn_toList]; simp only [List.forIn_cons, List.forIn_nil]
    refine wpAny_bind (wpAny_bind (wpAny_holding ?_)); show wpAny _ _ (Builtin.SmallTypes.nextOf (.ref i1) >>= _) _ _ ⟨e0, g, d, tk0, os⟩
    by_cases q1 : i < n1
    · refine wpAny_bind (D1.item i _ _ _ q1 st1 fun x1 e2 t2 y1 n1 hs2 => wpAny_pure (wpAny_pure (wpAny_bind (wpAny_bind (wpAny_holding ?_)))))
      replace hs2 : Heap.SameBut i1 e0 e2 := hs2
      show wpAny _ _ (Builtin.SmallTypes.nextOf (.ref i2) >>= _) _ _ ⟨e2, g, d, t2, os⟩
      have hi2 : i = n2 := by omega
      refine wpAny_bind (D2.done ⟨e2, g, d, t2, os⟩ _ _ (by rw [← hi2]; exact D2.over st2 hs2 S.sep1_2) fun q e hq he => ?_)
      replace hq : Heap.ExtBut i2 e2 q := hq
      exact hE q t2 e (fun c o c1 _ c3 c4 x => hq _ _ c4 (hs2.extBut _ _ c3 (k0 _ _ c1 x))) he
    · have hi1 : i = n1 := by omega
      refine wpAny_bind (D1.done ⟨e0, g, d, tk0, os⟩ _ _ (by rw [← hi1]; exact st1) fun q e hq he => ?_)
      replace hq : Heap.ExtBut i1 e0 q := hq
      exact hE q tk0 e (fun c o c1 _ c3 _ x => hq _ _ c3 (k0 _ _ c1 x)) he
theorem let_go {tg : Expr} {v : Value} {Q : Unit → Shared → Prop} (hz : ZS s.heap z TI TO u f) (hu : Owed u) (hQ : ∀ h' u', ZS h' z TI TO u' f → Owed u' → Heap.SameBut z s.heap h' → Q () { s with heap := h' }) : wpAny (model P w) A (letOwnedTupleGo tg (.ref z) v) Q E s := by
  have stay : Q () s := hQ s.heap u hz hu (Heap.SameBut.refl _ _)
  unfold letOwnedTupleGo
  cases tg <;> first
    | exact wpAny_pure stay
    | (cases v <;> first
        | exact wpAny_pure stay
        | (refine wpAny_bind (wpAny_load hz ?_)
           dsimp only
           split
           · exact wpAny_bind (wpAny_rule (wpAny_setField_rec hz (by simp) fun h' hz' hs' => hQ h' .none hz' (.inl rfl) hs'))
           · exact wpAny_pure stay))
end
/-! ### over the layer -/
section
def ItzM (K : PySem.W.Frag) (a b : Addr) : It :=
  ⟨fun i H => ∃ (xs ys : List V) (x y : V), SqL K H a xs ∧ SqT K H b ys ∧ xs[i]? = some x ∧ ys[i]? = some y,
    fun i H v H' => ∃ T x y, v = .ref T ∧ H T = none ∧ H' = upd H T (.tup [x, y]) ∧ (∀ xs, SqL K H a xs → xs[i]? = some x) ∧ ∀ ys, SqT K H b ys → ys[i]? = some y,
    fun i H => ∃ xs ys : List V, SqL K H a xs ∧ SqT K H b ys ∧ (xs.length = i ∧ i ≤ ys.length ∨ ys.length = i ∧ i ≤ xs.length)⟩
variable {K : PySem.W.Frag} {a b : Addr}
theorem walk_zipM {xs ys : List V} {n : Nat} (h1 : xs.length = n) (h2 : ys.length = n) : Walk (ItzM K a b) n (fun H => SqL K H a xs ∧ SqT K H b ys) (YPair (fun i => xs[i]?) (fun i => ys[i]?)) := by
  refine ⟨fun i _ hi q => ?_, fun _ q => ⟨xs, ys, q.1, q.2, .inl ⟨h1, by omega⟩⟩, fun i H v H' _ q y => ?_⟩
  · obtain ⟨x, hx⟩ := get_some (show i < xs.length by omega)
    obtain ⟨y, hy⟩ := get_some (show i < ys.length by omega)
    exact ⟨xs, ys, x, y, q.1, q.2, hx, hy⟩
  · obtain ⟨T, x, z, e1, e2, e3, e4, e5⟩ := y
    exact ⟨T, x, z, e1, e2, e3, e4 xs q.1, e5 ys q.2⟩
abbrev tnM (z TI TO i1 i2 a b : Addr) (i : Nat) (h : Heap) : Prop := (∃ u f, ZS h z TI TO u f ∧ Owed u) ∧ IsTupOf2 h TI (.ref i1) (.ref i2) ∧ (∃ x y, IsTupOf2 h TO x y) ∧ h.IsListIter i1 a i ∧ h.IsTupleIter i2 b i
theorem five {z TI TO i1 i2 c : Addr} : c ∈ [z, TI, TO, i1, i2] ↔ c = z ∨ c = TI ∨ c = TO ∨ c = i1 ∨ c = i2 := by simp
theorem turn_zipM {P : Program} {w : World} {tg : Expr} {z TI TO i1 i2 : Addr} (D : ZipSep2 z TI TO i1 i2 [i1, a] [i2, b]) (ha : a ≠ i1) (hb : b ≠ i2) : Turn P w K tg (ItzM K a b) [z, TI, TO, i1, i2] z (tnM z TI TO i1 i2 a b) where
  mem := by simp
  obj := fun i h st c hc => by
    obtain ⟨⟨u, f, hz, _⟩, hI, ⟨x, y, hO⟩, ⟨o1, e1, _, d1⟩, ⟨o2, e2, _, d2⟩⟩ := st
    rcases five.mp hc with q | q | q | q | q
    · rw [q]; exact ⟨_, hz, fun v q => nomatch q⟩
    · rw [q]; exact ⟨_, hI, fun v q => nomatch q⟩
    · rw [q]; exact ⟨_, hO, fun v q => nomatch q⟩
    · rw [q]; exact ⟨o1, e1, fun v q => by rw [d1] at q; cases q⟩
    · rw [q]; exact ⟨o2, e2, fun v q => by rw [d2] at q; cases q⟩
  keep := fun i h h' st k => by
    obtain ⟨⟨u, f, hz, hu⟩, hI, ⟨x, y, hO⟩, k1, k2⟩ := st
    exact ⟨⟨u, f, k z (by simp) _ hz, hu⟩, k TI (by simp) _ hI, ⟨x, y, k TO (by simp) _ hO⟩, k1.at fun o q => k i1 (by simp) o q, k2.at fun o q => k i2 (by simp) o q⟩
  item := by
    intro X hP hw hK hc i pins s σ H E I hf st hg
    subst hP hw hK
    obtain ⟨⟨u, f, hz, hu⟩, hI, ⟨x0, y0, hO⟩, k1, k2⟩ := st
    obtain ⟨xs, ys, x, y, qx, qy, hx, hy⟩ := hg
    obtain ⟨its, rv, p1, _⟩ := I.list qx
    obtain ⟨its2, rv2, p2, _⟩ := I.tuple qy
    obtain ⟨v1, e1, r1⟩ := rv.get hx
    obtain ⟨v2, e2, r2⟩ := rv2.get hy
    have hh : X.A.in1.handled = none := by simp [I.ok.hd hc]
    have zlt : z < s.heap.objs.size := Heap.lt_size hz
    have hT : s.TypeIs (.ref z) "zip" := ⟨_, hz, rfl⟩
    have l1 := lt_of_get e1
    have l2 := lt_of_get e2
    unfold pyNext
    refine wpAny_bind (wpAny_attempt (wpAny_callSpecial?_slot (name := Str.ofString "__next__") hT F.slot_zip_next (wpAny_call_entry F.slot_zip_next hT F.entry_zip_next
      (zip_item D (Draws.list hh i1 a ha its.toArray) (Draws.tuple hh i2 b hb its2.toArray) hz hu hI hO ⟨k1, p1.isList⟩ ⟨k2, p2⟩ (by simpa using l1) (by simpa using l2) fun w1 w2 h1 tk u1 f1 c1 c2 m1 m2 hz1 hu1 hO1 t1 t2 hT1 k => wpAny_pure ?_) (F.args_zip_next_1 _))))
    refine ⟨_, rfl, let_go (s := { s with heap := h1, toks := tk }) hz1 hu1 fun h2 u2 hz2 hu2 sb => ?_⟩
    have q1 : w1 = v1 := by have : its.toArray[i]? = some v1 := by simpa using e1
                            rw [this] at m1; cases m1; rfl
    have q2 : w2 = v2 := by have : its2.toArray[i]? = some v2 := by simpa using e2
                            rw [this] at m2; cases m2; rfl
    subst q1 q2
    have hT2 : h2.get? s.heap.objs.size = some { cls := .type "tuple", data := .seq #[w1, w2] } := (sb.2 _ (Nat.ne_of_gt zlt)).trans hT1
    have new : ObjOk X.prog X.w (upd H s.heap.objs.size (.tup [x, y])) h2 s.heap.objs.size (.tup [x, y]) := ⟨by show 2 ≤ sizeLine; decide, [w1, w2], .cons r1 (.cons r2 .nil), ⟨_, hT2, rfl, _, rfl⟩⟩
    have up : ∀ c o, c ∉ [z, TI, TO, i1, i2] → s.heap.get? c = some o → h2.get? c = some o := fun c o hn e => by
      have hn : ¬ (c = z ∨ c = TI ∨ c = TO ∨ c = i1 ∨ c = i2) := fun z => hn (five.mpr z)
      exact (sb.2 c fun q => hn (.inl q)).trans (k c o (fun q => hn (.inl q)) (fun q => hn (.inr (.inr (.inl q)))) (fun q => hn (.inr (.inr (.inr (.inl q))))) (fun q => hn (.inr (.inr (.inr (.inr q))))) e)
    have I2 : Inv X pins σ (upd H s.heap.objs.size (.tup [x, y])) { s with heap := h2, toks := tk } := I.turnedNew (t' := tk) up hf (Nat.le_refl _) new
    refine ⟨.ref s.heap.objs.size, _, I2, rfl, ⟨_, x, y, rfl, I.hok.fresh (Nat.le_refl _), rfl, fun l hl => by rw [I.list_inj hl qx]; exact hx, fun l hl => by rw [I.tuple_inj hl qy]; exact hy⟩,
      ⟨⟨u2, f1, hz2, hu2⟩, ?_, ⟨c1, c2, (sb.2 _ D.TOz).trans hO1⟩, t1.1.at fun o q => (sb.2 _ D.zi1.symm).trans q, t2.1.at fun o q => (sb.2 _ D.zi2.symm).trans q⟩, fun c hcm => ?_⟩
    · exact (sb.2 _ D.TIz).trans (k _ _ D.TIz D.TITO D.TIi1 D.TIi2 hI)
    · have hlt : c < s.heap.objs.size := by
        rcases five.mp hcm with q | q | q | q | q
        · rw [q]; exact zlt
        · rw [q]; exact Heap.lt_size hI
        · rw [q]; exact Heap.lt_size hO
        · rw [q]; obtain ⟨_, e, _⟩ := k1; exact Heap.lt_size e
        · rw [q]; obtain ⟨_, e, _⟩ := k2; exact Heap.lt_size e
      rw [upd_ne (Nat.ne_of_lt hlt)]
      exact (hf c hcm).1
  done := by
    intro X hP hw hK hc i pins s σ H E I hf st hg
    subst hP hw hK
    obtain ⟨⟨u, f, hz, hu⟩, hI, ⟨x0, y0, hO⟩, k1, k2⟩ := st
    obtain ⟨xs, ys, qx, qy, hend⟩ := hg
    obtain ⟨its, rv, p1, _⟩ := I.list qx
    obtain ⟨its2, rv2, p2, _⟩ := I.tuple qy
    have n1 := rv.length
    have n2 := rv2.length
    have hh : X.A.in1.handled = none := by simp [I.ok.hd hc]
    have hT : s.TypeIs (.ref z) "zip" := ⟨_, hz, rfl⟩
    have c1 : i ≤ its.toArray.size ∧ i ≤ its2.toArray.size ∧ (i = its.toArray.size ∨ i = its2.toArray.size) := by
      rw [List.size_toArray, List.size_toArray]
      omega
    unfold pyNext
    refine wpAny_bind (wpAny_attempt (wpAny_callSpecial?_slot (name := Str.ofString "__next__") hT F.slot_zip_next (wpAny_call_entry F.slot_zip_next hT F.entry_zip_next
      (zip_stop D (Draws.list hh i1 a ha its.toArray) (Draws.tuple hh i2 b hb its2.toArray) hz hu hI hO ⟨k1, p1.isList⟩ ⟨k2, p2⟩ c1.1 c1.2.1 c1.2.2 fun h1 tk e k he => ?_) (F.args_zip_next_1 _))))
    obtain ⟨o, ho, hce⟩ := he
    refine wpAny_bind (wpAny_isInstance (T := "StopIteration") (b := true) ⟨o, ho, hce⟩ isSubtype_stop (wpAny_pure ⟨rfl, ?_⟩))
    exact I.turnedL (t' := tk) (ch := [z, TI, TO, i1, i2]) (fun c o hn e => by
      have hn : ¬ (c = z ∨ c = TI ∨ c = TO ∨ c = i1 ∨ c = i2) := fun z => hn (five.mpr z)
      exact k c o (fun q => hn (.inl q)) (fun q => hn (.inr (.inr (.inl q)))) (fun q => hn (.inr (.inr (.inr (.inl q))))) (fun q => hn (.inr (.inr (.inr (.inr q))))) e) hf
  self := fun A i s Q E st h => by
    obtain ⟨⟨u, f, hz, hu⟩, _⟩ := st
    have hT : s.TypeIs (.ref z) "zip" := ⟨_, hz, rfl⟩
    refine wpAny_pyIter_slot hT F.slot_zip_iter (wpAny_call_entry F.slot_zip_iter hT F.entry_zip_iter ?_ (F.args_zip_iter_1 _))
    refine wpAny_pure ?_
    exact ⟨_, rfl, "zip", _, hT, F.slot_zip_next.lookup, h⟩
def iZipM (K : PySem.W.Frag) (ta : TA) : TI := fun σ H R => ta σ H fun vs H1 => ∃ a b xs ys, vs = [.ref a, .ref b] ∧ SqL K H1 a xs ∧ SqT K H1 b ys ∧ R (ItzM K a b) H1
theorem pi_zipM {X : Cx} {tg e e2 : Expr} {ta : TA} {p pos : Pos} (hg : Gl X "zip") (hm : X.mg "zip" = none) (ha : PA X [e, e2] ta)
    (hs : starEach [e, e2] X.env = (false, eval e X.env) :: starEach [e2] X.env := by rfl) (hpl : (backTo pos (starEach [e2] X.env)).any (·.1) = false := by rfl) : PI X tg (.Call (.Name "zip" p) [e, e2] [] pos) (iZipM X.K ta) := by
  refine ⟨fun pins s σ H R I h => ?_⟩
  refine Call_ (ld_blt I hg hm PyProof.Rows.boot_zip (PyProof.Rows.callWith_type1 (thn (ha.run pos pins s σ H _ I h) fun us s1 ⟨vs, H1, I1, r1, a, b, xs, ys, ex, qx, qy, q⟩ => ?_) hs hpl))
  subst ex
  obtain ⟨w1, w2, rfl, r1, r2⟩ := vals2 r1
  cases r1; cases r2
  obtain ⟨its, rv, p1, _⟩ := I1.list qx
  obtain ⟨its2, rv2, p2, _⟩ := I1.tuple qy
  have alt : a < s1.heap.objs.size := p1.lt
  have blt : b < s1.heap.objs.size := by obtain ⟨o, e, _⟩ := id p2; exact Heap.lt_size e
  have S := zip_sep2 (N := s1.heap.objs.size) (fp1 := [a]) (fp2 := [b]) (fun c hc => by rw [List.mem_singleton.mp hc]; exact alt) (fun c hc => by rw [List.mem_singleton.mp hc]; exact blt)
  refine zip_begins2 (begins_list a its.toArray) (begins_tuple b its2.toArray) p1.isList p2 fun h' hz hI hO g1 g2 hsz hk => ?_
  have hT : Shared.TypeIs { s1 with heap := h' } (.ref (s1.heap.objs.size + 4)) "zip" := ⟨_, hz, rfl⟩
  refine wpAny_pyIter_slot hT F.slot_zip_iter (wpAny_call_entry F.slot_zip_iter hT F.entry_zip_iter ?_ (F.args_zip_iter_1 _))
  have I2 : Inv X pins σ H1 { s1 with heap := h' } := I1.kept (t' := s1.toks) hk
  have fr : ∀ c, c ∈ [s1.heap.objs.size + 4, s1.heap.objs.size + 2, s1.heap.objs.size + 3, s1.heap.objs.size, s1.heap.objs.size + 1] → FpOk X pins H1 c := fun c hcm => by
    have hle : s1.heap.objs.size ≤ c := by
      rcases five.mp hcm with q | q | q | q | q
      all_goals rw [q]
      all_goals first | exact Nat.le_add_right _ _ | exact Nat.le_refl _
    exact I1.fpOk hle (I1.hok.fresh hle)
  refine wpAny_pure ⟨_, rfl, "zip", _, hT, F.slot_zip_next.lookup, ?_⟩
  exact ⟨s1.heap.objs.size + 4, _, _, _, H1, rfl, I2, turn_zipM S (Nat.ne_of_lt alt) (Nat.ne_of_lt (Nat.lt_succ_of_lt blt)), ⟨⟨.none, false, hz, .inl rfl⟩, hI, ⟨_, _, hO⟩, ⟨_, g1, rfl, rfl⟩, ⟨_, g2, rfl, rfl⟩⟩, fr, q⟩
end
end M22

set_option maxRecDepth 100000
set_option maxHeartbeats 4000000
/-! k22: lists of machines, changes, tables in the heap. -/
namespace M22
open PySem PySem.Spec PyProof.Rows L2
theorem pi_zipMK {X : Cx} (K : PySem.W.Frag) {tg e e2 : Expr} {ta : TA} {p pos : Pos} (hg : Gl X "zip") (hm : X.mg "zip" = none) (ha : PA X [e, e2] ta)
    (hs : starEach [e, e2] X.env = (false, eval e X.env) :: starEach [e2] X.env := by rfl) (hpl : (backTo pos (starEach [e2] X.env)).any (·.1) = false := by rfl) (h : X.K = K := by rfl) : PI X tg (.Call (.Name "zip" p) [e, e2] [] pos) (iZipM K ta) := h ▸ pi_zipM hg hm ha hs hpl
theorem pe_getNK {X : Cx} (K : PySem.W.Frag) (P : Program) (w : World) {κ : Type} [DecidableEq κ] {T : KTy κ} {o i : Expr} {pos : Pos} {td ty : TE} (hu : X.A.units + 64 < cLine) (ho : PE X o td) (hi : PE X i ty) (hs : NoSl i) (h : X.K = K := by rfl) (hP : X.prog = P := by rfl) (hw : X.w = w := by rfl) :
    PE X (.Subscript o i pos) (tGetN T K P w td ty) := by
  subst h hP hw
  exact pe_getN hu ho hi hs
section
variable {K : PySem.W.Frag} {CM CT : Addr} {H H' : Hp} {L l : Nat} {Ms : List Mach} {c d : Change} {i : Nat}
/-- machines at ms -/
def MsAt (K : PySem.W.Frag) (CM : Addr) (H : Hp) (L : Nat) (ms : List Addr) (Ms : List Mach) : Prop := ms.length = Ms.length ∧ ∀ (i : Nat) (m : Addr) (M : Mach), ms[i]? = some m → Ms[i]? = some M → MAt K CM H m L M.1 M.2
theorem MsAt.mono {ms : List Addr} (s : Same H H') (h : MsAt K CM H L ms Ms) : MsAt K CM H' L ms Ms := ⟨h.1, fun i m M a b => (h.2 i m M a b).mono s⟩
theorem get_ref {ms : List Addr} {x : V} (h : (ms.map V.ref)[i]? = some x) : ∃ m, ms[i]? = some m ∧ x = .ref m := by
  rw [List.getElem?_map] at h
  obtain ⟨n, hn, e⟩ := Option.map_eq_some_iff.mp h
  exact ⟨n, hn, e.symm⟩
/-- a change of these machines -/
def IsCh (Ms : List Mach) (c : Change) : Prop := c.length = Ms.length ∧ ∀ (i : Nat) (m : Mach) (r : List Nat), Ms[i]? = some m → c[i]? = some r → r.length = m.1.length ∧ ∀ s ∈ r, s < m.1.length
theorem IsCh.wc {w : List Nat} (h : ∀ m ∈ Ms, Whole L m.1) (hw : Wd L w) : IsCh Ms (M22.wc Ms w) := by
  refine ⟨by unfold M22.wc; rw [List.length_map], fun i m r h1 h2 => ?_⟩
  rw [wc_get Ms w h1] at h2
  cases h2
  refine ⟨by rw [List.length_map, List.length_range], fun s hs => ?_⟩
  obtain ⟨x, hx, rfl⟩ := List.mem_map.mp hs
  exact (h m (List.mem_of_getElem? h1)).run (List.mem_range.mp hx) hw
theorem changed_len : ∀ {Ms : List Mach} {c : Change}, c.length = Ms.length → (changed Ms c l).length = Ms.length
  | [], c, _ => by cases c <;> rfl
  | m :: Ms, [], h => by cases h
  | m :: Ms, r :: c, h => by
    show (changed Ms c l).length + 1 = Ms.length + 1
    rw [changed_len (Nat.succ.inj h)]
theorem changed_get : ∀ {Ms : List Mach} {c : Change} {i : Nat} {m : Mach} {r : List Nat}, Ms[i]? = some m → c[i]? = some r → (changed Ms c l)[i]? = some (r.map fun s => nx m.1 s l)
  | [], _, _, _, _, h, _ => by simp at h
  | _ :: _, [], _, _, _, _, h => by simp at h
  | m0 :: Ms, r0 :: c, 0, m, r, h1, h2 => by
    simp at h1 h2
    subst h1 h2
    rfl
  | m0 :: Ms, r0 :: c, i + 1, m, r, h1, h2 => by
    show (changed Ms c l)[i]? = _
    exact changed_get (by simpa using h1) (by simpa using h2)
theorem behind_len : ∀ {c d : Change}, c.length = d.length → (behind c d).length = c.length
  | [], [], _ => rfl
  | [], _ :: _, h => by cases h
  | _ :: _, [], h => by cases h
  | n :: c, f :: d, h => by
    show (behind c d).length + 1 = c.length + 1
    rw [behind_len (Nat.succ.inj h)]
theorem behind_get : ∀ {c d : Change} {i : Nat} {n f : List Nat}, c[i]? = some n → d[i]? = some f → (behind c d)[i]? = some (n.map fun s => f.getD s 0)
  | [], _, _, _, _, h, _ => by simp at h
  | _ :: _, [], _, _, _, _, h => by simp at h
  | n0 :: c, f0 :: d, 0, n, f, h1, h2 => by
    simp at h1 h2
    subst h1 h2
    rfl
  | n0 :: c, f0 :: d, i + 1, n, f, h1, h2 => by
    show (behind c d)[i]? = _
    exact behind_get (by simpa using h1) (by simpa using h2)
theorem Classes.ch {C : List Change} (Z : Classes L Ms C) (hc : c ∈ C) : IsCh Ms c := by
  obtain ⟨w, hw, rfl⟩ := Z.word c hc
  exact IsCh.wc (fun m hm => (Z.least m hm).whole) hw
/-! ### a table -/
abbrev tfs (lm : V) (L : Nat) (w c p k : V) : List (Str × V) := [("own_machines", lm), ("own_letters", vN L), ("own_words", w), ("own_changes", c), ("own_products", p), ("own_kept", k)]
theorem nML : ¬ (("own_machines" : Str) = "own_letters") := by decide +kernel
theorem nMW : ¬ (("own_machines" : Str) = "own_words") := by decide +kernel
theorem nMC : ¬ (("own_machines" : Str) = "own_changes") := by decide +kernel
theorem nMP : ¬ (("own_machines" : Str) = "own_products") := by decide +kernel
theorem nMK : ¬ (("own_machines" : Str) = "own_kept") := by decide +kernel
theorem nLW : ¬ (("own_letters" : Str) = "own_words") := by decide +kernel
theorem nLC : ¬ (("own_letters" : Str) = "own_changes") := by decide +kernel
theorem nLP : ¬ (("own_letters" : Str) = "own_products") := by decide +kernel
theorem nLK : ¬ (("own_letters" : Str) = "own_kept") := by decide +kernel
theorem nWC : ¬ (("own_words" : Str) = "own_changes") := by decide +kernel
theorem nWP : ¬ (("own_words" : Str) = "own_products") := by decide +kernel
theorem nWK : ¬ (("own_words" : Str) = "own_kept") := by decide +kernel
theorem nCP : ¬ (("own_changes" : Str) = "own_products") := by decide +kernel
theorem nCK : ¬ (("own_changes" : Str) = "own_kept") := by decide +kernel
theorem nPK : ¬ (("own_products" : Str) = "own_kept") := by decide +kernel
section
variable (lm w' c' p' k' : V) (L : Nat)
theorem tfs_M : (tfs lm L w' c' p' k').lookup ("own_machines" : Str) = some lm := by rw [look_cons, if_pos rfl]
theorem tfs_L : (tfs lm L w' c' p' k').lookup ("own_letters" : Str) = some (vN L) := by rw [look_cons, if_neg nML, look_cons, if_pos rfl]
theorem tfs_W : (tfs lm L w' c' p' k').lookup ("own_words" : Str) = some w' := by rw [look_cons, if_neg nMW, look_cons, if_neg nLW, look_cons, if_pos rfl]
theorem tfs_C : (tfs lm L w' c' p' k').lookup ("own_changes" : Str) = some c' := by rw [look_cons, if_neg nMC, look_cons, if_neg nLC, look_cons, if_neg nWC, look_cons, if_pos rfl]
theorem tfs_K : (tfs lm L w' c' p' k').lookup ("own_kept" : Str) = some k' := by rw [look_cons, if_neg nMK, look_cons, if_neg nLK, look_cons, if_neg nWK, look_cons, if_neg nCK, look_cons, if_neg nPK, look_cons, if_pos rfl]
theorem put1 : putF "own_machines" lm [] = [(("own_machines" : Str), lm)] := rfl
theorem put2 : putF "own_letters" (vN L) [(("own_machines" : Str), lm)] = [(("own_machines" : Str), lm), (("own_letters" : Str), vN L)] := by
  rw [putF_cons, if_neg nML]; rfl
theorem put3 : putF "own_words" w' [(("own_machines" : Str), lm), (("own_letters" : Str), vN L)] = [(("own_machines" : Str), lm), (("own_letters" : Str), vN L), (("own_words" : Str), w')] := by
  rw [putF_cons, if_neg nMW, putF_cons, if_neg nLW]; rfl
theorem put4 : putF "own_changes" c' [(("own_machines" : Str), lm), (("own_letters" : Str), vN L), (("own_words" : Str), w')] = [(("own_machines" : Str), lm), (("own_letters" : Str), vN L), (("own_words" : Str), w'), (("own_changes" : Str), c')] := by
  rw [putF_cons, if_neg nMC, putF_cons, if_neg nLC, putF_cons, if_neg nWC]; rfl
theorem put5 : putF "own_products" p' [(("own_machines" : Str), lm), (("own_letters" : Str), vN L), (("own_words" : Str), w'), (("own_changes" : Str), c')] = [(("own_machines" : Str), lm), (("own_letters" : Str), vN L), (("own_words" : Str), w'), (("own_changes" : Str), c'), (("own_products" : Str), p')] := by
  rw [putF_cons, if_neg nMP, putF_cons, if_neg nLP, putF_cons, if_neg nWP, putF_cons, if_neg nCP]; rfl
theorem put6 : putF "own_kept" k' [(("own_machines" : Str), lm), (("own_letters" : Str), vN L), (("own_words" : Str), w'), (("own_changes" : Str), c'), (("own_products" : Str), p')] = tfs lm L w' c' p' k' := by
  rw [putF_cons, if_neg nMK, putF_cons, if_neg nLK, putF_cons, if_neg nWK, putF_cons, if_neg nCK, putF_cons, if_neg nPK]; rfl
end
/-- at t a table stands, what it keeps at k -/
def TAt (K : PySem.W.Frag) (CM CT : Addr) (H : Hp) (t k : Addr) (L : Nat) (ms : List Addr) (Ms : List Mach) (C : List Change) : Prop :=
  ∃ dx lm wa wc' p ws kvs, Wo [k] H t = some (.ins CT dx (tfs (.ref lm) L (.ref wa) wc' p (.ref k))) ∧ SqL K (Wo [k] H) lm (ms.map V.ref) ∧ MsAt K CM (Wo [k] H) L ms Ms ∧ SqL K (Wo [k] H) wa ws ∧ ws.length = C.length ∧
    Dp K (Wo [k] H) wc' (.list (C.map dTT)) ∧ H k = some (.dK kvs) ∧ (kvs = [] ∨ ∃ r, kvs = [((Sum.inr "rows" : Key), r)] ∧ Dp K (Wo [k] H) r (dLL (rowsC L Ms C))) ∧ Classes L Ms C ∧ C.length ≤ 10 ∧ 0 < L ∧ L ≤ 2 ∧ Ms.length ≤ 2 ∧ 0 < Ms.length ∧ (∀ m ∈ Ms, m.1.length ≤ 60)
theorem TAt.mono {t k : Addr} {ms : List Addr} {C : List Change} (s : Same H H') (h : TAt K CM CT H t k L ms Ms C) : TAt K CM CT H' t k L ms Ms C := by
  obtain ⟨dx, lm, wa, wc', p, ws, kvs, h1, h2, h3, h4, h5, h6, h7, h8, h9⟩ := h
  have s' := wo_mono (M := [k]) s
  exact ⟨dx, lm, wa, wc', p, ws, kvs, s' _ _ h1, s'.seq h2, h3.mono s', s'.seq h4, h5, dp_mono s' h6, s _ _ h7, h8.imp id fun ⟨r, e, d⟩ => ⟨r, e, dp_mono s' d⟩, h9⟩
end
section
variable {K : PySem.W.Frag} {a b : Addr}
theorem walk_zipTT {xs ys : List V} {n : Nat} (h1 : xs.length = n) (h2 : ys.length = n) : Walk (RZ.ItzT K a b) n (fun H => SqT K H a xs ∧ SqT K H b ys) (YPair (fun i => xs[i]?) (fun i => ys[i]?)) := by
  refine ⟨fun i _ hi q => ?_, fun _ q => ⟨xs, ys, q.1, q.2, .inl (by omega)⟩, fun i H v H' _ q y => ?_⟩
  · obtain ⟨x, hx⟩ := get_some (show i < xs.length by omega)
    obtain ⟨y, hy⟩ := get_some (show i < ys.length by omega)
    exact ⟨xs, ys, x, y, q.1, q.2, hx, hy⟩
  · obtain ⟨T, x, z, e1, e2, e3, e4, e5⟩ := y
    exact ⟨T, x, z, e1, e2, e3, e4 xs q.1, e5 ys q.2⟩
theorem rgV_nat (n : Nat) : rgV 0 (n : Int) = (List.range n).map vN := by
  unfold rgV
  rw [show ((n : Int) - 0).toNat = n by omega]
  refine List.map_congr_left fun i _ => ?_
  show V.int (0 + (i : Int)) = V.int i
  rw [Int.zero_add]
theorem rgOk_nat {n : Nat} (h : n ≤ 1000) : RgOk 0 (n : Int) := RgOk.of_le (by decide) (by omega) (by decide) (by omega)
end
section
variable {K : PySem.W.Frag} {H : Hp} {M : List Addr} {v : V}
/-- no tuple stands at these -/
def NoTup (M : List Addr) (H : Hp) : Prop := ∀ b ∈ M, ∀ xs, ¬ Rd H b (.tup xs)
theorem noTup_of {b : Addr} {o : HO} (h : H b = some o) (h1 : ∀ xs, o ≠ .tup xs) (h2 : ∀ ob xs, o ≠ .frz ob (.tup xs)) : ∀ xs, ¬ Rd H b (.tup xs) := by
  rintro xs (z | ⟨ob, z⟩)
  · rw [h] at z; cases z; exact h1 _ rfl
  · rw [h] at z; cases z; exact h2 _ _ rfl
theorem seqT_outM (n : NoTup M H) {a : Addr} {xs : List V} (s : SqT K H a xs) : SqT K (Wo M H) a xs := by
  rcases s with s | s
  · have hn : ¬ a ∈ M := fun z => n a z xs s
    exact .inl (s.imp (fun e => by rw [wo_out hn]; exact e) fun ⟨o, e⟩ => ⟨o, by rw [wo_out hn]; exact e⟩)
  · exact .inr s
theorem dpT_outM (n : NoTup M H) {ns : List Nat} (h : Dp K H v (dT ns)) : Dp K (Wo M H) v (dT ns) := by
  obtain ⟨a, rfl, s⟩ := t_of h
  exact dp_t (seqT_outM n s)
theorem dpAllT_outM (n : NoTup M H) : ∀ {c : Change} {vs : List V}, DpAll K H vs (c.map dT) → DpAll K (Wo M H) vs (c.map dT)
  | [], _, h => by cases h; exact .nil
  | r :: c, _, h => by
    cases h with
    | cons a b => exact .cons (dpT_outM n a) (dpAllT_outM n b)
theorem dpTT_outM (n : NoTup M H) {c : Change} (h : Dp K H v (dTT c)) : Dp K (Wo M H) v (dTT c) := by
  obtain ⟨a, xs, rfl, s, d⟩ := tup_of h
  exact .tup (seqT_outM n s) (dpAllT_outM n d)
theorem range_split {α : Type} (f : Nat → α) {i L : Nat} (h : i ≤ L) : (List.range L).map f = (List.range i).map f ++ ((List.range L).drop i).map f := by
  rw [← List.map_append]
  congr 1
  conv => lhs; rw [← List.take_append_drop i (List.range L)]
  rw [List.take_range, Nat.min_eq_left h]
end
section
variable {D : Addr} {H0 H H4 : Hp} {i n : Nat} {y : V} {J : It} {G : Hp → Prop} {Y : Nat → Hp → V → Hp → Prop}
/-- a list that a comprehension makes, of anything -/
def LcQ (D : Addr) (H0 : Hp) (i : Nat) (H : Hp) : Prop := ∃ acc, H D = some (.lst acc) ∧ Same H0 (Wo [D] H) ∧ acc.length ≤ i
abbrev LcR (D : Addr) (H0 : Hp) (i : Nat) (y : V) (H4 : Hp) : Prop := ∃ acc, H4 D = some (.lst acc) ∧ acc.length < sizeLine ∧ LcQ D H0 (i + 1) (upd H4 D (.lst (acc ++ [y])))
theorem LcQ.zero (hD : H0 D = none) : LcQ D H0 0 (upd H0 D (.lst [])) := by
  refine ⟨[], upd_same, ?_, Nat.le_refl _⟩
  rw [wo_upd in1]
  intro b o e
  rw [wo_out fun z => by rw [List.mem_singleton.mp z, hD] at e; cases e]
  exact e
theorem LcQ.same (p : LcQ D H0 i H) : Same H0 H := by
  obtain ⟨_, _, s, _⟩ := p
  exact Same.trans s (wo_same _ _)
theorem LcQ.some (p : LcQ D H0 i H) : H D ≠ none := by
  obtain ⟨acc, h1, _⟩ := p
  rw [h1]
  exact fun z => nomatch z
theorem LcQ.put (p : LcQ D H0 i H) (hi : i < sizeLine) (hH : H4 D = H D) (s : Same (Wo [D] H) (Wo [D] H4)) : LcR D H0 i y H4 := by
  obtain ⟨acc, h1, h2, h4⟩ := p
  refine ⟨acc, hH.trans h1, by omega, acc ++ [y], upd_same, ?_, by rw [List.length_append, List.length_singleton]; omega⟩
  rw [wo_upd in1]
  exact Same.trans h2 s
theorem lc_q (w : Walk J n G Y) {g : TG} {tt : TT} {te : TE} {vs : List Nat} {σ : L2.St} {Qd : Hp → Prop} (hD : H0 D = none) (hG : ∀ H, Same H0 H → G H)
    (hs : ∀ i x H H', i < n → LcQ D H0 i H → Y i H x H' → g x (wipe σ vs) H' fun σ2 H2 => wipe σ2 vs = wipe σ vs ∧ tt σ2 H2 fun b H3 => if b = true then te σ2 H3 fun y H4 => LcR D H0 i y H4 else LcQ D H0 (i + 1) H3)
    (hd : ∀ acc H, H D = some (.lst acc) → Same H0 (Wo [D] H) → Qd H) :
    ∃ W : Nat → Nat → Hp → Prop, (∃ m, W 0 m (upd H0 D (.lst []))) ∧ ∀ i m H, W i m H →
      (J.stop i H ∧ Qd H) ∨ (J.go i H ∧ ∃ Nx : Hp → Prop, (∀ H', Nx H' → ∃ m', m' < m ∧ W (i + 1) m' H') ∧ ∀ x H', J.yld i H x H' → g x (wipe σ vs) H' fun σ2 H2 => wipe σ2 vs = wipe σ vs ∧ tt σ2 H2 fun b H3 =>
        if b = true then te σ2 H3 fun y H4 => ∃ acc, H4 D = some (.lst acc) ∧ acc.length < sizeLine ∧ Nx (upd H4 D (.lst (acc ++ [y]))) else Nx H3) :=
  lc_it w (LcQ D H0) (LcQ.zero hD) (fun i H _ p => hG H p.same) hs fun H ⟨acc, h1, h2, _⟩ => hd acc H h1 h2
end
section
variable {K : PySem.W.Frag} {H H' : Hp} {M N : List Addr}
theorem dpAllTT_outM (n : NoTup M H) : ∀ {C : List Change} {vs : List V}, DpAll K H vs (C.map dTT) → DpAll K (Wo M H) vs (C.map dTT)
  | [], _, h => by cases h; exact .nil
  | r :: c, _, h => by
    cases h with
    | cons a b => exact .cons (dpTT_outM n a) (dpAllTT_outM n b)
/-- what lives where no tuple stands stays so -/
theorem NoTup.same (n : NoTup N H) (hN : ∀ b ∈ N, H b ≠ none) (s : ∀ b ∈ N, ∀ o, H b = some o → H' b = some o) : NoTup N H' := fun b hb xs z => by
  obtain ⟨o, ho⟩ := Option.ne_none_iff_exists'.mp (hN b hb)
  have h' := s b hb o ho
  refine n b hb xs ?_
  rcases z with z | ⟨ob, z⟩
  · rw [h'] at z; cases z; exact .inl ho
  · rw [h'] at z; cases z; exact .inr ⟨ob, ho⟩
theorem NoTup.wo (n : NoTup N H) : NoTup N (Wo M H) := fun b hb xs z => by
  refine n b hb xs ?_
  rcases z with z | ⟨ob, z⟩
  · exact .inl (wo_same _ _ _ _ z)
  · exact .inr ⟨ob, wo_same _ _ _ _ z⟩
end
section
variable {H : Hp} {r : Addr} {N : List Addr} {o : HO}
theorem wo2_upd : Wo [r] (Wo N (upd H r o)) = Wo [r] (Wo N H) := by
  rw [wo_wo, wo_wo, wo_upd (by simp)]
theorem wo2_mono {M : List Addr} {H H' : Hp} (s : Same H H') : Same (Wo M (Wo N H)) (Wo M (Wo N H')) := wo_mono (wo_mono s)
theorem wo2_same {M : List Addr} {H : Hp} : Same (Wo M (Wo N H)) H := Same.trans (wo_same _ _) (wo_same _ _)
end
theorem first_at {C : List Change} {c : Change} (nd : C.Nodup) (m : Nat) (z : PyData) (h : m < C.idxOf c) (e : (C.map dTT)[m]? = some z) : PyData.eqv z (dTT c) = false := by
  rw [List.getElem?_map] at e
  obtain ⟨d, hd, rfl⟩ := Option.map_eq_some_iff.mp e
  rw [eqv_dec eq_dTT]
  refine decide_eq_false fun q => ?_
  subst q
  rw [idxOf_getA nd hd] at h
  exact absurd h (Nat.lt_irrefl _)
theorem flat_C (C : List Change) : Flat 3 (.list (C.map dTT)) := flat_list (flat_map flat_dTT C)
section
variable {K : PySem.W.Frag} {H : Hp} {p : Addr}
structure NoSeq (H : Hp) (p : Addr) : Prop where
  l : ∀ xs, ¬ Rd H p (.lst xs)
  t : ∀ xs, ¬ Rd H p (.tup xs)
theorem NoSeq.dK {kvs : List (Key × V)} (h : H p = some (.dK kvs)) : NoSeq H p :=
  ⟨fun xs z => by rcases z with z | ⟨o, z⟩ <;> (rw [h] at z; cases z), fun xs z => by rcases z with z | ⟨o, z⟩ <;> (rw [h] at z; cases z)⟩
theorem rd_out {a : Addr} {o : HO} (n : a ≠ p) (h : Rd H a o) : Rd (Wo [p] H) a o := by
  have hn : ¬ a ∈ [p] := fun z => n (List.mem_singleton.mp z)
  exact h.imp (fun e => by rw [wo_out hn]; exact e) fun ⟨o, e⟩ => ⟨o, by rw [wo_out hn]; exact e⟩
mutual
theorem dp_outX (n : NoSeq H p) : ∀ {v : V} {d : PyData}, Dp K H v d → Dp K (Wo [p] H) v d
  | _, _, .non => .non
  | _, _, .bl b => .bl b
  | _, _, .int i => .int i
  | _, _, .str x => .str x
  | _, _, .lst s a => .lst (s.imp (fun z => rd_out (fun e => n.l _ (e ▸ z)) z) id) (dpAll_outX n a)
  | _, _, .tup s a => .tup (s.imp (fun z => rd_out (fun e => n.t _ (e ▸ z)) z) id) (dpAll_outX n a)
theorem dpAll_outX (n : NoSeq H p) : ∀ {vs : List V} {ds : List PyData}, DpAll K H vs ds → DpAll K (Wo [p] H) vs ds
  | _, _, .nil => .nil
  | _, _, .cons a b => .cons (dp_outX n a) (dpAll_outX n b)
end
end
section
variable {κ : Type} [DecidableEq κ] {T : KTy κ} {P : Program} {w : World} {d : Addr} {o : Obj} {es : Ents κ}
theorem walk_keysN : Walk (ItkN T P w d o es) es.length (fun H => H d = some (.frz o (dnO T P w d es))) (fun i H x H' => H' = H ∧ ∃ k b v, es[i]? = some (k, b, v) ∧ x = .ref b) :=
  ⟨fun _ _ hi q => ⟨q, hi⟩, fun _ q => ⟨q, Nat.le_refl _⟩, fun _ _ _ _ _ _ y => y⟩
end
/-- a pair of numbers as data -/
abbrev dP (p : Nat × Nat) : PyData := dT [p.1, p.2]
theorem eq_dP : EqAs dP := fun x y => by
  have := eq_dT [x.1, x.2] [y.1, y.2]
  rw [this]
  constructor
  · intro h
    simp only [List.cons.injEq, and_true] at h
    exact Prod.ext h.1 h.2
  · intro h; rw [h]
theorem flat_dP (p : Nat × Nat) : Flat 1 (dP p) := flat_dT _
theorem ne_nil {α : Type} [DecidableEq α] {f : α → PyData} (h : EqAs f) (l : List α) : PyData.eqv (.list (l.map f)) (.list []) = decide (l = []) := eqv_dec (eq_list h) l []
theorem nxP_get {L : Nat} {A B : Steps} {p : Nat × Nat} {i : Nat} {r1 r2 : List Nat} {x y : Nat} (h1 : A[p.1]? = some r1) (h2 : B[p.2]? = some r2) (hi : i < L) (hx : r1[i]? = some x) (hy : r2[i]? = some y) : (nxP L A B p)[i]? = some (x, y) := by
  unfold nxP
  rw [List.getElem?_map, List.getElem?_range hi]
  show some (M22.nx A p.1 i, M22.nx B p.2 i) = _
  unfold M22.nx
  rw [getD_of h1, getD_of h2, getD_of hx, getD_of hy]
theorem nxP_len {L : Nat} {A B : Steps} {p : Nat × Nat} : (nxP L A B p).length = L := by unfold nxP; rw [List.length_map, List.length_range]
section
variable {K : PySem.W.Frag} {CM m : Addr} {H : Hp} {N : List Addr} {L : Nat} {Tt : Steps} {F : List Nat}
theorem mAt_outM (n : NoTup N H) (hm : ¬ m ∈ N) (h : MAt K CM H m L Tt F) : MAt K CM (Wo N H) m L Tt F := by
  obtain ⟨dx, a, b, h1, h2, h3, h4⟩ := h
  exact ⟨dx, a, b, by rw [wo_out hm]; exact h1, dpTT_outM n h2, dpT_outM n h3, h4⟩
theorem mAt_ne {o : HO} {p : Addr} (h : MAt K CM H m L Tt F) (hp : H p = some o) (hi : ∀ C dx fs, o ≠ .ins C dx fs) : m ≠ p := by
  obtain ⟨dx, a, b, h1, _⟩ := h
  intro e
  rw [e, hp] at h1
  cases h1
  exact hi _ _ _ rfl
end
section
variable {K : PySem.W.Frag} {CM m p : Addr} {H : Hp} {L : Nat} {Tt : Steps} {F : List Nat}
theorem mAt_outX (n : NoSeq H p) (hm : m ≠ p) (h : MAt K CM H m L Tt F) : MAt K CM (Wo [p] H) m L Tt F := by
  obtain ⟨dx, a, b, h1, h2, h3, h4⟩ := h
  exact ⟨dx, a, b, by rw [wo_out fun z => hm (List.mem_singleton.mp z)]; exact h1, dp_outX n h2, dp_outX n h3, h4⟩
/-- what was not there ahead of a call that changes what is at p -/
theorem none_back {H' : Hp} {q : Addr} {o : HO} (w : Same (Wo [p] H) (Wo [p] H')) (hp : H p = some o) (h' : H' p ≠ none) (hq : H' q = none) : H q = none := by
  cases e : H q with
  | none => rfl
  | some u =>
    have : q ≠ p := fun z => h' (by rw [← z]; exact hq)
    rw [wo_at w e fun z => this (List.mem_singleton.mp z)] at hq
    cases hq
/-- the numbers of a rising list of ints -/
theorem rising_of {ns : List Int} (pw : ns.Pairwise (· < ·)) (hn : ∀ k ∈ ns, ∃ n : Nat, k = n) : ∃ due : List Nat, ns = due.map (fun n : Nat => (n : Int)) ∧ Rising due := by
  obtain ⟨due, rfl⟩ := nat_list hn
  refine ⟨due, rfl, ?_⟩
  have := List.pairwise_map.mp pw
  exact this.imp fun h => by omega
theorem mem_cast {l : List Nat} {n : Nat} : (n : Int) ∈ l.map (fun n : Nat => (n : Int)) ↔ n ∈ l := by
  constructor
  · intro h
    obtain ⟨m, hm, e⟩ := List.mem_map.mp h
    have e : (m : Int) = n := e
    rw [← show m = n by omega]; exact hm
  · intro h; exact List.mem_map.mpr ⟨n, h, rfl⟩
theorem nodup_cast : ∀ {ys : List Nat}, (ys.map fun n : Nat => (n : Int)).Nodup → ys.Nodup
  | [], _ => List.nodup_nil
  | y :: ys, h => by
    obtain ⟨a, b⟩ := List.nodup_cons.mp h
    exact List.nodup_cons.mpr ⟨fun z => a (List.mem_map.mpr ⟨y, z, rfl⟩), nodup_cast b⟩
/-- a set of numbers is small -/
theorem few_of {l : List Nat} {b c : Nat} (hb : ∀ n ∈ l, n < b) (hc : ∀ ks : List Int, ks.Nodup → (∀ k, k ∈ ks ↔ k ∈ l.map fun n : Nat => (n : Int)) → ks.length = c) : c ≤ b := by
  obtain ⟨ks, n1, n2, _⟩ := dedup (l.map fun n : Nat => (n : Int))
  have e := hc ks n1 n2
  obtain ⟨ys, rfl⟩ := nat_list (ks := ks) fun k hk => by
    obtain ⟨n, _, e⟩ := List.mem_map.mp ((n2 k).mp hk)
    exact ⟨n, e.symm⟩
  have nd : ys.Nodup := nodup_cast n1
  rw [List.length_map] at e
  rw [← e]
  exact nodup_bound nd fun y hy => hb y (mem_cast.mp ((n2 _).mp (mem_cast.mpr hy)))
end
theorem dpAll_split {K : PySem.W.Frag} {H : Hp} {d : PyData} : ∀ {ds : List PyData} {vs : List V}, DpAll K H vs (ds ++ [d]) → ∃ vs0 u, vs = vs0 ++ [u] ∧ DpAll K H vs0 ds ∧ Dp K H u d
  | [], _, h => by
    cases h with
    | cons a b => cases b; exact ⟨[], _, rfl, .nil, a⟩
  | e :: ds, _, h => by
    cases h with
    | cons a b =>
      obtain ⟨vs0, u, rfl, p, q⟩ := dpAll_split b
      exact ⟨_ :: vs0, u, rfl, .cons a p, q⟩
theorem Dfs.left_nodup {α : Type} [DecidableEq α] {next : α → List α} {a : α} {m l : List α} (d : Dfs next a m l) : l.Nodup := by
  induction d with
  | start => exact List.nodup_cons.mpr ⟨List.not_mem_nil, List.nodup_nil⟩
  | @turn met left x d ih =>
    have nd := addAll_nodup (xs := next x) d.nodup
    obtain ⟨t, e⟩ := addAll_prefix met (next x)
    rw [← e] at nd
    obtain ⟨n1, n2, n3⟩ := List.nodup_append.mp nd
    rw [← e, List.drop_left]
    refine List.nodup_append.mpr ⟨(List.nodup_append.mp ih).1, n2, fun y hy z hz => ?_⟩
    exact n3 y (d.sub y (List.mem_append_left _ hy)) z hz
section
variable {K : PySem.W.Frag} {D : Addr} {N : List Addr} {H0 H H4 : Hp} {F : Nat → List PyData} {i : Nat} {y : V} {d : PyData} {o : HO}
theorem upd_wo (h : ¬ D ∈ N) : upd (Wo N H) D o = Wo N (upd H D o) := by
  funext b
  by_cases q : b = D
  · subst q; rw [upd_same, wo_out h, upd_same]
  · rw [upd_ne q]
    by_cases r : b ∈ N
    · rw [wo_in r, wo_in r]
    · rw [wo_out r, wo_out r, upd_ne q]
/-- as LcP.put, some addresses left out -/
theorem LcP.putN (hD : ¬ D ∈ N) (p : LcP K D (Wo N H0) F i (Wo N H)) (hi : i < sizeLine) (hH : H4 D = H D) (s : Same (Wo [D] (Wo N H)) (Wo [D] (Wo N H4))) (hy : Dp K (Wo [D] (Wo N H4)) y d) (e : F (i + 1) = F i ++ [d]) :
    ∃ acc : List V, H4 D = Option.some (HO.lst acc) ∧ acc.length < sizeLine ∧ LcP K D (Wo N H0) F (i + 1) (Wo N (upd H4 D (HO.lst (acc ++ [y])))) := by
  have q : LcN K D (Wo N H0) F i y (Wo N H4) := p.put hi (by rw [wo_out hD, wo_out hD]; exact hH) s hy e
  obtain ⟨acc, a1, a2, a3⟩ := q
  rw [wo_out hD] at a1
  rw [upd_wo hD] at a3
  exact ⟨acc, a1, a2, a3⟩
theorem LcP.zeroN (hD : ¬ D ∈ N) (hn : H0 D = none) (f0 : F 0 = []) : LcP K D (Wo N H0) F 0 (Wo N (upd H0 D (.lst []))) := by
  rw [← upd_wo hD]
  exact LcP.zero (by rw [wo_out hD]; exact hn) f0
theorem LcP.atN (hD : ¬ D ∈ N) (p : LcP K D (Wo N H0) F i (Wo N H)) : ∃ acc : List V, H D = Option.some (HO.lst acc) ∧ acc.length ≤ i := by
  obtain ⟨acc, a1, _, _, a4⟩ := p
  rw [wo_out hD] at a1
  exact ⟨acc, a1, a4⟩
theorem LcP.skipN (p : LcP K D (Wo N H0) F i (Wo N H)) (hD : ¬ D ∈ N) (hH : H4 D = H D) (s : Same (Wo [D] (Wo N H)) (Wo [D] (Wo N H4))) (e : F (i + 1) = F i) : LcP K D (Wo N H0) F (i + 1) (Wo N H4) :=
  p.skip (by rw [wo_out hD, wo_out hD]; exact hH) s e
end
theorem item_nat {i : Nat} : V.int (0 + (i : Int)) = vN i := by
  show V.int (0 + (i : Int)) = V.int i
  rw [Int.zero_add]
theorem range_get {n i : Nat} (h : i < n) : (List.range n)[i]? = some i := List.getElem?_range h
end M22

set_option maxRecDepth 100000
set_option maxHeartbeats 4000000
namespace M22
open PySem PySem.Spec PyProof.Rows L2
section
variable {P : Program} {w : World} {K : PySem.W.Frag} {mg : Str → Option Value} {base : Heap} {CM CT : Addr}
def spIsInt : Sp := fun vs H Q _ => ∃ i : Int, vs = [.int i] ∧ Q (.bl true) H
abbrev s_is_integer : Stmt := top 16
abbrev N_is_integer : List Str := ["value"]
theorem sc_is_integer : FnScope N_is_integer ["value"] (defScope s_is_integer) := ⟨rfl, rfl, rfl, by decide +kernel, rfl, by decide +kernel, by decide +kernel⟩
theorem ok_is_integer (T : Tx K mg CM CT) (D : DefAt K mg "is_integer" s_is_integer)  : Cal P w K mg base 1 "is_integer" ["value"] spIsInt := by
  refine cal_of D sc_is_integer (fun _ _ _ _ _ _ us hl => match us, hl with | [_], _ => rfl) (fun vs H Q E h => ?_) (fun f cdv A outer s H vs Q E hr h => ?_)
  · obtain ⟨_, rfl, _⟩ := h
    rfl
  have hu := hu_of hr
  obtain ⟨i, rfl, k⟩ := h
  refine ⟨_, (pss_one (ps_ret (pe_and (pe_callB (call_isiK K) (by rfl) T.isinstance (by decide +kernel) (pa_cons (pv 0) (pa_cons (pe_bltn (by rfl) T.int (by decide +kernel) (v := V.ty "int") rfl) pa_nil))) (pe_one (pe_not (pe_callB (call_isiK K) (by rfl) T.isinstance (by decide +kernel) (pa_cons (pv 0) (pa_cons (pe_bltn (by rfl) T.bool (by decide +kernel) (v := V.ty "bool") rfl) pa_nil)))))))), ?_⟩
  refine ⟨_, rfl, .int i, .ty "int", _, _, true, rfl, .ty _, .base (.int i), kit_ty (by decide +kernel), true, rfl, ?_⟩
  refine iteT ?_
  refine ⟨_, rfl, .int i, .ty "bool", _, _, false, rfl, .ty _, .base (.int i), kit_ty (by decide +kernel), false, rfl, ?_⟩
  exact k
def spIsCount : Sp := fun vs H Q _ => ∃ i : Int, vs = [.int i] ∧ Q (.bl (decide (0 ≤ i))) H
abbrev s_is_count : Stmt := top 17
abbrev N_is_count : List Str := ["value"]
theorem sc_is_count : FnScope N_is_count ["value"] (defScope s_is_count) := ⟨rfl, rfl, rfl, by decide +kernel, rfl, by decide +kernel, by decide +kernel⟩
theorem ok_is_count (T : Tx K mg CM CT) (D : DefAt K mg "is_count" s_is_count) (c_is_integer : Cal P w K mg base 1 "is_integer" ["value"] spIsInt) : Cal P w K mg base 2 "is_count" ["value"] spIsCount := by
  refine cal_of D sc_is_count (fun _ _ _ _ _ _ us hl => match us, hl with | [_], _ => rfl) (fun vs H Q E h => ?_) (fun f cdv A outer s H vs Q E hr h => ?_)
  · obtain ⟨_, rfl, _⟩ := h
    rfl
  have hu := hu_of hr
  obtain ⟨i, rfl, k⟩ := h
  refine ⟨_, (pss_one (ps_ret (pe_and (pe_c c_is_integer hr (by decide) rfl (pa_cons (pv 0) pa_nil)) (pe_one (pe_cmpR op_ge (pv 0) pe_int (nomark _)))))), ?_⟩
  refine ⟨_, rfl, i, rfl, true, rfl, iteT ?_⟩
  refine ⟨_, rfl, _, _, rfl, rfl, ?_⟩
  exact k
/-- a list or a tuple at a -/
def Seq (K : PySem.W.Frag) (H : Hp) (a : Addr) : Prop := ∃ xs, SqL K H a xs ∨ SqT K H a xs
theorem tyx_l {K : PySem.W.Frag} {H : Hp} {a : Addr} {xs : List V} (h : SqL K H a xs) : TyX K H (.ref a) (.type "list") := by
  rcases h with (h | ⟨o, h⟩) | ⟨o, its, n, e, c, _⟩
  · exact .base (.lst h)
  · exact .base (.frz h)
  · exact .kList e c
theorem tyx_t {K : PySem.W.Frag} {H : Hp} {a : Addr} {xs : List V} (h : SqT K H a xs) : TyX K H (.ref a) (.type "tuple") := by
  rcases h with (h | ⟨o, h⟩) | ⟨o, its, n, e, c, _⟩
  · exact .base (.tup h)
  · exact .fTuple h
  · exact .kTuple e c
def spIsList (K : PySem.W.Frag) : Sp := fun vs H Q _ => ∃ a : Addr, vs = [.ref a] ∧ Seq K H a ∧ ∀ H', Same H H' → Q (.bl true) H'
abbrev s_is_list : Stmt := top 18
abbrev N_is_list : List Str := ["value"]
theorem sc_is_list : FnScope N_is_list ["value"] (defScope s_is_list) := ⟨rfl, rfl, rfl, by decide +kernel, rfl, by decide +kernel, by decide +kernel⟩
theorem ok_is_list (T : Tx K mg CM CT) (D : DefAt K mg "is_list" s_is_list)  : Cal P w K mg base 1 "is_list" ["value"] (spIsList K) := by
  refine cal_of D sc_is_list (fun _ _ _ _ _ _ us hl => match us, hl with | [_], _ => rfl) (fun vs H Q E h => ?_) (fun f cdv A outer s H vs Q E hr h => ?_)
  · obtain ⟨_, rfl, _⟩ := h
    rfl
  have hu := hu_of hr
  obtain ⟨a, rfl, ⟨xs, hx⟩, k⟩ := h
  refine ⟨_, (pss_one (ps_ret (pe_callB (call_isiTK K) (by rfl) T.isinstance (by decide +kernel) (pa_cons (pv 0) (pa_cons (pe_tup (pa_cons (pe_bltn (by rfl) T.list (by decide +kernel) (v := V.ty "list") rfl) (pa_cons (pe_bltn (by rfl) T.tuple (by decide +kernel) (v := V.ty "tuple") rfl) pa_nil))) pa_nil))))), ?_⟩
  refine ⟨_, rfl, by show 2 ≤ sizeLine; decide, fun p hp => ?_⟩
  have s0 : Same H (upd H p (.tup [V.ty "list", V.ty "tuple"])) := same_new hp
  rcases hx with hx | hx
  · exact ⟨.ref a, p, _, _, _, true, rfl, upd_same, .cons (.ty "list") (.cons (.ty "tuple") .nil), tyx_l (s0.seq hx), kitAny_cons (kit_ty (b := "list") (r := true) (by decide +kernel)) (fun z => nomatch z) (fun _ => rfl), k _ s0⟩
  · exact ⟨.ref a, p, _, _, _, true, rfl, upd_same, .cons (.ty "list") (.cons (.ty "tuple") .nil), tyx_t (Same.seqT s0 hx), kitAny_cons (kit_ty (b := "list") (r := false) (by decide +kernel)) (fun _ => kitAny_cons (kit_ty (b := "tuple") (r := true) (by decide +kernel)) (fun z => nomatch z) (fun _ => rfl)) (fun z => nomatch z), k _ s0⟩
def spMost : Sp := fun vs H Q _ => ∃ (x : V) (i j : Int), vs = [x, .int i, .int j] ∧ j ≤ i ∧ Q .non H
abbrev s_want_at_most : Stmt := top 19
abbrev N_want_at_most : List Str := ["what", "limit", "number"]
theorem sc_want_at_most : FnScope N_want_at_most ["what", "limit", "number"] (defScope s_want_at_most) := ⟨rfl, rfl, rfl, by decide +kernel, rfl, by decide +kernel, by decide +kernel⟩
theorem ok_want_at_most (T : Tx K mg CM CT) (D : DefAt K mg "want_at_most" s_want_at_most)  : Cal P w K mg base 1 "want_at_most" ["what", "limit", "number"] spMost := by
  refine cal_of D sc_want_at_most (fun _ _ _ _ _ _ us hl => match us, hl with | [_, _, _], _ => rfl) (fun vs H Q E h => ?_) (fun f cdv A outer s H vs Q E hr h => ?_)
  · obtain ⟨_, _, _, rfl, _⟩ := h
    rfl
  have hu := hu_of hr
  obtain ⟨x, i, j, rfl, hij, k⟩ := h
  refine ⟨_, (pss_one (ps_if (pt_cmpR op_gt (pv 2) (pv 1) (nomark _)) (pss_one ps_never) pss_nil)), ?_⟩
  refine ⟨_, rfl, _, rfl, _, _, rfl, rfl, _, rfl, ?_⟩
  rw [show decide (j > i) = false from decide_eq_false (by omega)]
  exact iteF k
def spWantLetters : Sp := fun vs H Q _ => ∃ i : Int, vs = [.int i] ∧ 1 ≤ i ∧ i ≤ 3 ∧ Q .non H
abbrev s_want_letters : Stmt := top 24
abbrev N_want_letters : List Str := ["value"]
theorem sc_want_letters : FnScope N_want_letters ["value"] (defScope s_want_letters) := ⟨rfl, rfl, rfl, by decide +kernel, rfl, by decide +kernel, by decide +kernel⟩
theorem ok_want_letters (T : Tx K mg CM CT) (D : DefAt K mg "want_letters" s_want_letters) (c_is_count : Cal P w K mg base 2 "is_count" ["value"] spIsCount) : Cal P w K mg base 3 "want_letters" ["value"] spWantLetters := by
  refine cal_of D sc_want_letters (fun _ _ _ _ _ _ us hl => match us, hl with | [_], _ => rfl) (fun vs H Q E h => ?_) (fun f cdv A outer s H vs Q E hr h => ?_)
  · obtain ⟨_, rfl, _⟩ := h
    rfl
  have hu := hu_of hr
  obtain ⟨i, rfl, h1, h3, k⟩ := h
  refine ⟨_, (pss_one (ps_if (PW.pt (pw_or (pt_not (pt_val (pe_c c_is_count hr (by decide) rfl (pa_cons (pv 0) pa_nil)))) (pw_or1 (pt_not (pt_chain op_le op_le pe_int (pv 0) (pe_g (by rfl) T.MOST_LETTERS)))))) (pss_one ps_never) pss_nil)), ?_⟩
  refine ⟨_, rfl, i, rfl, decide (0 ≤ i), rfl, ifF (by simp; omega) ?_⟩
  exact ⟨_, rfl, _, _, rfl, rfl, _, rfl, ifT (decide_eq_true h1) ⟨_, _, rfl, rfl, _, rfl, ifF (by simp [h3]) k⟩⟩
/-! ### words -/
/-- a word's text -/
abbrev sW (w : List Nat) : Str := ⟨(w.map fun l => 97 + l).toArray⟩
theorem sW_len (w : List Nat) : (sW w).length = w.length := by simp [sW, Str.length]
theorem sW_get {w : List Nat} {i c : Nat} (h : (sW w).cps[i]? = some c) : ∃ l, w[i]? = some l ∧ c = 97 + l := by
  have h : (w.map fun l => 97 + l)[i]? = some c := by simpa [sW] using h
  rw [List.getElem?_map] at h
  obtain ⟨l, hl, e⟩ := Option.map_eq_some_iff.mp h
  exact ⟨l, hl, e.symm⟩
theorem abc_in : ∀ L : Nat, L < 4 → ∀ l : Nat, l < L → decide (97 + l ∈ (cutS "abc" none (some ((L : Nat) : Int))).cps.toList) = true := by decide +kernel
theorem abc_at : ∀ l : Nat, l < 3 → Builtin.Str.occurrences "abc" ⟨#[97 + l]⟩ 0 ("abc" : Str).length 1 = [l] := by decide +kernel
def spIsWord (K : PySem.W.Frag) : Sp := fun vs H Q _ => ∃ (L : Nat) (w : List Nat), vs = [vN L, .str (sW w)] ∧ L < 4 ∧ Wd L w ∧ w.length ≤ 60 ∧ ∀ H', Same H H' → Q (.bl true) H'
abbrev s_is_word_of : Stmt := top 25
abbrev N_is_word_of : List Str := ["letters", "value", "sign"]
theorem sc_is_word_of : FnScope N_is_word_of ["letters", "value"] (defScope s_is_word_of) := ⟨rfl, rfl, rfl, by decide +kernel, rfl, by decide +kernel, by decide +kernel⟩
theorem ok_is_word_of (T : Tx K mg CM CT) (D : DefAt K mg "is_word_of" s_is_word_of)  : Cal P w K mg base 1 "is_word_of" ["letters", "value"] (spIsWord K) := by
  refine cal_of D sc_is_word_of (fun _ _ _ _ _ _ us hl => match us, hl with | [_, _], _ => rfl) (fun vs H Q E h => ?_) (fun f cdv A outer s H vs Q E hr h => ?_)
  · obtain ⟨_, _, rfl, _⟩ := h
    rfl
  have hu := hu_of hr
  obtain ⟨L, w, rfl, hL, hw, hl, k⟩ := h
  refine ⟨_, (pss_cons (ps_if (PW.pt (pw_or (pt_not (pt_val (pe_callB (call_isiK K) (by rfl) T.isinstance (by decide +kernel) (pa_cons (pv 1) (pa_cons (pe_bltn (by rfl) T.str (by decide +kernel) (v := V.ty "str") rfl) pa_nil))))) (pw_or1 (pt_cmpR op_gt (pe_callB call_len_str (by rfl) T.len PySem.boot_len (pa_cons (pv 1) pa_nil)) (pe_g (by rfl) T.MOST_SIGNS) (nomark _))))) (pss_one (ps_ret pe_bl)) pss_nil)
  (pss_one (ps_ret (pe_callB (cr_allK K rfl) (by rfl) T.all (by decide +kernel) (pa_cons (pe_lc (own := [("sign", 2)]) (tt := tYes) rfl sc_is_word_of.nd (pi_str (pv 1)) (blkOk_by (N := N_is_word_of) (sc := (defScope s_is_word_of)) (by decide +kernel)) (fun _ _ _ _ _ => (pg_name (i := 2) sc_is_word_of.nd rfl (Or.inl rfl))) (fun _ _ _ _ _ => pts_nil) (fun _ _ _ _ _ => (pe_cmpR op_in_sign (pv 2) (pe_slice sl_str (pe_g (by rfl) T.SIGNS) po_none (po_some (pv 0))) (by rfl)))) pa_nil))))), ?_⟩
  have ew : (sW w).length = w.length := sW_len w
  refine ⟨_, rfl, .str (sW w), .ty "str", _, _, true, rfl, .ty _, .base (.str _), kit_ty (by decide +kernel), true, rfl, iteF ?_⟩
  refine ⟨_, rfl, sW w, rfl, line_le (by omega), _, _, rfl, rfl, _, rfl, ifF (by simp; omega) ?_⟩
  refine ⟨_, rfl, sW w, rfl, fun D hD => lc_d (K := K) walk_str (fun i => (w.take i).map fun _ => PyData.bool true) hD rfl (fun _ _ => True.intro) (fun i x H1 H2 hi p y => ?_) fun acc H1 h1 h2 h3 => ?_⟩
  · obtain ⟨rfl, c, hc, rfl⟩ := y
    obtain ⟨l, hl1, rfl⟩ := sW_get hc
    have hll := hw l (List.mem_of_getElem? hl1)
    refine ⟨rfl, _, rfl, _, rfl, _, rfl, _, rfl, by decide, _, _, rfl, rfl, ?_⟩
    rw [abc_in L hL l hll]
    exact p.put0 (line_lt (by have := lt_of_get hl1; omega)) (.bl true) (take_map _ w hl1)
  · have e : acc = (w.map fun _ => true).map V.bl := bls_of (by
      rw [List.map_map]
      have : w.take (sW w).cps.size = w := List.take_of_length_le (by have : (sW w).cps.size = w.length := ew; omega)
      rw [this] at h3
      exact h3)
    refine ⟨D, w.map fun _ => true, rfl, SqL.of (by rw [h1, e]), ?_⟩
    rw [show (w.map fun _ => true).all id = true by simp]
    exact k H1 fun b o z => (wo_some (h2 b o z)).1
def spWantWord (K : PySem.W.Frag) : Sp := fun vs H Q _ => ∃ (L : Nat) (w : List Nat), vs = [vN L, .str (sW w)] ∧ L < 4 ∧ Wd L w ∧ w.length ≤ 60 ∧ ∀ H', Same H H' → Q (.str (sW w)) H'
abbrev s_want_word : Stmt := top 26
abbrev N_want_word : List Str := ["letters", "value"]
theorem sc_want_word : FnScope N_want_word ["letters", "value"] (defScope s_want_word) := ⟨rfl, rfl, rfl, by decide +kernel, rfl, by decide +kernel, by decide +kernel⟩
theorem ok_want_word (T : Tx K mg CM CT) (D : DefAt K mg "want_word" s_want_word) (c_is_word_of : Cal P w K mg base 1 "is_word_of" ["letters", "value"] (spIsWord K)) : Cal P w K mg base 2 "want_word" ["letters", "value"] (spWantWord K) := by
  refine cal_of D sc_want_word (fun _ _ _ _ _ _ us hl => match us, hl with | [_, _], _ => rfl) (fun vs H Q E h => ?_) (fun f cdv A outer s H vs Q E hr h => ?_)
  · obtain ⟨_, _, rfl, _⟩ := h
    rfl
  have hu := hu_of hr
  obtain ⟨L, w, rfl, hL, hw, hl, k⟩ := h
  refine ⟨_, (pss_cons (ps_if (pt_not (pt_val (pe_c c_is_word_of hr (by decide) rfl (pa_cons (pv 0) (pa_cons (pv 1) pa_nil))))) (pss_one ps_never) pss_nil)
  (pss_one (ps_ret (pv 1)))), ?_⟩
  refine ⟨_, rfl, _, rfl, L, w, rfl, hL, hw, hl, fun H' s' => ⟨true, rfl, iteF ⟨_, rfl, k H' s'⟩⟩⟩
def spSpots (K : PySem.W.Frag) : Sp := fun vs H Q _ => ∃ (w : List Nat), vs = [.str (sW w)] ∧ Wd 3 w ∧ w.length ≤ 60 ∧ ∀ H' p, Same H H' → H p = none → H' p = some (.tup (w.map vN)) → Q (.ref p) H'
abbrev s_spots : Stmt := top 27
abbrev N_spots : List Str := ["word", "sign"]
theorem sc_spots : FnScope N_spots ["word"] (defScope s_spots) := ⟨rfl, rfl, rfl, by decide +kernel, rfl, by decide +kernel, by decide +kernel⟩
theorem ok_spots (T : Tx K mg CM CT) (D : DefAt K mg "spots" s_spots)  : Cal P w K mg base 1 "spots" ["word"] (spSpots K) := by
  refine cal_of D sc_spots (fun _ _ _ _ _ _ us hl => match us, hl with | [_], _ => rfl) (fun vs H Q E h => ?_) (fun f cdv A outer s H vs Q E hr h => ?_)
  · obtain ⟨_, rfl, _⟩ := h
    rfl
  have hu := hu_of hr
  obtain ⟨w, rfl, hw, hl, k⟩ := h
  refine ⟨_, (pss_one (ps_ret (pe_callTy (call_tupK K) (by rfl) T.tuple (by decide +kernel) (pa_cons (pe_lc (own := [("sign", 1)]) (tt := tYes) rfl sc_spots.nd (pi_str (pv 0)) (blkOk_by (N := N_spots) (sc := (defScope s_spots)) (by decide +kernel)) (fun _ _ _ _ _ => (pg_name (i := 1) sc_spots.nd rfl (Or.inl rfl))) (fun _ _ _ _ _ => pts_nil) (fun _ _ _ _ _ => (pe_bmK K PySem.F.plainAttrs_str PySem.F.slot_str_index PySem.F.type_str_index mt_sindex (pe_g (by rfl) T.SIGNS) (pa_cons (pv 1) pa_nil)))) pa_nil)))), ?_⟩
  refine ⟨_, rfl, sW w, rfl, fun D hD => lc_d (K := K) walk_str (fun i => (w.take i).map dN) hD rfl (fun _ _ => True.intro) (fun i x H1 H2 hi p y => ?_) fun acc H1 h1 h2 h3 => ?_⟩
  · obtain ⟨rfl, c, hc, rfl⟩ := y
    obtain ⟨l, hl1, rfl⟩ := sW_get hc
    have hll := hw l (List.mem_of_getElem? hl1)
    refine ⟨rfl, rfl, _, rfl, _, _, l, [], rfl, rfl, abc_at l hll, ?_⟩
    exact p.put0 (line_lt (by have := lt_of_get hl1; omega)) (.int _) (take_map _ w hl1)
  · have e : acc = w.map vN := nums_of (by
      have : w.take (sW w).cps.size = w := List.take_of_length_le (by have : (sW w).cps.size = w.length := sW_len w; omega)
      rw [this] at h3
      exact h3)
    subst e
    refine ⟨D, _, rfl, .inl ⟨SqL.of h1, fun l hl => ?_⟩⟩
    have s1 : Same H H1 := fun b o z => (wo_some (h2 b o z)).1
    exact k _ l (Same.trans s1 (same_new hl)) (none_of_same s1 hl) upd_same
end
end M22

set_option maxRecDepth 100000
set_option maxHeartbeats 4000000
namespace M22
open PySem PySem.Spec PyProof.Rows L2
section
variable {P : Program} {w : World} {K : PySem.W.Frag} {mg : Str → Option Value} {base : Heap} {CM CT : Addr}
def spLedTo (K : PySem.W.Frag) : Sp := fun vs H Q _ => ∃ (v : V) (L : Nat) (S : Steps), vs = [v] ∧ Dp K H v (dLL S) ∧ Whole L S ∧ S.length ≤ 100 ∧
  ∀ H' p f n, Same H H' → H p = none → H' p = some (.lst (f.map vN)) → Bfs (row S) 0 f n → f.length ≤ n → Q (.ref p) H'
abbrev s_led_to : Stmt := top 34
abbrev N_led_to : List Str := ["steps", "found", "at", "state"]
theorem sc_led_to : FnScope N_led_to ["steps"] (defScope s_led_to) := ⟨rfl, rfl, rfl, by decide +kernel, rfl, by decide +kernel, by decide +kernel⟩
theorem ok_led_to (T : Tx K mg CM CT) (D : DefAt K mg "led_to" s_led_to)  : Cal P w K mg base 1 "led_to" ["steps"] (spLedTo K) := by
  refine cal_of D sc_led_to (fun _ _ _ _ _ _ us hl => match us, hl with | [_], _ => rfl) (fun vs H Q E h => ?_) (fun f cdv A outer s H vs Q E hr h => ?_)
  · obtain ⟨_, _, _, rfl, _⟩ := h
    rfl
  have hu := hu_of hr
  obtain ⟨v, L, S, rfl, hv, W, hz, k⟩ := h
  refine ⟨_, (pss_cons (ps_par (i := 1) (j := 2) rfl sc_led_to.nd rfl rfl (by decide) rfl rfl (pa_cons (pe_lst (pa_cons pe_int pa_nil)) (pa_cons pe_int pa_nil)) (by rfl))
  (pss_cons (ps_while PassesOwn.never (pt_cmpR op_lt (pv 2) (pe_callB (call_lenK K) (by rfl) T.len PySem.boot_len (pa_cons (pv 1) pa_nil)) (nomark _)) (pss_cons (ps_for PassesOwn.never rfl (pi_listK K (pe_ix (ix_listK K) (pv 0) (pe_ix (ix_listK K) (pv 1) (pv 2) (fun _ _ => rfl)) (fun _ _ => rfl))) (pg_name (i := 3) sc_led_to.nd rfl (Or.inl rfl)) (pss_one (ps_if (pt_cmpR (op_notInK K) (pv 3) (pv 1) (by rfl)) (pss_one (ps_expr (pe_bmK K PySem.F.plainAttrs_list PySem.F.slot_list_append PySem.F.type_list_append mt_append (pv 1) (pa_cons (pv 3) pa_nil)))) pss_nil)))
    (pss_one (ps_set (i := 2) sc_led_to.nd rfl (Or.inl rfl) (pe_op op_add (pv 2) pe_int)))))
  (pss_one (ps_ret (pv 1))))), ?_⟩
  refine ⟨by show 1 ≤ sizeLine; decide, fun p hp => ⟨_, _, rfl, ?_⟩⟩
  -- while at < len(found)
  refine ⟨fun m σ H1 => ∃ (f : List Nat) (n : Nat) (x : Option V), σ = [some v, some (.ref p), some (vN n), x] ∧ m = S.length - n ∧ Same H H1 ∧ H1 p = some (.lst (f.map vN)) ∧ Bfs (row S) 0 f n ∧ ∀ s ∈ f, s < S.length,
    ⟨_, [0], 0, none, rfl, rfl, same_new hp, upd_same, .start, fun s hs => by rw [List.mem_singleton.mp hs]; exact W.pos⟩, ?_⟩
  rintro m σ H1 ⟨f, n, x, rfl, rfl, s1, h1, b, lt⟩
  refine ⟨_, rfl, _, rfl, p, _, rfl, .inl (SqL.of h1), _, _, rfl, rfl, _, rfl, ?_⟩
  rw [List.length_map]
  by_cases hn : n < f.length
  · refine ifT (decide_eq_true (by omega)) ?_
    obtain ⟨s, hs⟩ := get_some hn
    have hsl := lt s (List.mem_of_getElem? hs)
    obtain ⟨r, hr1, hr2, hr3⟩ := W.at hsl
    obtain ⟨a, xs, c, rfl, q1, q2, q3⟩ := row_l hv hr1
    have er : row S s = r := getD_of hr1
    -- for state in steps[found[at]]
    refine ⟨_, fun _ _ z => z, _, rfl, _, rfl, _, rfl, p, _, _, _, rfl, rfl, SqL.of h1, at_num hs, a, _, _, _, rfl, rfl, s1.seq q1, q2, c, rfl, ⟨_, s1.seq q3⟩,
      for_list (K := K) (a := c) (xs := r.map vN) (fun i σ H2 => ∃ x, σ = [some (.ref a), some (.ref p), some (vN n), x] ∧ Same H H2 ∧ H2 p = some (.lst ((addAll f (r.take i)).map vN))) ⟨x, rfl, s1, by rw [h1]; rfl⟩ (fun i σ H2 _ ⟨_, _, q, _⟩ => q.seq q3) ?_ ?_⟩
    · rintro i y σ H2 hi ⟨x, rfl, s2, h2⟩
      obtain ⟨t, ht, rfl⟩ := get_vN hi
      have el : (addAll f (r.take i)).length < sizeLine := line_lt (by
        have := nodup_bound (addAll_nodup (xs := r.take i) b.nodup) fun z hz => (mem_addAll.mp hz).elim (lt z) fun hz => hr3 z (List.mem_of_mem_take hz)
        omega)
      refine ⟨_, rfl, _, rfl, p, _, rfl, .inl (SqL.of h2), rfl, flat_nums _, _, rfl, ?_⟩
      rw [inV_num]
      by_cases hm : t ∈ addAll f (r.take i)
      · refine ifF (by simp [hm]) ⟨_, rfl, s2, ?_⟩
        rw [h2, List.take_succ, ht]
        show _ = some (HO.lst ((addAll f (r.take i ++ [t])).map vN))
        rw [addAll_snoc, if_pos hm]
      · refine ifT (by simp [hm]) ⟨_, rfl, .inl ⟨rfl, _, SqL.of h2⟩, _, rfl, p, _, _, rfl, rfl, h2, by rw [List.length_map]; exact el, _, rfl, s2.put hp, ?_⟩
        rw [upd_same, List.take_succ, ht]
        show _ = some (HO.lst ((addAll f (r.take i ++ [t])).map vN))
        rw [addAll_snoc, if_neg hm, List.map_append]
        rfl
    · rintro σ H2 ⟨x, rfl, s2, h2⟩
      rw [List.length_map, List.take_length] at h2
      refine ⟨_, rfl, _, _, rfl, rfl, S.length - (n + 1), by have := nodup_bound b.nodup lt; omega, addAll f r, n + 1, x, rfl, rfl, s2, h2, ?_, fun z hz => (mem_addAll.mp hz).elim (lt z) (hr3 z)⟩
      have := b.turn hs
      rw [er] at this
      exact this
  · refine ifF (decide_eq_false (by omega)) ?_
    exact ⟨_, rfl, k H1 p f n s1 hp h1 b (by omega)⟩
end
end M22

set_option maxRecDepth 100000
set_option maxHeartbeats 4000000
namespace M22
open PySem PySem.Spec PyProof.Rows L2
section
variable {P : Program} {w : World} {K : PySem.W.Frag} {mg : Str → Option Value} {base : Heap} {CM CT : Addr}
/-- steps, the ends as a dict, the states led to; out comes a dict: alike states have one number -/
def spParted (K : PySem.W.Frag) : Sp := fun vs H Q _ => ∃ (v : V) (d st : Addr) (L : Nat) (S : Steps) (E sts : List Nat), vs = [v, .ref d, .ref st] ∧ Dp K H v (dLL S) ∧ H d = some (.dK (gk E fun _ => .bl true)) ∧ H st = some (.lst (sts.map vN)) ∧
  0 < L ∧ L ≤ 3 ∧ Led L S sts ∧ sts.Nodup ∧ 0 < sts.length ∧ sts.length ≤ 60 ∧
  ∀ (H' : Hp) (p : Addr) (g : Nat → Nat), Same H H' → H p = none → H' p = some (.dK (gk sts fun s => vN (g s))) → (∀ s ∈ sts, ∀ t ∈ sts, (g s = g t ↔ Alike L S E s t)) → Q (.ref p) H'
abbrev s_parted : Stmt := top 35
abbrev N_parted : List Str := ["steps", "ends", "states", "group", "many", "state", "now", "keys", "after", "key", "one"]
theorem sc_parted : FnScope N_parted ["steps", "ends", "states"] (defScope s_parted) := ⟨rfl, rfl, rfl, by decide +kernel, rfl, by decide +kernel, by decide +kernel⟩
theorem ok_parted (T : Tx K mg CM CT) (D : DefAt K mg "parted" s_parted)  : Cal P w K mg base 1 "parted" ["steps", "ends", "states"] (spParted K) := by
  refine cal_of D sc_parted (fun _ _ _ _ _ _ us hl => match us, hl with | [_, _, _], _ => rfl) (fun vs H Q E h => ?_) (fun f cdv A outer s H vs Q E hr h => ?_)
  · obtain ⟨_, _, _, _, _, _, _, rfl, _⟩ := h
    rfl
  have hu := hu_of hr
  obtain ⟨v, d, st, L, S, E, sts, rfl, hv, hd, hst, hL, hL3, led, nd, hpos, hlen, k⟩ := h
  refine ⟨_, (pss_cons (ps_asg (pe_tup (pa_cons pe_dnewK (pa_cons pe_int pa_nil))) (pg_tupK K (n := 2) rfl (pgs_cons (pg_name (i := 3) sc_parted.nd rfl (Or.inr rfl)) (pgs_cons (pg_name (i := 4) sc_parted.nd rfl (Or.inl rfl)) pgs_nil))))
  (pss_cons (ps_for PassesOwn.never rfl (pi_listK K (pv 2)) (pg_name (i := 5) sc_parted.nd rfl (Or.inl rfl)) (pss_one (ps_dput hu (pv 3) (pv 5) (pe_callTy call_int1 (by rfl) T.int (by decide +kernel) (pa_cons (pe_cmp (pc_din hu (pv 5) (pv 1)) rfl) pa_nil)) rfl)))
  (pss_cons (ps_set (i := 6) sc_parted.nd rfl (Or.inl rfl) (pe_callB (call_lenK K) (by rfl) T.len PySem.boot_len (pa_cons (pe_callB (cr_sortedSet rfl) (by rfl) T.sorted (by decide +kernel) (pa_cons (pe_callTy (cr_setI rfl) (by rfl) T.set (by decide +kernel) (pa_cons (pe_listVals rfl (pv 3) (by rfl) T.list (by decide +kernel)) pa_nil)) pa_nil)) pa_nil)))
  (pss_cons (ps_while PassesOwn.never (pt_cmpR op_ne (pv 6) (pv 4) (nomark _)) (pss_cons (ps_par3 (i := 4) (j := 7) (l := 8) rfl sc_parted.nd rfl rfl rfl (by decide) (by decide) (by decide) rfl rfl rfl (pa_cons (pv 6) (pa_cons (pe_newN (T := kT)) (pa_cons pe_dnewK pa_nil))) (by rfl))
    (pss_cons (ps_for PassesOwn.never rfl (pi_listK K (pv 2)) (pg_name (i := 5) sc_parted.nd rfl (Or.inl rfl)) (pss_cons (ps_set (i := 9) sc_parted.nd rfl (Or.inl rfl) (pe_op (op_catTK K) (pe_tup (pa_cons (pe_dget hu (pv 3) (pv 5) (fun _ _ => rfl)) pa_nil)) (pe_callTy (call_tupK K) (by rfl) T.tuple (by decide +kernel) (pa_cons (pe_lc (own := [("one", 10)]) (tt := tYes) rfl sc_parted.nd (pi_listK K (pe_ix (ix_listK K) (pv 0) (pv 5) (fun _ _ => rfl))) (blkOk_by (N := N_parted) (sc := (defScope s_parted)) (by decide +kernel)) (fun _ _ _ _ _ => (pg_name (i := 10) sc_parted.nd rfl (Or.inl rfl))) (fun _ _ _ _ _ => pts_nil) (fun _ _ _ _ _ => (pe_dget hu (pv 3) (pv 10) (fun _ _ => rfl)))) pa_nil))))
      (pss_one (ps_dput hu (pv 8) (pv 5) (pe_setdN (T := kT) (hu_64 hr) (pv 7) (pv 9) (pe_callB (cr_lenN (T := kT)) (by rfl) T.len PySem.boot_len (pa_cons (pv 7) pa_nil)) (by exact ⟨rfl, rfl, rfl, rfl⟩)) rfl))))
    (pss_one (ps_asg (pe_tup (pa_cons (pv 8) (pa_cons (pe_callB (cr_lenN (T := kT)) (by rfl) T.len PySem.boot_len (pa_cons (pv 7) pa_nil)) pa_nil))) (pg_tupK K (n := 2) rfl (pgs_cons (pg_name (i := 3) sc_parted.nd rfl (Or.inr rfl)) (pgs_cons (pg_name (i := 6) sc_parted.nd rfl (Or.inl rfl)) pgs_nil))))))))
  (pss_one (ps_ret (pv 3))))))), ?_⟩
  -- group, many = ({}, 0)
  intro a ha
  refine ⟨by show 2 ≤ sizeLine; decide, fun t1 ht1 => ⟨t1, _, rfl, SqT.of upd_same, rfl, _, _, rfl, _, _, rfl, rfl, ?_⟩⟩
  have ha' : a ≠ t1 := fun e => by rw [e, upd_same] at ht1; cases ht1
  have s1 : Same H (upd (upd H a (.dK [])) t1 (.tup [.ref a, .int 0])) := Same.trans (same_new ha) (same_new ht1)
  -- for state in states
  refine ⟨_, rfl, st, rfl, ⟨_, SqL.of (s1 _ _ hst)⟩, for_list (K := K) (a := st) (xs := sts.map vN) (fun i σ H2 => ∃ x5, σ = [some v, some (.ref d), some (.ref st), some (.ref a), some (.int 0), x5, none, none, none, none, none] ∧ Same H H2 ∧ H2 a = some (.dK (gk (sts.take i) fun s => vN (if s ∈ E then 1 else 0))))
    ⟨none, rfl, s1, by rw [upd_ne ha', upd_same]; rfl⟩ (fun i σ H2 _ ⟨_, _, q, _⟩ => SqL.of (q st _ hst)) ?_ ?_⟩
  · rintro i y σ H2 hi ⟨x5, rfl, s2, h2⟩
    obtain ⟨s, hs, rfl⟩ := get_vN hi
    have hil := lt_of_get hs
    refine ⟨_, rfl, _, rfl, d, _, rfl, DGet.k (k := (Sum.inl (s : Int) : Key)) (s2 _ _ hd), .inr ⟨_, rfl, _, rfl, _, rfl, a, _, rfl, DPut.k (k := (Sum.inl (s : Int) : Key)) h2 (line_lt (by rw [gk_len, List.length_take]; omega)), _, rfl, s2.put ha, ?_⟩⟩
    rw [upd_same, gk_is]
    rw [gk_put_at nd hs]
    by_cases q : s ∈ E
    · simp [q]
    · simp [q]
  rintro σ H2 ⟨x5, rfl, s2, h2⟩
  rw [List.length_map, List.take_length] at h2
  generalize hg0 : (fun s => if s ∈ E then 1 else 0 : Nat → Nat) = g0
  have h2 : H2 a = some (.dK (gk sts fun s => vN (g0 s))) := by rw [← hg0]; exact h2
  have hP : Part L S E sts g0 := by rw [← hg0]; exact Part.first led
  -- now = len(sorted(set(list(group.values()))))
  refine ⟨_, rfl, a, _, rfl, h2, fun l1 hl1 => ⟨l1, sts.map fun s => (g0 s : Int), rfl, .inl (SqL.of (by rw [upd_same, List.map_map, List.map_map]; rfl)), by rw [List.length_map]; omega, fun a2 c Sb ha2 hSb hc => ?_⟩⟩
  obtain ⟨ks, n1, n2, n3⟩ := dedup (sts.map fun s => (g0 s : Int))
  have hcl := hc ks n1 n2
  rw [List.length_map] at n3
  refine ⟨a2, _, c, rfl, upd_same, by omega, fun ns p2 pw mem hln hp2 => ⟨p2, _, rfl, .inl (SqL.of upd_same), ?_⟩⟩
  have hc0 : ns.length = cnt g0 sts := by
    have nn : ns.Nodup := List.Pairwise.imp (fun h e => by omega) pw
    obtain ⟨ys, rfl⟩ := nat_list (ks := ns) fun k hk => by
      have := (mem k).mp hk
      rw [hSb] at this
      obtain ⟨s, _, e⟩ := List.mem_map.mp (of_decide_eq_true this)
      exact ⟨g0 s, e.symm⟩
    rw [List.length_map]
    refine cnt_list g0 sts ys ?_ fun u => ?_
    · clear hln mem pw hp2
      induction ys with
      | nil => exact List.nodup_nil
      | cons y ys ih =>
        obtain ⟨a, b⟩ := List.nodup_cons.mp nn
        exact List.nodup_cons.mpr ⟨fun z => a (List.mem_map.mpr ⟨y, z, rfl⟩), ih b⟩
    · have := mem (u : Int)
      rw [hSb, decide_eq_true_iff] at this
      constructor
      · intro h
        obtain ⟨s, hs, e⟩ := List.mem_map.mp (this.mp (List.mem_map.mpr ⟨u, h, rfl⟩))
        exact List.mem_map.mpr ⟨s, hs, by have : (g0 s : Int) = (u : Int) := e; omega⟩
      · intro h
        obtain ⟨s, hs, e⟩ := List.mem_map.mp h
        obtain ⟨u', hu', e'⟩ := List.mem_map.mp (this.mpr (List.mem_map.mpr ⟨s, hs, by show (g0 s : Int) = u; rw [e]⟩))
        have e' : (u' : Int) = (u : Int) := e'
        rw [← show u' = u by omega]
        exact hu'
  have s3 : Same H2 (upd (upd (upd H2 l1 (.lst ((gk sts fun s => vN (g0 s)).map (·.2)))) a2 (SetO w a2 Sb c)) p2 (.lst (ns.map V.int))) := Same.trans (same_new hl1) (Same.trans (same_new ha2) (same_new hp2))
  rw [List.length_map, hc0]
  -- while now != many
  refine ⟨fun m σ H3 => ∃ (g : Nat → Nat) (a : Addr) (many : Nat) (x5 x7 x8 x9 : Option V), σ = [some v, some (.ref d), some (.ref st), some (.ref a), some (vN many), x5, some (vN (cnt g sts)), x7, x8, x9, none] ∧ m = sts.length + 1 - many ∧ Same H H3 ∧ H a = none ∧
    H3 a = some (.dK (gk sts fun s => vN (g s))) ∧ Part L S E sts g ∧ (many = 0 ∨ ∃ g0, many = cnt g0 sts ∧ Finer S sts g0 g), ⟨_, g0, a, 0, x5, none, none, none, rfl, rfl, Same.trans s2 s3, ha, s3 _ _ h2, hP, .inl rfl⟩, ?_⟩
  clear hc0 mem hln pw hp2 n1 n2 n3 hcl hc hSb ha2 hl1 h2 s2 s3 hP hg0 ht1 ha' s1 ha
  rintro m σ H3 ⟨g, a, many, x5, x7, x8, x9, rfl, rfl, s3, ha, h3, hP, hm⟩
  refine ⟨_, rfl, _, rfl, rfl, _, rfl, ?_⟩
  have hne : sts ≠ [] := fun e => by rw [e] at hpos; exact absurd hpos (by decide)
  have hcp := cnt_pos g hne
  by_cases hq : cnt g sts = many
  · refine ifF (by simp [hq]) ⟨_, rfl, k H3 a g s3 ha h3 ?_⟩
    rcases hm with hm | ⟨g1, e1, f1⟩
    · omega
    · exact hP.alike led (f1.end_ led (by omega)).2
  refine ifT (by simp; omega) ⟨_, fun _ _ z => z, ?_⟩
  have hmn : many < cnt g sts := by
    rcases hm with hm | ⟨g1, e1, f1⟩
    · omega
    · have := (f1.le led).1
      omega
  -- many, keys, after = (now, {}, {})
  refine ⟨_, rfl, fun ak hak aa haa => ⟨_, _, _, rfl, ?_⟩⟩
  have nka : ak ≠ aa := fun e => by rw [← e, upd_same] at haa; cases haa
  have haa3 : H3 aa = none := by rw [upd_ne fun e => nka e.symm] at haa; exact haa
  have s4 : Same H3 (Wo [ak, aa] (upd (upd H3 ak (dnO kT P w ak ([] : Ents (List Nat)))) aa (.dK []))) := by
    rw [wo_upd (by simp), wo_upd (by simp)]
    intro b o e
    rw [wo_out fun z => ?_]
    · exact e
    · rcases List.mem_cons.mp z with z | z
      · rw [z, hak] at e; cases e
      · rw [List.mem_singleton.mp z, haa3] at e; cases e
  refine ⟨_, rfl, st, rfl, ⟨_, SqL.of ((wo_same _ _) _ _ (s4 _ _ (s3 _ _ hst)))⟩, for_list (K := K) (a := st) (xs := sts.map vN) (fun i σ H4 => ∃ (es : Ents (List Nat)) (x5 x9 : Option V), σ = [some v, some (.ref d), some (.ref st), some (.ref a), some (vN (cnt g sts)), x5, some (vN (cnt g sts)), some (.ref ak), some (.ref aa), x9, none] ∧
    Same H3 (Wo [ak, aa] H4) ∧ H4 ak = some (dnO kT P w ak es) ∧ H4 aa = some (.dK (gk (sts.take i) fun s => vN (gN S g sts s))) ∧ KeysAt kT K (Wo [ak, aa] H4) es ∧ es.map (·.1) = keysOf S g (sts.take i) ∧ ∀ j e, es[j]? = some e → e.2.2 = vN j)
    ⟨[], x5, x9, rfl, s4, (upd_ne nka).trans upd_same, by rw [upd_same]; rfl, KeysAt.nil, rfl, fun j e h => by simp at h⟩ (fun i σ H4 _ ⟨_, _, _, _, q, _⟩ => SqL.of ((wo_same _ _) _ _ (q _ _ (s3 _ _ hst)))) ?_ ?_⟩
  · rintro i y σ H4 hi ⟨es, x5, x9, rfl, s4, h4k, h4a, ka, ek, ev⟩
    obtain ⟨s, hs, rfl⟩ := get_vN hi
    have hil := lt_of_get hs
    have hmem := List.mem_of_getElem? hs
    have s34 : Same H3 H4 := Same.trans s4 (wo_same _ _)
    have dgA : ∀ (H' : Hp) (n : Nat), Same H4 H' → n ∈ sts → DGet H' a (vN n) (some (vN (g n))) := fun H' n sm hn => by
      have := DGet.k (k := (Sum.inl (n : Int) : Key)) (sm _ _ (s34 _ _ h3))
      rw [gk_in hn] at this
      exact this
    obtain ⟨r, hr1, hr2, hr3⟩ := led.whole.at (led.lt s hmem)
    have er : S.getD s [] = r := getD_of hr1
    have hrs : ∀ n ∈ r, n ∈ sts := fun n hn => by
      obtain ⟨l, hl, rfl⟩ := (led.whole.mem_row (led.lt s hmem)).mp (by rw [er]; exact hn)
      exact led.cl s hmem l hl
    obtain ⟨av, xs, c, rfl, q1, q2, q3⟩ := row_l (dp_mono s3 hv) hr1
    -- key = (group[state],) + tuple(..)
    refine ⟨_, rfl, _, rfl, a, _, rfl, dgA _ s (fun _ _ z => z) hmem, by show 1 ≤ sizeLine; decide, fun t1 ht1 => ?_⟩
    have s45 : Same H4 (upd H4 t1 (.tup [vN (g s)])) := same_new ht1
    have s35 := Same.trans s34 s45
    refine ⟨_, rfl, _, rfl, av, xs, _, _, rfl, rfl, s35.seq q1, q2, c, rfl, ⟨_, s35.seq q3⟩, fun D hD => lc_d (K := K) walk_list (fun j => (r.take j).map fun x => dN (g x)) hD rfl (fun H' sm => Same.seq (Same.trans s35 sm) q3) (fun j x H6 H7 hj p y => ?_) fun acc H6 h1 h2' h3' => ?_⟩
    · obtain ⟨rfl, hx⟩ := y
      obtain ⟨n, hn, rfl⟩ := get_vN hx
      exact ⟨rfl, _, rfl, _, rfl, a, _, rfl, dgA _ n (Same.trans s45 p.same) (hrs n (List.mem_of_getElem? hn)), p.put0 (line_lt (by have := lt_of_get hn; omega)) (.int _) (take_map _ r hn)⟩
    have eacc : acc = (r.map g).map vN := nums_of (by
      rw [List.length_map, List.take_length] at h3'
      rw [List.map_map]
      exact h3')
    subst eacc
    have s56 : Same (upd H4 t1 (.tup [vN (g s)])) H6 := Same.trans h2' (wo_same _ _)
    refine ⟨D, _, rfl, .inl ⟨SqL.of h1, fun t2 ht2 => ⟨t1, t2, _, _, rfl, rfl, SqT.of (same_new ht2 _ _ (s56 _ _ upd_same)), SqT.of upd_same, ?len, (fun z => nomatch z), fun _ z => ?em, fun _ _ kt hkt => ?_⟩⟩⟩
    case len =>
      rw [List.length_map, List.length_map, hr2]
      show 1 + L ≤ sizeLine
      exact line_le (by omega)
    case em =>
      exfalso
      have := congrArg List.length z
      rw [List.length_map, List.length_map, hr2] at this
      exact absurd this (by show ¬ L = 0; omega)
    have s48 : Same H4 (upd (upd H6 t2 (.tup ((r.map g).map vN))) kt (.tup ([vN (g s)] ++ (r.map g).map vN))) := Same.trans s45 (Same.trans s56 (Same.trans (same_new ht2) (same_new hkt)))
    generalize hH8 : upd (upd H6 t2 (.tup ((r.map g).map vN))) kt (.tup ([vN (g s)] ++ (r.map g).map vN)) = H8 at s48 ⊢
    have hkt8 : H8 kt = some (.tup ((key S g s).map vN)) := by
      rw [← hH8, upd_same]
      unfold key
      rw [er]
      rfl
    have kak : ∀ b ∈ [ak, aa], kt ≠ b := fun b hb e => by
      have hn : H4 kt = none := Same.free (Same.trans s45 (Same.trans s56 (same_new ht2))) hkt
      rcases List.mem_cons.mp hb with z | z
      · rw [e, z, h4k] at hn; cases hn
      · rw [e, List.mem_singleton.mp z, h4a] at hn; cases hn
    have dk : Dp K (Wo [ak, aa] H8) (.ref kt) (kT.dk (key S g s)) := by
      rw [kT_dk]
      exact dp_t (SqT.of (by rw [wo_out fun z => kak _ z rfl]; exact hkt8))
    have h8k := s48 _ _ h4k
    have h8a := s48 _ _ h4a
    have ka8 : KeysAt kT K (Wo [ak, aa] H8) es := ka.mono (wo_mono s48)
    have ks8 : KeysAt kT K H8 es := ka8.mono (wo_same _ _)
    have s38 : Same H3 (Wo [ak, aa] H8) := Same.trans s4 (wo_mono s48)
    have el : es.length = (keysOf S g (sts.take i)).length := by rw [← ek, List.length_map]
    have ell : es.length ≤ 60 := by rw [el]; have := gN_len (S := S) (g := g) (l := sts) (i := i); omega
    have hpre := keysOf_pre (S := S) (g := g) (l := sts) (i := i)
    -- after[state] = keys.setdefault(key, len(keys))
    refine ⟨_, rfl, ⟨ak, es, rfl, h8k, ks8⟩, _, rfl, _, rfl, ak, es, rfl, h8k, ks8, ak, es, kt, key S g s, rfl, rfl, h8k, ks8, dp_mono (wo_same _ _) dk, line_lt (by omega), fun u hu => ?_, fun hn => ?_⟩
    · have hin : key S g s ∈ es.map (·.1) := Classical.byContradiction fun z => by rw [look_none z] at hu; cases hu
      rw [ek] at hin
      obtain ⟨j, hj⟩ : ∃ j, (keysOf S g (sts.take i))[j]? = some (key S g s) := List.getElem?_of_mem hin
      have hj' := hj
      rw [← ek, List.getElem?_map] at hj'
      obtain ⟨⟨k1, b1, v1⟩, he, e1⟩ := Option.map_eq_some_iff.mp hj'
      have e1 : k1 = key S g s := e1
      subst e1
      have := look_at (by rw [ek]; exact keysOf_nodup) he
      rw [this] at hu
      cases hu
      have evj : u = vN j := ev j _ he
      have eg : gN S g sts s = j := by
        show (keysOf S g sts).idxOf _ = j
        rw [idx_pre hpre hin]
        exact idxOf_getA keysOf_nodup hj
      refine ⟨_, rfl, _, rfl, aa, _, rfl, DPut.k (k := (Sum.inl (s : Int) : Key)) h8a (line_lt (by rw [gk_len, List.length_take]; omega)), es, _, _, rfl, ?_, ?_, ?_, ?_, ?_, ev⟩
      · rw [wo_upd (by simp)]; exact s38
      · rw [upd_ne nka]; exact h8k
      · rw [upd_same, gk_put_at nd hs _ (by rw [evj, eg])]
      · rw [wo_upd (by simp)]; exact ka8
      · rw [ek, keysOf_take hs, if_pos hin]
    · rw [ek] at hn
      have eg : gN S g sts s = es.length := by
        show (keysOf S g sts).idxOf _ = _
        have hin : key S g s ∈ keysOf S g (sts.take (i + 1)) := by rw [keysOf_take hs, if_neg hn]; simp
        rw [idx_pre (keysOf_pre (i := i + 1)) hin, keysOf_take hs, if_neg hn, List.idxOf_append, if_neg hn, el]
        simp
      refine ⟨_, rfl, _, rfl, aa, _, rfl, DPut.k (k := (Sum.inl (s : Int) : Key)) (by rw [upd_ne fun e => nka e.symm]; exact h8a) (line_lt (by rw [gk_len, List.length_take]; omega)), es ++ [(key S g s, kt, vN es.length)], _, _, rfl, ?_, ?_, ?_, ?_, ?_, ?_⟩
      · rw [wo_upd (by simp), wo_upd (by simp)]; exact s38
      · exact (upd_ne nka).trans upd_same
      · rw [upd_same, gk_put_at nd hs _ (by rw [eg])]
      · rw [wo_upd (by simp), wo_upd (by simp)]; exact ka8.snoc dk
      · rw [List.map_append, ek, keysOf_take hs, if_neg hn]; rfl
      · intro j e hj
        by_cases q : j < es.length
        · rw [List.getElem?_append_left q] at hj; exact ev j e hj
        · rw [List.getElem?_append_right (by omega)] at hj
          have : j - es.length = 0 := by have := lt_of_get hj; simp at this; omega
          rw [this] at hj
          cases hj
          show vN es.length = vN j
          rw [show es.length = j by omega]
  · rintro σ H4 ⟨es, x5, x9, rfl, s4, h4k, h4a, ka, ek, ev⟩
    rw [List.length_map, List.take_length] at h4a
    rw [List.length_map, List.take_length] at ek
    have el : es.length = cnt (gN S g sts) sts := by rw [← gN_cnt, ← ek, List.length_map]
    refine ⟨_, rfl, _, rfl, ak, es, rfl, h4k, ka.mono (wo_same _ _), by show 2 ≤ sizeLine; decide, fun t ht => ⟨t, _, rfl, SqT.of upd_same, rfl, _, _, rfl, _, _, rfl, rfl, ?_⟩⟩
    refine ⟨sts.length + 1 - cnt g sts, by have := cnt_le_len g sts; omega, gN S g sts, aa, cnt g sts, x5, some (.ref ak), some (.ref aa), x9, by rw [el]; rfl, rfl, ?_, Same.free s3 haa3, same_new ht _ _ h4a, hP.finer led gN_finer, .inr ⟨g, rfl, gN_finer⟩⟩
    exact Same.trans s3 (Same.trans s4 (Same.trans (wo_same _ _) (same_new ht)))
end
end M22

set_option maxRecDepth 100000
set_option maxHeartbeats 4000000
namespace M22
open PySem PySem.Spec PyProof.Rows L2
section
variable {P : Program} {w : World} {K : PySem.W.Frag} {mg : Str → Option Value} {base : Heap} {CM CT : Addr}
/-- steps and ends; out comes the least form -/
def spLeast (K : PySem.W.Frag) : Sp := fun vs H Q _ => ∃ (v ve : V) (L : Nat) (S : Steps) (E : List Nat), vs = [v, ve] ∧ Dp K H v (dLL S) ∧ Dp K H ve (dL E) ∧ Whole L S ∧ 0 < L ∧ L ≤ 3 ∧ S.length ≤ 60 ∧ E.Nodup ∧ E.length ≤ 60 ∧
  ∀ (H' : Hp) (p : Addr) (a b : V) (T : Steps) (F : List Nat), Same H H' → H p = none → H' p = some (.tup [a, b]) → Dp K H' a (dTT T) → Dp K H' b (dT F) → Least L T F → SameLang L S E T F → T.length ≤ S.length → Q (.ref p) H'
abbrev s_least_form : Stmt := top 36
abbrev N_least_form : List Str := ["steps", "ends", "states", "kept", "end", "group", "heads", "state", "order", "at", "place", "spot", "one", "told"]
theorem sc_least_form : FnScope N_least_form ["steps", "ends"] (defScope s_least_form) := ⟨rfl, rfl, rfl, by decide +kernel, rfl, by decide +kernel, by decide +kernel⟩
theorem ok_least_form (T : Tx K mg CM CT) (D : DefAt K mg "least_form" s_least_form) (c_led_to : Cal P w K mg base 1 "led_to" ["steps"] (spLedTo K)) (c_parted : Cal P w K mg base 1 "parted" ["steps", "ends", "states"] (spParted K)) : Cal P w K mg base 2 "least_form" ["steps", "ends"] (spLeast K) := by
  refine cal_of D sc_least_form (fun _ _ _ _ _ _ us hl => match us, hl with | [_, _], _ => rfl) (fun vs H Q E h => ?_) (fun f cdv A outer s H vs Q E hr h => ?_)
  · obtain ⟨_, _, _, _, _, rfl, _⟩ := h
    rfl
  have hu := hu_of hr
  obtain ⟨v, ve, L, S, E, rfl, hv, hve, W, hL, hL3, hS, hE, hEl, k⟩ := h
  refine ⟨_, (pss_cons (ps_asg (pe_tup (pa_cons (pe_c c_led_to hr (by decide) rfl (pa_cons (pv 0) pa_nil)) (pa_cons pe_dnewK pa_nil))) (pg_tupK K (n := 2) rfl (pgs_cons (pg_name (i := 2) sc_least_form.nd rfl (Or.inl rfl)) (pgs_cons (pg_name (i := 3) sc_least_form.nd rfl (Or.inr rfl)) pgs_nil))))
  (pss_cons (ps_for PassesOwn.never rfl (pi_listK K (pv 1)) (pg_name (i := 4) sc_least_form.nd rfl (Or.inl rfl)) (pss_one (ps_dput hu (pv 3) (pv 4) pe_bl rfl)))
  (pss_cons (ps_set (i := 5) sc_least_form.nd rfl (Or.inr rfl) (pe_c c_parted hr (by decide) rfl (pa_cons (pv 0) (pa_cons (pv 3) (pa_cons (pv 2) pa_nil)))))
  (pss_cons (ps_set (i := 6) sc_least_form.nd rfl (Or.inr rfl) pe_dnewK)
  (pss_cons (ps_for PassesOwn.never rfl (pi_listK K (pv 2)) (pg_name (i := 7) sc_least_form.nd rfl (Or.inl rfl)) (pss_one (ps_expr (pe_dsetd (pv 6) (pe_dget hu (pv 5) (pv 7) (fun _ _ => rfl)) (pv 7) (by exact ⟨rfl, rfl, rfl, rfl⟩)))))
  (pss_cons (ps_par (i := 8) (j := 9) rfl sc_least_form.nd rfl rfl (by decide) rfl rfl (pa_cons (pe_lst (pa_cons (pe_dget hu (pv 5) pe_int (fun _ _ => rfl)) pa_nil)) (pa_cons pe_int pa_nil)) (by rfl))
  (pss_cons (ps_while PassesOwn.never (pt_cmpR op_lt (pv 9) (pe_callB (call_lenK K) (by rfl) T.len PySem.boot_len (pa_cons (pv 8) pa_nil)) (nomark _)) (pss_cons (ps_for PassesOwn.never rfl (pi_listK K (pe_ix (ix_listK K) (pv 0) (pe_dget hu (pv 6) (pe_ix (ix_listK K) (pv 8) (pv 9) (fun _ _ => rfl)) (fun _ _ => rfl)) (fun _ _ => rfl))) (pg_name (i := 7) sc_least_form.nd rfl (Or.inl rfl)) (pss_one (ps_if (pt_cmpR (op_notInK K) (pe_dget hu (pv 5) (pv 7) (fun _ _ => rfl)) (pv 8) (by rfl)) (pss_one (ps_expr (pe_bmK K PySem.F.plainAttrs_list PySem.F.slot_list_append PySem.F.type_list_append mt_append (pv 8) (pa_cons (pe_dget hu (pv 5) (pv 7) (fun _ _ => rfl)) pa_nil)))) pss_nil)))
    (pss_one (ps_set (i := 9) sc_least_form.nd rfl (Or.inl rfl) (pe_op op_add (pv 9) pe_int)))))
  (pss_cons (ps_set (i := 10) sc_least_form.nd rfl (Or.inr rfl) pe_dnewK)
  (pss_cons (ps_for PassesOwn.never rfl (pi_enumK K (by rfl) T.enumerate (pa_cons (pv 8) pa_nil)) (pg_tupK K (n := 2) rfl (pgs_cons (pg_name (i := 11) sc_least_form.nd rfl (Or.inl rfl)) (pgs_cons (pg_name (i := 12) sc_least_form.nd rfl (Or.inl rfl)) pgs_nil))) (pss_one (ps_dput hu (pv 10) (pv 12) (pv 11) rfl)))
  (pss_cons (ps_set (i := 13) sc_least_form.nd rfl (Or.inl rfl) (pe_callTy (call_tupK K) (by rfl) T.tuple (by decide +kernel) (pa_cons (pe_lc (own := [("one", 12)]) (tt := tYes) rfl sc_least_form.nd (pi_listK K (pv 8)) (blkOk_by (N := N_least_form) (sc := (defScope s_least_form)) (by decide +kernel)) (fun _ _ _ _ _ => (pg_name (i := 12) sc_least_form.nd rfl (Or.inl rfl))) (fun _ _ _ _ _ => pts_nil) (fun _ _ _ _ _ => (pe_callTy (call_tupK K) (by rfl) T.tuple (by decide +kernel) (pa_cons (pe_lc (own := [("state", 7)]) (tt := tYes) rfl sc_least_form.nd (pi_listK K (pe_ix (ix_listK K) (pv 0) (pe_dget hu (pv 6) (pv 12) (fun _ _ => rfl)) (fun _ _ => rfl))) (blkOk_by (N := N_least_form) (sc := (relS _ (defScope s_least_form))) (by decide +kernel)) (fun _ _ _ _ _ => (pg_name (i := 7) sc_least_form.nd rfl (Or.inl rfl))) (fun _ _ _ _ _ => pts_nil) (fun _ _ _ _ _ => (pe_dget hu (pv 10) (pe_dget hu (pv 5) (pv 7) (fun _ _ => rfl)) (fun _ _ => rfl)))) pa_nil)))) pa_nil)))
  (pss_one (ps_ret (pe_tup (pa_cons (pv 13) (pa_cons (pe_callTy (call_tupK K) (by rfl) T.tuple (by decide +kernel) (pa_cons (pe_lc (own := [("spot", 11), ("one", 12)]) rfl sc_least_form.nd (pi_enumK K (by rfl) T.enumerate (pa_cons (pv 8) pa_nil)) (blkOk_by (N := N_least_form) (sc := (defScope s_least_form)) (by decide +kernel)) (fun _ _ _ _ _ => (pg_tupK K (n := 2) rfl (pgs_cons (pg_name (i := 11) sc_least_form.nd rfl (Or.inl rfl)) (pgs_cons (pg_name (i := 12) sc_least_form.nd rfl (Or.inl rfl)) pgs_nil)))) (fun _ _ _ _ _ => (pts_one (pt_cmp (pc_din hu (pe_dget hu (pv 6) (pv 12) (fun _ _ => rfl)) (pv 3))))) (fun _ _ _ _ _ => (pv 11))) pa_nil)) pa_nil))))))))))))))), ?_⟩
  obtain ⟨ae, rfl, qe⟩ := l_of hve
  -- states, kept = (led_to(steps), {})
  refine ⟨_, rfl, v, L, S, rfl, hv, W, by omega, fun H1 pst sts n0 s1 hpst h1 b0 hn0 kd hkd => ⟨by show 2 ≤ sizeLine; decide, fun t1 ht1 => ⟨t1, _, rfl, SqT.of upd_same, rfl, _, _, rfl, _, _, rfl, rfl, ?_⟩⟩⟩
  have led : Led L S sts := bfs_led W b0 hn0
  have nd := b0.nodup
  have hlen : sts.length ≤ S.length := nodup_bound nd led.lt
  have s1' : Same H1 (upd (upd H1 kd (.dK [])) t1 (.tup [.ref pst, .ref kd])) := Same.trans (same_new hkd) (same_new ht1)
  -- for end in ends
  refine ⟨_, rfl, ae, rfl, ⟨_, (Same.trans s1 s1').seq qe⟩, for_list (K := K) (a := ae) (xs := E.map vN) (fun i σ H2 => ∃ x4, σ = [some v, some (.ref ae), some (.ref pst), some (.ref kd), x4, none, none, none, none, none, none, none, none, none] ∧ Same H1 H2 ∧ H2 kd = some (.dK (gk (E.take i) fun _ => .bl true)))
    ⟨none, rfl, s1', by rw [same_new ht1 _ _ upd_same]; rfl⟩ (fun i σ H2 _ ⟨_, _, q, _⟩ => (Same.trans s1 q).seq qe) ?_ ?_⟩
  · rintro i y σ H2 hi ⟨x4, rfl, s2, h2⟩
    obtain ⟨e, he, rfl⟩ := get_vN hi
    have hil := lt_of_get he
    refine ⟨_, rfl, _, rfl, kd, _, rfl, DPut.k (k := (Sum.inl (e : Int) : Key)) h2 (line_lt (by rw [gk_len, List.length_take]; omega)), _, rfl, s2.put hkd, ?_⟩
    rw [upd_same, gk_put_at hE he _ rfl]
  rintro σ H2 ⟨x4, rfl, s2, h2⟩
  rw [List.length_map, List.take_length] at h2
  clear s1' ht1
  have sH2 := Same.trans s1 s2
  -- group = parted(steps, kept, states); heads = {}
  refine ⟨_, rfl, _, rfl, _, rfl, v, kd, pst, L, S, E, sts, rfl, dp_mono sH2 hv, h2, s2 _ _ h1, hL, hL3, led, nd, b0.pos, by omega, fun H3 pg g s3 hpg h3 al hd hhd => ?_⟩
  have Z : Quo L S E sts g (rep sts g) := quo_of led b0.mem al
  have sH3 := Same.trans sH2 s3
  have dgG : ∀ (H' : Hp) (n : Nat), Same H3 H' → n ∈ sts → DGet H' pg (vN n) (some (vN (g n))) := fun H' n sm hn => by
    have := DGet.k (k := (Sum.inl (n : Int) : Key)) (sm _ _ h3)
    rw [gk_in hn] at this
    exact this
  -- for state in states
  refine ⟨_, rfl, pst, rfl, ⟨_, SqL.of (same_new hhd _ _ (s3 _ _ (s2 _ _ h1)))⟩, for_list (K := K) (a := pst) (xs := sts.map vN) (fun i σ H5 => ∃ x7, σ = [some v, some (.ref ae), some (.ref pst), some (.ref kd), x4, some (.ref pg), some (.ref hd), x7, none, none, none, none, none, none] ∧ Same H3 H5 ∧ H5 hd = some (.dK (gk (hks g (sts.take i)) fun c => vN (rep sts g c))))
    ⟨none, rfl, same_new hhd, upd_same⟩ (fun i σ H2 _ ⟨_, _, q, _⟩ => SqL.of (q _ _ (s3 _ _ (s2 _ _ h1)))) ?_ ?_⟩
  · rintro i y σ H5 hi ⟨x7, rfl, s5, h5⟩
    obtain ⟨s, hs, rfl⟩ := get_vN hi
    have hmem := List.mem_of_getElem? hs
    refine ⟨_, rfl, hd, rfl, .inl ⟨_, .inl h5⟩, _, rfl, _, rfl, pg, _, rfl, dgG _ s s5 hmem, _, rfl, _, (Sum.inl ((g s : Nat) : Int) : Key), h5, rfl, line_lt (by rw [gk_len]; have := hks_len (g := g) (l := sts) (i := i); omega), fun u hu => ?_, fun hn => ?_⟩
    · have hin : g s ∈ hks g (sts.take i) := Classical.byContradiction fun z => by rw [gk_out z] at hu; cases hu
      refine ⟨_, rfl, s5, ?_⟩
      rw [hks_take hs, if_pos hin]
      exact h5
    · have hin : ¬ g s ∈ hks g (sts.take i) := fun z => by rw [gk_in z] at hn; cases hn
      refine ⟨_, rfl, s5.put hhd, ?_⟩
      rw [upd_same, hks_take hs, if_neg hin, gk_put hin _ (by rw [rep_new hs hin])]
  rintro σ H5 ⟨x7, rfl, s5, h5⟩
  rw [List.length_map, List.take_length] at h5
  have sH5 := Same.trans sH3 s5
  have dgH : ∀ (H' : Hp) (n : Nat), Same H5 H' → n ∈ sts → DGet H' hd (vN (g n)) (some (vN (rep sts g (g n)))) := fun H' n sm hn => by
    have := DGet.k (k := (Sum.inl ((g n : Nat) : Int) : Key)) (sm _ _ h5)
    rw [gk_in (mem_hks.mpr (List.mem_map.mpr ⟨n, hn, rfl⟩))] at this
    exact this
  have rowof : ∀ n ∈ sts, ∃ a xs c r, v = .ref a ∧ SqL K H a xs ∧ atI xs ((rep sts g (g n) : Nat) : Int) = some (.ref c) ∧ SqL K H c (r.map vN) ∧ r.length = L ∧ (∀ x ∈ r, x ∈ sts) ∧ S.getD (rep sts g (g n)) [] = r := fun n hn => by
    have hrep := Z.rep_in n hn
    obtain ⟨r, hr1, hr2, hr3⟩ := W.at (led.lt _ hrep)
    obtain ⟨a, xs, c, ev, q1, q2, q3⟩ := row_l hv hr1
    have er : S.getD (rep sts g (g n)) [] = r := getD_of hr1
    refine ⟨a, xs, c, r, ev, q1, q2, q3, hr2, fun x hx => ?_, er⟩
    obtain ⟨l, hl, rfl⟩ := (W.mem_row (led.lt _ hrep)).mp (by rw [er]; exact hx)
    exact led.cl _ hrep l hl
  -- order, at = ([group[0]], 0)
  refine ⟨_, rfl, pg, _, rfl, dgG _ 0 s5 b0.mem, by show 1 ≤ sizeLine; decide, fun po hpo => ⟨_, _, rfl, ?_⟩⟩
  -- while at < len(order)
  refine ⟨fun m σ H6 => ∃ (ord : List Nat) (n : Nat) (x7 : Option V), σ = [some v, some (.ref ae), some (.ref pst), some (.ref kd), x4, some (.ref pg), some (.ref hd), x7, some (.ref po), some (vN n), none, none, none, none] ∧ m = sts.length - n ∧ Same H5 H6 ∧ H6 po = some (.lst (ord.map vN)) ∧ Bfs (quoN S g (rep sts g)) (g 0) ord n, ⟨_, [g 0], 0, x7, rfl, rfl, same_new hpo, upd_same, .start⟩, ?_⟩
  rintro m σ H6 ⟨ord, n, x7, rfl, rfl, s6, h6, b⟩
  refine ⟨_, rfl, _, rfl, po, _, rfl, .inl (SqL.of h6), _, _, rfl, rfl, _, rfl, ?_⟩
  rw [List.length_map]
  have hordl := Z.len b
  by_cases hn : n < ord.length
  · refine ifT (decide_eq_true (by omega)) ⟨_, fun _ _ z => z, ?_⟩
    obtain ⟨c, hc⟩ := get_some hn
    obtain ⟨s, hs, rfl⟩ := Z.of_order b c (List.mem_of_getElem? hc)
    obtain ⟨a, xs, cc, r, rfl, q1, q2, q3, hr2, hrs, er⟩ := rowof s hs
    have s06 := Same.trans sH5 s6
    refine ⟨_, rfl, _, rfl, _, rfl, _, rfl, po, _, _, _, rfl, rfl, SqL.of h6, at_num hc, hd, _, rfl, dgH _ s s6 hs, a, xs, _, _, rfl, rfl, s06.seq q1, q2, cc, rfl, ⟨_, s06.seq q3⟩,
      for_list (K := K) (a := cc) (xs := r.map vN) (fun i σ H7 => ∃ x7, σ = [some (.ref a), some (.ref ae), some (.ref pst), some (.ref kd), x4, some (.ref pg), some (.ref hd), x7, some (.ref po), some (vN n), none, none, none, none] ∧ Same H5 H7 ∧ H7 po = some (.lst ((addAll ord ((r.take i).map g)).map vN))) ⟨x7, rfl, s6, by rw [h6]; rfl⟩ (fun i σ H2 _ ⟨_, _, q, _⟩ => (Same.trans sH5 q).seq q3) ?_ ?_⟩
    · rintro i y σ H7 hi ⟨x7, rfl, s7, h7⟩
      obtain ⟨t, ht, rfl⟩ := get_vN hi
      have hts := hrs t (List.mem_of_getElem? ht)
      have el : (addAll ord ((r.take i).map g)).length < sizeLine := line_lt (by
        have := sub_len (m := sts.map g) (addAll_nodup (xs := (r.take i).map g) b.nodup) fun z hz => by
          rcases mem_addAll.mp hz with hz | hz
          · obtain ⟨s, hs, e⟩ := Z.of_order b z hz
            exact List.mem_map.mpr ⟨s, hs, e⟩
          · obtain ⟨x, hx, e⟩ := List.mem_map.mp hz
            exact List.mem_map.mpr ⟨x, hrs x (List.mem_of_mem_take hx), e⟩
        rw [List.length_map] at this
        omega)
      refine ⟨_, rfl, _, rfl, pg, _, rfl, dgG _ t (Same.trans s5 s7) hts, _, rfl, po, _, rfl, .inl (SqL.of h7), rfl, flat_nums _, _, rfl, ?_⟩
      rw [inV_num]
      by_cases hm : g t ∈ addAll ord ((r.take i).map g)
      · refine ifF (by rw [decide_eq_true hm]; rfl) ⟨_, rfl, s7, ?_⟩
        rw [h7, take_snoc ht, List.map_append]
        show _ = some (HO.lst ((addAll ord ((r.take i).map g ++ [g t])).map vN))
        rw [addAll_snoc, if_pos hm]
      · refine ifT (by rw [decide_eq_false hm]; rfl) ⟨_, rfl, .inl ⟨rfl, _, SqL.of h7⟩, _, rfl, _, rfl, pg, _, rfl, dgG _ t (Same.trans s5 s7) hts, po, _, _, rfl, rfl, h7, by rw [List.length_map]; exact el, _, rfl, s7.put hpo, ?_⟩
        rw [upd_same, take_snoc ht, List.map_append (f := g)]
        show _ = some (HO.lst ((addAll ord ((r.take i).map g ++ [g t])).map vN))
        rw [addAll_snoc, if_neg hm, List.map_append]
        rfl
    · rintro σ H7 ⟨x7, rfl, s7, h7⟩
      rw [List.length_map, List.take_length] at h7
      refine ⟨_, rfl, _, _, rfl, rfl, sts.length - (n + 1), by omega, addAll ord (r.map g), n + 1, x7, rfl, rfl, s7, h7, ?_⟩
      have := b.turn hc
      show Bfs _ _ (addAll ord (r.map g)) (n + 1)
      rw [← er]
      exact this
  refine ifF (decide_eq_false (by omega)) ?_
  have hm : ord.length ≤ n := by omega
  have s36 := Same.trans s5 s6
  have s06 := Same.trans sH5 s6
  have ofc : ∀ c ∈ ord, ∃ s ∈ sts, g s = c := Z.of_order b
  have inord : ∀ s ∈ sts, g s ∈ ord := Z.in_order b0 b hm
  -- place = {}
  intro pl hpl
  refine ⟨_, rfl, po, _, rfl, SqL.of (same_new hpl _ _ h6), for_it (walk_enum (K := K) (a := po) (xs := ord.map vN)) (fun i σ H8 => ∃ x11 x12, σ = [some v, some (.ref ae), some (.ref pst), some (.ref kd), x4, some (.ref pg), some (.ref hd), x7, some (.ref po), some (vN n), some (.ref pl), x11, x12, none] ∧ Same H6 H8 ∧ H8 pl = some (.dK (gk (ord.take i) fun c => vN (ord.idxOf c))))
    ⟨none, none, rfl, same_new hpl, upd_same⟩ (fun i σ H8 _ ⟨_, _, _, q, _⟩ => SqL.of (q _ _ h6)) ?_ ?_⟩
  · rintro i x σ H8 H9 hi ⟨x11, x12, rfl, s8, h8⟩ ⟨T9, u1, u2, rfl, hT, rfl, e1, e2⟩
    cases e1
    obtain ⟨c, hc, rfl⟩ := get_vN e2
    refine ⟨T9, _, rfl, SqT.of upd_same, rfl, _, _, rfl, _, _, rfl, rfl, _, rfl, _, rfl, _, rfl, pl, _, rfl, DPut.k (k := (Sum.inl (c : Int) : Key)) (same_new hT _ _ h8) (line_lt (by rw [gk_len, List.length_take]; omega)), _, _, rfl, Same.put (Same.trans s8 (same_new hT)) hpl, ?_⟩
    rw [upd_same, gk_put_at b.nodup hc _ (by rw [idxOf_get b.nodup hc])]
  rintro σ H8 ⟨x11, x12, rfl, s8, h8⟩
  rw [List.length_map, List.take_length] at h8
  have s08 := Same.trans s06 s8
  have s38 := Same.trans s36 s8
  have s58 := Same.trans s6 s8
  have dgP : ∀ (H' : Hp) (c : Nat), Same H8 H' → c ∈ ord → DGet H' pl (vN c) (some (vN (ord.idxOf c))) := fun H' c sm hc => by
    have := DGet.k (k := (Sum.inl (c : Int) : Key)) (sm _ _ h8)
    rw [gk_in hc] at this
    exact this
  have h8o := s8 _ _ h6
  -- told = tuple(..)
  refine ⟨_, rfl, po, rfl, ⟨_, SqL.of h8o⟩, fun D hD => lc_d (K := K) walk_list (fun i => (ord.take i).map fun c => dT ((S.getD (rep sts g c) []).map fun x => ord.idxOf (g x))) hD rfl (fun H' sm => SqL.of (sm _ _ h8o)) (fun i x Ha Hb hi p y => ?_) fun acc Hd h1d h2d h3d => ?_⟩
  · obtain ⟨rfl, hx⟩ := y
    obtain ⟨c, hc, rfl⟩ := get_vN hx
    obtain ⟨s, hs, rfl⟩ := ofc c (List.mem_of_getElem? hc)
    obtain ⟨a, xs, cc, r, rfl, q1, q2, q3, hr2, hrs, er⟩ := rowof s hs
    have s0a := Same.trans s08 p.same
    refine ⟨rfl, _, rfl, _, rfl, _, rfl, hd, _, rfl, dgH _ s (Same.trans s58 p.same) hs, a, xs, _, _, rfl, rfl, s0a.seq q1, q2, cc, rfl, ⟨_, s0a.seq q3⟩, fun D2 hD2 => lc_d (K := K) walk_list (fun j => (r.take j).map fun x => dN (ord.idxOf (g x))) hD2 rfl (fun H' sm => Same.seq (Same.trans s0a sm) q3) (fun j x Hc Hd hj p2 y => ?_) fun acc Hc h1 h2 h3 => ?_⟩
    · obtain ⟨rfl, hx⟩ := y
      obtain ⟨t, ht, rfl⟩ := get_vN hx
      have hts := hrs t (List.mem_of_getElem? ht)
      have sac := Same.trans p.same p2.same
      refine ⟨rfl, _, rfl, _, rfl, _, rfl, pg, _, rfl, dgG _ t (Same.trans s38 sac) hts, pl, _, rfl, dgP _ (g t) sac (inord t hts), ?_⟩
      exact p2.put0 (line_lt (by have := lt_of_get ht; omega)) (.int _) (take_map _ r ht)
    · have eacc : acc = (r.map fun x => ord.idxOf (g x)).map vN := nums_of (by
        rw [List.length_map, List.take_length] at h3
        rw [List.map_map]
        exact h3)
      subst eacc
      have sac : Same Hb Hc := Same.trans h2 (wo_same _ _)
      refine ⟨D2, _, rfl, .inl ⟨SqL.of h1, fun t ht => ?_⟩⟩
      obtain ⟨u, hu⟩ := Option.ne_none_iff_exists'.mp p.some
      have hcD : Hc D = some u := sac _ _ hu
      refine p.put (d := dT ((S.getD (rep sts g (g s)) []).map fun x => ord.idxOf (g x))) (line_lt (by have := lt_of_get hc; omega)) ((same_new ht _ _ hcD).trans hu.symm) (wo_mono (Same.trans sac (same_new ht))) ?_ (take_map _ ord hc)
      rw [er]
      exact dp_new_t ht (by rw [hcD]; exact fun z => nomatch z)
  rw [List.length_map, List.take_length] at h3d
  have s8d : Same H8 Hd := Same.trans h2d (wo_same _ _)
  refine ⟨D, _, rfl, .inl ⟨SqL.of h1d, fun tt htt => ?_⟩⟩
  have sdt : Same (Wo [D] Hd) (upd Hd tt (.tup acc)) := Same.trans (wo_same _ _) (same_new htt)
  have dT0 : DpAll K (upd Hd tt (.tup acc)) acc ((quoT S g (rep sts g) ord).map dT) := by
    unfold quoT
    rw [List.map_map]
    exact dpAll_mono sdt h3d
  have dT1 : Dp K (upd Hd tt (.tup acc)) (.ref tt) (dTT (quoT S g (rep sts g) ord)) := .tup (SqT.of upd_same) dT0
  have s8t : Same H8 (upd Hd tt (.tup acc)) := Same.trans s8d (same_new htt)
  generalize upd Hd tt (.tup acc) = Ht at dT1 s8t ⊢
  -- return (told, tuple(..))
  have hto := s8t _ _ h8o
  refine ⟨_, rfl, _, rfl, po, _, rfl, SqL.of hto, fun D3 hD3 => lc_d (K := K) walk_enum (fun i => ((List.range i).filter fun j => decide (rep sts g (ord.getD j 0) ∈ E)).map dN) hD3 rfl (fun H' sm => SqL.of (sm _ _ hto)) (fun i x Ha Hb hi p y => ?_) fun acc He h1e h2e h3e => ?_⟩
  · obtain ⟨T9, u1, u2, rfl, hT, rfl, e1, e2⟩ := y
    cases e1
    obtain ⟨c, hc, rfl⟩ := get_vN e2
    obtain ⟨s, hs, rfl⟩ := ofc c (List.mem_of_getElem? hc)
    have sta : Same Ht (upd Ha T9 (.tup [.int (i : Nat), vN (g s)])) := Same.trans p.same (same_new hT)
    have s8a := Same.trans s8t sta
    have hkd8 := s8a _ _ (s38 _ _ (s3 _ _ h2))
    obtain ⟨k1, k2⟩ := new_keeps (o := .tup [.int (i : Nat), vN (g s)]) hT p.some
    refine ⟨T9, _, rfl, SqT.of upd_same, rfl, _, _, rfl, _, _, rfl, rfl, rfl, _, rfl, _, rfl, hd, _, rfl, dgH _ s (Same.trans s58 s8a) hs, _, rfl, kd, _, rfl, DGet.k (k := (Sum.inl ((rep sts g (g s) : Nat) : Int) : Key)) hkd8, _, rfl, ?_⟩
    rw [gk_is]
    have eo : ord.getD i 0 = g s := getD_of hc
    by_cases q : rep sts g (g s) ∈ E
    · refine ifT (decide_eq_true q) ⟨_, rfl, p.put (d := dN i) (line_lt (by have := lt_of_get hc; omega)) k1 k2 (.int _) ?_⟩
      rw [filter_range, if_pos (by rw [eo]; exact decide_eq_true q), List.map_append]
      rfl
    · refine ifF (decide_eq_false q) (p.skip k1 k2 ?_)
      rw [filter_range, if_neg (by rw [eo]; simpa using q)]
  rw [List.length_map] at h3e
  have eacc : acc = (quoF E (rep sts g) ord).map vN := nums_of h3e
  subst eacc
  have ste : Same Ht He := Same.trans h2e (wo_same _ _)
  refine ⟨D3, _, rfl, .inl ⟨SqL.of h1e, fun t2 ht2 => ⟨by show 2 ≤ sizeLine; decide, fun pr hpr => ?_⟩⟩⟩
  have sfin : Same He (upd (upd He t2 (.tup ((quoF E (rep sts g) ord).map vN))) pr (.tup [.ref tt, .ref t2])) := Same.trans (same_new ht2) (same_new hpr)
  have s0e := Same.trans s08 (Same.trans s8t ste)
  refine k _ pr (.ref tt) (.ref t2) (quoT S g (rep sts g) ord) (quoF E (rep sts g) ord) (Same.trans s0e sfin) (Same.free (Same.trans s0e (same_new ht2)) hpr) upd_same (dp_mono (Same.trans ste sfin) dT1) (dp_t (SqT.of (same_new hpr _ _ upd_same))) (Z.least b0 b hm) (Z.same b0 b hm) ?_
  rw [quoT_length]
  omega
end
end M22

set_option maxRecDepth 100000
set_option maxHeartbeats 4000000
namespace M22
open PySem PySem.Spec PyProof.Rows L2
section
variable {P : Program} {w : World} {K : PySem.W.Frag} {mg : Str → Option Value} {base : Heap} {CM CT : Addr}
def spAreSteps (K : PySem.W.Frag) : Sp := fun vs H Q _ => ∃ (L : Nat) (v : V) (S : Steps), vs = [vN L, v] ∧ Dp K H v (dLL S) ∧ Whole L S ∧ L ≤ 3 ∧ S.length ≤ 12 ∧ ∀ H', Same H H' → Q (.bl true) H'
abbrev s_are_steps : Stmt := top 32
abbrev N_are_steps : List Str := ["letters", "value", "row", "state"]
theorem sc_are_steps : FnScope N_are_steps ["letters", "value"] (defScope s_are_steps) := ⟨rfl, rfl, rfl, by decide +kernel, rfl, by decide +kernel, by decide +kernel⟩
theorem ok_are_steps (T : Tx K mg CM CT) (D : DefAt K mg "are_steps" s_are_steps) (c_is_list : Cal P w K mg base 1 "is_list" ["value"] (spIsList K)) (c_is_count : Cal P w K mg base 2 "is_count" ["value"] spIsCount) : Cal P w K mg base 3 "are_steps" ["letters", "value"] (spAreSteps K) := by
  refine cal_of D sc_are_steps (fun _ _ _ _ _ _ us hl => match us, hl with | [_, _], _ => rfl) (fun vs H Q E h => ?_) (fun f cdv A outer s H vs Q E hr h => ?_)
  · obtain ⟨_, _, _, rfl, _⟩ := h
    rfl
  have hu := hu_of hr
  obtain ⟨L, v, S, rfl, hv, W, hL3, hS, k⟩ := h
  refine ⟨_, (pss_cons (ps_if (PW.pt (pw_or (pt_not (pt_val (pe_c c_is_list hr (by decide) rfl (pa_cons (pv 1) pa_nil)))) (pw_or1 (pt_not (pt_chain op_le op_le pe_int (pe_callB (call_lenK K) (by rfl) T.len PySem.boot_len (pa_cons (pv 1) pa_nil)) (pe_g (by rfl) T.MOST_GIVEN)))))) (pss_one (ps_ret pe_bl)) pss_nil)
  (pss_cons (ps_for PassesOwn.never rfl (pi_listK K (pv 1)) (pg_name (i := 2) sc_are_steps.nd rfl (Or.inl rfl)) (pss_cons (ps_if (PW.pt (pw_or (pt_not (pt_val (pe_c c_is_list hr (by decide) rfl (pa_cons (pv 2) pa_nil)))) (pw_or1 (pt_cmpR op_ne (pe_callB (call_lenK K) (by rfl) T.len PySem.boot_len (pa_cons (pv 2) pa_nil)) (pv 0) (nomark _))))) (pss_one (ps_ret pe_bl)) pss_nil)
    (pss_one (ps_if (pt_not (pt_val (pe_callB (cr_allK K rfl) (by rfl) T.all (by decide +kernel) (pa_cons (pe_lc (own := [("state", 3)]) (tt := tYes) rfl sc_are_steps.nd (pi_listK K (pv 2)) (blkOk_by (N := N_are_steps) (sc := (defScope s_are_steps)) (by decide +kernel)) (fun _ _ _ _ _ => (pg_name (i := 3) sc_are_steps.nd rfl (Or.inl rfl))) (fun _ _ _ _ _ => pts_nil) (fun _ _ _ _ _ => (pe_and (pe_c c_is_count hr (by decide) rfl (pa_cons (pv 3) pa_nil)) (pe_one (pe_cmpR op_lt (pv 3) (pe_callB (call_lenK K) (by rfl) T.len PySem.boot_len (pa_cons (pv 1) pa_nil)) (nomark _)))))) pa_nil)))) (pss_one (ps_ret pe_bl)) pss_nil))))
  (pss_one (ps_ret pe_bl)))), ?_⟩
  obtain ⟨a, xs, rfl, hs, hl, hd⟩ := dp_len_l hv
  have hpos := W.pos
  refine ⟨_, rfl, a, rfl, ⟨_, .inl hs⟩, fun H1 s1 => ⟨true, rfl, ifF rfl ⟨_, rfl, a, xs, rfl, .inl (s1.seq hs), _, _, rfl, rfl, _, rfl, ifT (decide_eq_true (by omega)) ⟨_, _, rfl, rfl, _, rfl, ?_⟩⟩⟩⟩
  refine ifF (by simp; omega) ?_
  refine ⟨_, rfl, a, rfl, ⟨_, s1.seq hs⟩, for_list (K := K) (a := a) (xs := xs) (fun i σ H2 => ∃ x2, σ = [some (vN L), some (.ref a), x2, none] ∧ Same H H2) ⟨none, rfl, s1⟩ (fun i σ H2 _ ⟨_, _, q⟩ => q.seq hs) ?_ ?_⟩
  · rintro i y σ H2 hi ⟨x2, rfl, s2⟩
    obtain ⟨d, hdd, dy⟩ := hd.get' hi
    rw [List.getElem?_map] at hdd
    obtain ⟨r, hr, rfl⟩ := Option.map_eq_some_iff.mp hdd
    obtain ⟨hr2, hr3⟩ := W.row r (List.mem_of_getElem? hr)
    obtain ⟨b, rfl, qb⟩ := l_of dy
    refine ⟨_, rfl, b, rfl, ⟨_, .inl (s2.seq qb)⟩, fun H3 s3 => ⟨true, rfl, ifF rfl ⟨_, rfl, b, _, rfl, .inl ((Same.trans s2 s3).seq qb), _, rfl, rfl, _, rfl, ifF ?_ ?_⟩⟩⟩
    · rw [List.length_map, hr2]
      simp
    have s03 := Same.trans s2 s3
    refine ⟨_, rfl, b, rfl, ⟨_, s03.seq qb⟩, fun D hD => lc_d (K := K) walk_list (fun j => (r.take j).map fun _ => PyData.bool true) hD rfl (fun H' sm => (Same.trans s03 sm).seq qb) (fun j x Ha Hb hj p y => ?_) fun acc Ha h1 h2 h3 => ?_⟩
    · obtain ⟨rfl, hx⟩ := y
      obtain ⟨n, hn, rfl⟩ := get_vN hx
      have := hr3 n (List.mem_of_getElem? hn)
      refine ⟨rfl, _, rfl, _, rfl, decide ((0 : Int) ≤ (n : Int)), rfl, ifT (decide_eq_true (by omega)) ⟨_, rfl, _, rfl, a, xs, rfl, .inl ((Same.trans s03 p.same).seq hs), _, _, rfl, rfl, ?_⟩⟩
      have dq : Dp K (Wo [D] Hb) (.bl (decide ((n : Int) < (xs.length : Int)))) (.bool true) := by rw [decide_eq_true (by omega)]; exact .bl true
      exact p.put0 (line_lt (by have := lt_of_get hn; omega)) dq (take_map _ r hn)
    · have e : acc = (r.map fun _ => true).map V.bl := bls_of (by
        rw [List.length_map, List.take_length] at h3
        rw [List.map_map]
        exact h3)
      refine ⟨D, r.map fun _ => true, rfl, SqL.of (by rw [h1, e]), ?_⟩
      rw [show (r.map fun _ => true).all id = true by simp]
      exact ⟨true, rfl, ifF rfl ⟨_, rfl, Same.trans s03 (Same.trans h2 (wo_same _ _))⟩⟩
  · rintro σ H2 ⟨x2, rfl, s2⟩
    exact k H2 s2
def spAreEnds (K : PySem.W.Frag) : Sp := fun vs H Q _ => ∃ (n : Nat) (v : V) (E : List Nat), vs = [vN n, v] ∧ Dp K H v (dL E) ∧ E.Nodup ∧ E.length ≤ 60 ∧ (∀ e ∈ E, e < n) ∧ ∀ H', Same H H' → Q (.bl true) H'
abbrev s_are_ends : Stmt := top 33
abbrev N_are_ends : List Str := ["states", "value", "state"]
theorem sc_are_ends : FnScope N_are_ends ["states", "value"] (defScope s_are_ends) := ⟨rfl, rfl, rfl, by decide +kernel, rfl, by decide +kernel, by decide +kernel⟩
theorem ok_are_ends (T : Tx K mg CM CT) (D : DefAt K mg "are_ends" s_are_ends) (c_is_list : Cal P w K mg base 1 "is_list" ["value"] (spIsList K)) (c_is_count : Cal P w K mg base 2 "is_count" ["value"] spIsCount) : Cal P w K mg base 3 "are_ends" ["states", "value"] (spAreEnds K) := by
  refine cal_of D sc_are_ends (fun _ _ _ _ _ _ us hl => match us, hl with | [_, _], _ => rfl) (fun vs H Q E h => ?_) (fun f cdv A outer s H vs Q E hr h => ?_)
  · obtain ⟨_, _, _, rfl, _⟩ := h
    rfl
  have hu := hu_of hr
  obtain ⟨n, v, E, rfl, hv, nd, hl, hlt, k⟩ := h
  refine ⟨_, (pss_cons (ps_if (PW.pt (pw_or (pt_not (pt_val (pe_c c_is_list hr (by decide) rfl (pa_cons (pv 1) pa_nil)))) (pw_or1 (pt_not (pt_val (pe_callB (cr_allK K rfl) (by rfl) T.all (by decide +kernel) (pa_cons (pe_lc (own := [("state", 2)]) (tt := tYes) rfl sc_are_ends.nd (pi_listK K (pv 1)) (blkOk_by (N := N_are_ends) (sc := (defScope s_are_ends)) (by decide +kernel)) (fun _ _ _ _ _ => (pg_name (i := 2) sc_are_ends.nd rfl (Or.inl rfl))) (fun _ _ _ _ _ => pts_nil) (fun _ _ _ _ _ => (pe_and (pe_c c_is_count hr (by decide) rfl (pa_cons (pv 2) pa_nil)) (pe_one (pe_cmpR op_lt (pv 2) (pv 0) (nomark _)))))) pa_nil))))))) (pss_one (ps_ret pe_bl)) pss_nil)
  (pss_one (ps_ret (pe_cmpR op_eq (pe_callB (call_lenK K) (by rfl) T.len PySem.boot_len (pa_cons (pe_callB (cr_sortedSet rfl) (by rfl) T.sorted (by decide +kernel) (pa_cons (pe_callTy (cr_setI rfl) (by rfl) T.set (by decide +kernel) (pa_cons (pv 1) pa_nil)) pa_nil)) pa_nil)) (pe_callB (call_lenK K) (by rfl) T.len PySem.boot_len (pa_cons (pv 1) pa_nil)) (nomark _))))), ?_⟩
  obtain ⟨a, rfl, hs⟩ := l_of hv
  refine ⟨_, rfl, a, rfl, ⟨_, .inl hs⟩, fun H1 s1 => ⟨true, rfl, ifF rfl ⟨_, rfl, a, rfl, ⟨_, s1.seq hs⟩, fun D hD => lc_d (K := K) walk_list (fun j => (E.take j).map fun _ => PyData.bool true) hD rfl (fun H' sm => (Same.trans s1 sm).seq hs) (fun j x Ha Hb hj p y => ?_) fun acc Ha h1 h2 h3 => ?_⟩⟩⟩
  · obtain ⟨rfl, hx⟩ := y
    obtain ⟨m, hm, rfl⟩ := get_vN hx
    have := hlt m (List.mem_of_getElem? hm)
    refine ⟨rfl, _, rfl, _, rfl, decide ((0 : Int) ≤ (m : Int)), rfl, ifT (decide_eq_true (by omega)) ⟨_, rfl, _, rfl, _, _, rfl, rfl, ?_⟩⟩
    have dq : Dp K (Wo [D] Hb) (.bl (decide ((m : Int) < (n : Int)))) (.bool true) := by rw [decide_eq_true (by omega)]; exact .bl true
    exact p.put0 (line_lt (by have := lt_of_get hm; omega)) dq (take_map _ E hm)
  · have e : acc = (E.map fun _ => true).map V.bl := bls_of (by
      rw [List.length_map, List.take_length] at h3
      rw [List.map_map]
      exact h3)
    refine ⟨D, E.map fun _ => true, rfl, SqL.of (by rw [h1, e]), ?_⟩
    rw [show (E.map fun _ => true).all id = true by simp]
    have s0a : Same H Ha := Same.trans s1 (Same.trans h2 (wo_same _ _))
    refine ⟨true, rfl, ifF rfl ?_⟩
    refine ⟨_, rfl, a, E.map fun n : Nat => (n : Int), rfl, .inl (by rw [← int_map]; exact s0a.seq hs), by rw [List.length_map]; omega, fun a2 c Sb ha2 hSb hc => ?_⟩
    have hcl := hc _ (cast_nodup nd) fun _ => Iff.rfl
    rw [List.length_map] at hcl
    refine ⟨a2, _, c, rfl, upd_same, by omega, fun ns p2 pw mem hln hp2 => ⟨p2, _, rfl, .inl (SqL.of upd_same), ?_⟩⟩
    have sf := Same.trans (same_new (o := SetO w a2 Sb c) ha2) (same_new (o := .lst (ns.map V.int)) hp2)
    refine ⟨_, rfl, a, _, rfl, .inl ((Same.trans s0a sf).seq hs), rfl, ?_⟩
    rw [List.length_map, List.length_map, hln, hcl]
    rw [decide_eq_true rfl]
    exact k _ (Same.trans s0a sf)
def spMInit (K : PySem.W.Frag) (CM : Addr) : Sp := fun vs H Q _ => ∃ (p dx : Addr) (L : Nat) (v ve : V) (S : Steps) (E : List Nat), vs = [.ref p, vN L, v, ve] ∧ H p = some (.ins CM dx []) ∧ Dp K (Wo [p] H) v (dLL S) ∧ Dp K (Wo [p] H) ve (dL E) ∧
  Whole L S ∧ 0 < L ∧ L ≤ 3 ∧ S.length ≤ 12 ∧ E.Nodup ∧ (∀ e ∈ E, e < S.length) ∧
  ∀ (H' : Hp) (a b : V) (T : Steps) (F : List Nat), Same (Wo [p] H) (Wo [p] H') → H' p = some (.ins CM dx (mfs L a b)) → Dp K (Wo [p] H') a (dTT T) → Dp K (Wo [p] H') b (dT F) → Least L T F → SameLang L S E T F → T.length ≤ S.length → Q .non H'
abbrev s_Machine_init : Stmt := inClass (top 37) 0
abbrev N_Machine_init : List Str := ["self", "letters", "steps", "ends"]
theorem sc_Machine_init : FnScope N_Machine_init ["self", "letters", "steps", "ends"] (defScope s_Machine_init) := ⟨rfl, rfl, rfl, by decide +kernel, rfl, by decide +kernel, by decide +kernel⟩
theorem ok_Machine_init (T : Tx K mg CM CT) (D : InitAt K CM "Machine.__init__" s_Machine_init) (c_want_letters : Cal P w K mg base 3 "want_letters" ["value"] spWantLetters) (c_are_steps : Cal P w K mg base 3 "are_steps" ["letters", "value"] (spAreSteps K)) (c_are_ends : Cal P w K mg base 3 "are_ends" ["states", "value"] (spAreEnds K)) (c_least_form : Cal P w K mg base 2 "least_form" ["steps", "ends"] (spLeast K)) : Mak P w K mg base 4 "Machine" CM ["self", "letters", "steps", "ends"] (spMInit K CM) := by
  refine mak_of D T.Machine sc_Machine_init (fun _ _ _ _ _ _ us hl => match us, hl with | [_, _, _, _], _ => rfl) (fun vs H Q E h => ?_) (fun f cdv A outer s H vs Q E hr h => ?_)
  · obtain ⟨_, _, _, _, _, _, _, rfl, _⟩ := h
    rfl
  have hu := hu_of hr
  obtain ⟨p, dx, L, v, ve, S, E, rfl, hp, hv, hve, W, hL, hL3, hS, hE, hlt, k⟩ := h
  refine ⟨_, (pss_cons (ps_expr (pe_c c_want_letters hr (by decide) rfl (pa_cons (pv 1) pa_nil)))
  (pss_cons (ps_if (pt_not (pt_val (pe_c c_are_steps hr (by decide) rfl (pa_cons (pv 1) (pa_cons (pv 2) pa_nil))))) (pss_one ps_never) pss_nil)
  (pss_cons (ps_if (pt_not (pt_val (pe_c c_are_ends hr (by decide) rfl (pa_cons (pe_callB (call_lenK K) (by rfl) T.len PySem.boot_len (pa_cons (pv 2) pa_nil)) (pa_cons (pv 3) pa_nil))))) (pss_one ps_never) pss_nil)
  (pss_cons (ps_fldK K (pv 0) (pv 1) rfl)
  (pss_one (ps_asg (pe_c c_least_form hr (by decide) rfl (pa_cons (pv 2) (pa_cons (pv 3) pa_nil))) (pg_tupK K (n := 2) rfl (pgs_cons (pg_attr K (pv 0)) (pgs_cons (pg_attr K (pv 0)) pgs_nil))))))))), ?_⟩
  have hEl : E.length ≤ 60 := by have := nodup_bound hE hlt; omega
  obtain ⟨av, xs, rfl, hs, hxl, _⟩ := dp_len_l hv
  refine ⟨_, rfl, _, rfl, by omega, by omega, _, rfl, _, rfl, L, _, S, rfl, dp_mono (wo_same _ _) hv, W, hL3, hS, fun H1 s1 => ⟨true, rfl, ifF rfl ?_⟩⟩
  refine ⟨_, rfl, av, _, rfl, .inl ((Same.trans (wo_same _ _) s1).seq hs), _, rfl, S.length, _, E, by rw [hxl]; rfl, dp_mono (Same.trans (wo_same _ _) s1) hve, hE, hEl, hlt, fun H2 s2 => ⟨true, rfl, ifF rfl ?_⟩⟩
  have s02 := Same.trans s1 s2
  have hp2 := s02 _ _ hp
  refine ⟨_, rfl, _, rfl, p, CM, dx, [], rfl, hp2, T.iM.cl, T.mL, by show 0 < 1000; decide, ?_⟩
  generalize hH3 : upd H2 p (.ins CM dx (putF "own_letters" (vN L) [])) = H3
  have w3 : Same (Wo [p] H) (Wo [p] H3) := by rw [← hH3, wo_upd in1]; exact wo_mono s02
  have hp3 : H3 p = some (.ins CM dx (putF "own_letters" (vN L) [])) := by rw [← hH3, upd_same]
  refine ⟨_, rfl, _, rfl, _, ve, L, S, E, rfl, dp_mono (Same.trans w3 (wo_same _ _)) hv, dp_mono (Same.trans w3 (wo_same _ _)) hve, W, hL, hL3, by omega, hE, hEl, fun H4 t a b Tt F s4 ht h4 da db lst sl hle => ?_⟩
  have hp4 := s4 _ _ hp3
  have htp : t ≠ p := fun e => by rw [e, hp3] at ht; cases ht
  refine ⟨t, _, rfl, SqT.of h4, rfl, _, _, rfl, _, rfl, p, CM, dx, _, rfl, hp4, T.iM.cl, T.mS, by show 1 < 1000; decide, _, _, rfl, _, rfl, p, CM, dx, _, rfl, upd_same, T.iM.cl, T.mE, by show 2 < 1000; decide, rfl, ?_⟩
  refine k _ a b Tt F ?_ (by rw [upd_same, mfs_new]) ?_ ?_ lst sl hle
  · rw [wo_upd in1, wo_upd in1]
    exact Same.trans w3 (wo_mono s4)
  · rw [wo_upd in1, wo_upd in1]
    exact dp_out hp4 da
  · rw [wo_upd in1, wo_upd in1]
    exact dp_out hp4 db
def REqM (K : PySem.W.Frag) (CM : Addr) : Addr → Addr → Hp → Bool → Prop := fun a b H c => ∃ L T F, MAt K CM H a L T F ∧ MAt K CM H b L T F ∧ c = true
abbrev s_Machine_eq : Stmt := inClass (top 37) 5
abbrev N_Machine_eq : List Str := ["self", "other"]
theorem sc_Machine_eq : FnScope N_Machine_eq ["self", "other"] (defScope s_Machine_eq) := ⟨rfl, rfl, rfl, by decide +kernel, rfl, by decide +kernel, by decide +kernel⟩
theorem ok_Machine_eq (T : Tx K mg CM CT) (D : EqAt K CM "Machine.__eq__" s_Machine_eq)  : EqOk P w K mg base 1 CM ["self", "other"] (spEqB (REqM K CM)) := by
  refine eq_of D sc_Machine_eq (fun _ _ _ _ _ _ us hl => match us, hl with | [_, _], _ => rfl) (fun vs H Q E h => ?_) (fun f cdv A outer s H vs Q E hr h => ?_)
  · obtain ⟨_, _, _, rfl, _⟩ := h
    rfl
  have hu := hu_of hr
  obtain ⟨a, b, c, rfl, ⟨L, Tt, F, ⟨dx, sa, ea, h1, h2, h3, lst⟩, ⟨dy, sb, eb, h4, h5, h6, _⟩, rfl⟩, k⟩ := h
  refine ⟨_, (pss_cons (ps_if (PW.pt (pw_or (pt_not (pt_val (pe_callB (call_isiK K) (by rfl) T.isinstance (by decide +kernel) (pa_cons (pv 1) (pa_cons (pe_gC (by rfl) T.Machine) pa_nil))))) (pw_or1 (pt_cmpR op_ne (pe_fldK K (pv 0) rfl) (pe_fldK K (pv 1) rfl) (nomark _))))) (pss_one (ps_ret pe_bl)) pss_nil)
  (pss_one (ps_ret (pe_and (pe_cmpR (op_eqDK K (hu_64 hr)) (pe_fldK K (pv 0) rfl) (pe_fldK K (pv 1) rfl) (nomark _)) (pe_one (pe_cmpR (op_eqDK K (hu_64 hr)) (pe_fldK K (pv 0) rfl) (pe_fldK K (pv 1) rfl) (nomark _))))))), ?_⟩
  have tl : Tt.length < 61 ∨ True := .inr True.intro
  refine ⟨_, rfl, .ref b, .ref CM, .ref CM, .ref CM, true, rfl, .own CM, T.iM.ty h4, T.iM.me, true, rfl, ifF rfl ?_⟩
  refine ⟨_, rfl, a, CM, dx, _, _, rfl, h1, T.iM.cl, T.mL, mfs_L _ _ _, _, rfl, b, CM, dy, _, _, rfl, h4, T.iM.cl, T.mL, mfs_L _ _ _, rfl, _, rfl, ifF (by simp) ?_⟩
  refine ⟨_, rfl, a, CM, dx, _, _, rfl, h1, T.iM.cl, T.mS, mfs_S _ _ _, _, rfl, b, CM, dy, _, _, rfl, h4, T.iM.cl, T.mS, mfs_S _ _ _, _, _, h2, h5, (flat_dTT _).shaped (by decide), (flat_dTT _).shaped (by decide), true, by rw [(eq_dTT Tt Tt).mpr rfl], ?_⟩
  refine ⟨_, rfl, a, CM, dx, _, _, rfl, h1, T.iM.cl, T.mE, mfs_E _ _ _, _, rfl, b, CM, dy, _, _, rfl, h4, T.iM.cl, T.mE, mfs_E _ _ _, _, _, h3, h6, (flat_dT _).shaped (by decide), (flat_dT _).shaped (by decide), ?_⟩
  rw [(eq_dT F F).mpr rfl]
  exact k H (Same.refl H)
def spLeast1 (K : PySem.W.Frag) (CM : Addr) : Sp := fun vs H Q _ => ∃ (L : Nat) (v ve : V) (S : Steps) (E : List Nat), vs = [vN L, v, ve] ∧ Dp K H v (dLL S) ∧ Dp K H ve (dL E) ∧ Whole L S ∧ 0 < L ∧ L ≤ 3 ∧ S.length ≤ 60 ∧ E.Nodup ∧ E.length ≤ 60 ∧
  ∀ (H' : Hp) (m : Addr) (T : Steps) (F : List Nat), Same H H' → H m = none → MAt K CM H' m L T F → SameLang L S E T F → Q (.ref m) H'
abbrev s_least : Stmt := top 38
abbrev N_least : List Str := ["letters", "steps", "ends", "told", "last", "found"]
theorem sc_least : FnScope N_least ["letters", "steps", "ends"] (defScope s_least) := ⟨rfl, rfl, rfl, by decide +kernel, rfl, by decide +kernel, by decide +kernel⟩
theorem ok_least (T : Tx K mg CM CT) (D : DefAt K mg "least" s_least) (c_least_form : Cal P w K mg base 2 "least_form" ["steps", "ends"] (spLeast K)) (c_want_at_most : Cal P w K mg base 1 "want_at_most" ["what", "limit", "number"] spMost) (c_Machine : Mak P w K mg base 4 "Machine" CM ["self", "letters", "steps", "ends"] (spMInit K CM)) : Cal P w K mg base 6 "least" ["letters", "steps", "ends"] (spLeast1 K CM) := by
  refine cal_of D sc_least (fun _ _ _ _ _ _ us hl => match us, hl with | [_, _, _], _ => rfl) (fun vs H Q E h => ?_) (fun f cdv A outer s H vs Q E hr h => ?_)
  · obtain ⟨_, _, _, _, _, rfl, _⟩ := h
    rfl
  have hu := hu_of hr
  obtain ⟨L, v, ve, S, E, rfl, hv, hve, W, hL, hL3, hS, hE, hEl, k⟩ := h
  refine ⟨_, (pss_cons (ps_asg (pe_c c_least_form hr (by decide) rfl (pa_cons (pv 1) (pa_cons (pv 2) pa_nil))) (pg_tupK K (n := 2) rfl (pgs_cons (pg_name (i := 3) sc_least.nd rfl (Or.inl rfl)) (pgs_cons (pg_name (i := 4) sc_least.nd rfl (Or.inl rfl)) pgs_nil))))
  (pss_cons (ps_expr (pe_c c_want_at_most hr (by decide) rfl (pa_cons pe_str (pa_cons (pe_g (by rfl) T.MOST_STATES) (pa_cons (pe_callB (call_lenK K) (by rfl) T.len PySem.boot_len (pa_cons (pv 3) pa_nil)) pa_nil)))))
  (pss_cons (ps_set (i := 5) sc_least.nd rfl (Or.inl rfl) (pe_mk c_Machine hr (by decide) rfl (pa_cons (pv 0) (pa_cons (pe_lst (pa_cons (pe_op op_rep (pe_lst (pa_cons pe_int pa_nil)) (pv 0)) pa_nil)) (pa_cons (pe_lst pa_nil) pa_nil)))))
  (pss_cons (ps_asg (pe_tup (pa_cons (pv 3) (pa_cons (pv 4) pa_nil))) (pg_tupK K (n := 2) rfl (pgs_cons (pg_attr K (pv 5)) (pgs_cons (pg_attr K (pv 5)) pgs_nil))))
  (pss_one (ps_ret (pv 5))))))), ?_⟩
  refine ⟨_, rfl, _, rfl, v, ve, L, S, E, rfl, hv, hve, W, hL, hL3, hS, hE, hEl, fun H1 t a b Tt F s1 ht h1 da db lst sl hle => ⟨t, _, rfl, SqT.of h1, rfl, _, _, rfl, _, _, rfl, rfl, ?_⟩⟩
  obtain ⟨at_, xs, rfl, qa, la, dd⟩ := dp_len_t da
  refine ⟨_, rfl, at_, xs, rfl, .inr qa, _, _, _, rfl, by rw [la]; omega, ?_⟩
  -- found = Machine(letters, [[0] * letters], [])
  refine ⟨_, rfl, by show 1 ≤ sizeLine; decide, fun z1 hz1 => ⟨_, rfl, z1, _, _, rfl, rfl, upd_same, by omega, by omega, by show 1 * _ ≤ _; rw [Int.toNat_natCast]; exact line_le (by omega), fun z2 hz2 => ⟨by show 1 ≤ sizeLine; decide, fun z3 hz3 => ⟨by show 0 ≤ sizeLine; decide, fun z4 hz4 x dx hx hdx hne => ?_⟩⟩⟩⟩
  have er : (List.replicate (L : Int).toNat [V.int 0]).flatten = (List.replicate L 0).map vN := by
    rw [Int.toNat_natCast, List.flatten_replicate_singleton, List.map_replicate]
    rfl
  rw [er] at hx hdx hz3 hz4
  rw [er]
  have sz : Same H1 (upd (upd (upd (upd H1 z1 (.lst [.int 0])) z2 (.lst ((List.replicate L 0).map vN))) z3 (.lst [.ref z2])) z4 (.lst [])) := Same.trans (same_new hz1) (Same.trans (same_new hz2) (Same.trans (same_new hz3) (same_new hz4)))
  have d3 : Dp K (upd (upd (upd (upd H1 z1 (.lst [.int 0])) z2 (.lst ((List.replicate L 0).map vN))) z3 (.lst [.ref z2])) z4 (.lst [])) (.ref z3) (dLL [List.replicate L 0]) :=
    .lst (SqL.of (same_new hz4 _ _ upd_same)) (.cons (dp_l (SqL.of (same_new hz4 _ _ (same_new hz3 _ _ upd_same)))) .nil)
  have d4 : Dp K (upd (upd (upd (upd H1 z1 (.lst [.int 0])) z2 (.lst ((List.replicate L 0).map vN))) z3 (.lst [.ref z2])) z4 (.lst [])) (.ref z4) (dL []) := dp_l (SqL.of upd_same)
  generalize upd (upd (upd (upd H1 z1 (.lst [.int 0])) z2 (.lst ((List.replicate L 0).map vN))) z3 (.lst [.ref z2])) z4 (.lst []) = Hz at hx hdx sz d3 d4 ⊢
  have wm : Same Hz (Wo [x] (upd (upd Hz dx (.own x)) x (.ins CM dx []))) := by
    rw [wo_upd in1]
    intro c o e
    rw [wo_out fun z => by rw [List.mem_singleton.mp z, hx] at e; cases e]
    exact same_new hdx _ _ e
  refine ⟨x, dx, L, _, _, [List.replicate L 0], [], rfl, upd_same, dp_mono wm d3, dp_mono wm d4, ?_, hL, hL3, by show 1 ≤ 12; decide, List.nodup_nil, fun e he => absurd he List.not_mem_nil, fun H5 a5 b5 T5 F5 w5 h5 _ _ _ _ _ => ⟨rfl, ?_⟩⟩
  · refine ⟨Nat.zero_lt_one, fun r hr => ?_⟩
    rw [List.mem_singleton.mp hr]
    refine ⟨List.length_replicate, fun z hz => ?_⟩
    rw [(List.mem_replicate.mp hz).2]
    exact Nat.zero_lt_one
  refine ⟨_, rfl, _, rfl, by show 2 ≤ sizeLine; decide, fun t2 ht2 => ⟨t2, _, rfl, SqT.of upd_same, rfl, _, _, rfl, _, rfl, x, CM, dx, _, rfl, same_new ht2 _ _ h5, T.iM.cl, T.mS, by show 3 < 1000; decide, _, _, rfl, _, rfl, x, CM, dx, _, rfl, upd_same, T.iM.cl, T.mE, by rw [mfs_putS]; show 3 < 1000; decide, rfl, _, rfl, ?_⟩⟩
  rw [mfs_putS, mfs_putE]
  have wf : Same Hz (Wo [x] (upd (upd (upd H5 t2 (.tup [.ref at_, b])) x (.ins CM dx (mfs L (.ref at_) b5))) x (.ins CM dx (mfs L (.ref at_) b)))) := by
    rw [wo_upd in1, wo_upd in1]
    exact Same.trans wm (Same.trans w5 (wo_new ht2))
  have s1f := Same.trans sz (Same.trans wf (wo_same _ _))
  exact k _ x Tt F (Same.trans s1 s1f) (Same.free (Same.trans s1 sz) hx) ⟨dx, .ref at_, b, upd_same, dp_mono s1f da, dp_mono s1f db, lst⟩ sl
def spWantMachine (CM : Addr) : Sp := fun vs H Q _ => ∃ (m dx : Addr) (fs : List (Str × V)), vs = [.ref m] ∧ H m = some (.ins CM dx fs) ∧ Q (.ref m) H
abbrev s_want_machine : Stmt := top 39
abbrev N_want_machine : List Str := ["value"]
theorem sc_want_machine : FnScope N_want_machine ["value"] (defScope s_want_machine) := ⟨rfl, rfl, rfl, by decide +kernel, rfl, by decide +kernel, by decide +kernel⟩
theorem ok_want_machine (T : Tx K mg CM CT) (D : DefAt K mg "want_machine" s_want_machine)  : Cal P w K mg base 1 "want_machine" ["value"] (spWantMachine CM) := by
  refine cal_of D sc_want_machine (fun _ _ _ _ _ _ us hl => match us, hl with | [_], _ => rfl) (fun vs H Q E h => ?_) (fun f cdv A outer s H vs Q E hr h => ?_)
  · obtain ⟨_, _, _, rfl, _⟩ := h
    rfl
  have hu := hu_of hr
  obtain ⟨m, dx, fs, rfl, hm, k⟩ := h
  refine ⟨_, (pss_cons (ps_if (pt_not (pt_val (pe_callB (call_isiK K) (by rfl) T.isinstance (by decide +kernel) (pa_cons (pv 0) (pa_cons (pe_gC (by rfl) T.Machine) pa_nil))))) (pss_one ps_never) pss_nil)
  (pss_one (ps_ret (pv 0)))), ?_⟩
  exact ⟨_, rfl, .ref m, .ref CM, .ref CM, .ref CM, true, rfl, .own CM, T.iM.ty hm, T.iM.me, true, rfl, ifF rfl ⟨_, rfl, k⟩⟩
def spLed (K : PySem.W.Frag) (CM : Addr) : Sp := fun vs H Q _ => ∃ (m : Addr) (L s : Nat) (T : Steps) (F w : List Nat), vs = [.ref m, vN s, .str (sW w)] ∧ MAt K CM H m L T F ∧ L ≤ 3 ∧ s < T.length ∧ Wd L w ∧ w.length ≤ 60 ∧ ∀ H', Same H H' → Q (vN (run T s w)) H'
abbrev s_led : Stmt := top 40
abbrev N_led : List Str := ["machine", "state", "word", "here", "number"]
theorem sc_led : FnScope N_led ["machine", "state", "word"] (defScope s_led) := ⟨rfl, rfl, rfl, by decide +kernel, rfl, by decide +kernel, by decide +kernel⟩
theorem ok_led (T : Tx K mg CM CT) (D : DefAt K mg "led" s_led) (c_spots : Cal P w K mg base 1 "spots" ["word"] (spSpots K)) : Cal P w K mg base 2 "led" ["machine", "state", "word"] (spLed K CM) := by
  refine cal_of D sc_led (fun _ _ _ _ _ _ us hl => match us, hl with | [_, _, _], _ => rfl) (fun vs H Q E h => ?_) (fun f cdv A outer s H vs Q E hr h => ?_)
  · obtain ⟨_, _, _, _, _, _, rfl, _⟩ := h
    rfl
  have hu := hu_of hr
  obtain ⟨m, L, s0, Tt, F, wd, rfl, hM, hL3, hs, hw, hwl, k⟩ := h
  refine ⟨_, (pss_cons (ps_set (i := 3) sc_led.nd rfl (Or.inl rfl) (pv 1))
  (pss_cons (ps_for PassesOwn.never rfl (pi_tupK K (pe_c c_spots hr (by decide) rfl (pa_cons (pv 2) pa_nil))) (pg_name (i := 4) sc_led.nd rfl (Or.inl rfl)) (pss_one (ps_set (i := 3) sc_led.nd rfl (Or.inl rfl) (pe_ix (ix_tupK K) (pe_ix (ix_tupK K) (pe_fldK K (pv 0) rfl) (pv 3) (fun _ _ => rfl)) (pv 4) (fun _ _ => rfl)))))
  (pss_one (ps_ret (pv 3))))), ?_⟩
  obtain ⟨dx, a, b, h1, da, db, lst⟩ := id hM
  refine ⟨_, rfl, _, rfl, wd, rfl, fun l hl => Nat.lt_of_lt_of_le (hw l hl) hL3, hwl, fun H1 p s1 hp hp1 => ⟨p, rfl, ⟨_, SqT.of hp1⟩, for_tup (K := K) (a := p) (xs := wd.map vN) (fun i σ H2 => ∃ x4, σ = [some (.ref m), some (vN s0), some (.str (sW wd)), some (vN (run Tt s0 (wd.take i))), x4] ∧ Same H1 H2) ⟨none, rfl, Same.refl H1⟩ (fun i σ H2 _ ⟨_, _, q⟩ => SqT.of (q _ _ hp1)) ?_ ?_⟩⟩
  · rintro i y σ H2 hi ⟨x4, rfl, s2⟩
    obtain ⟨l, hl, rfl⟩ := get_vN hi
    have hll := hw l (List.mem_of_getElem? hl)
    have hr : run Tt s0 (wd.take i) < Tt.length := lst.whole.run hs fun z hz => hw z (List.mem_of_mem_take hz)
    obtain ⟨r, hr1, hr2, hr3⟩ := lst.whole.at hr
    obtain ⟨n, hn⟩ := get_some (show l < r.length by omega)
    obtain ⟨a', xs, c, rfl, q1, q2, q3⟩ := row_t (dp_mono (Same.trans s1 s2) da) hr1
    refine ⟨_, rfl, m, CM, dx, _, _, rfl, s2 _ _ (s1 _ _ h1), T.iM.cl, T.mS, mfs_S _ _ _, _, rfl, a', xs, _, _, rfl, rfl, q1, q2, _, rfl, c, _, _, _, rfl, rfl, q3, at_num hn, some (vN l), ?_, s2⟩
    rw [take_snoc hl, run_snoc]
    show _ = [some (.ref m), some (vN s0), some (.str (sW wd)), some (vN (nx Tt (run Tt s0 (wd.take i)) l)), some (vN l)]
    unfold nx
    rw [getD_of hr1, getD_of hn]
    rfl
  · rintro σ H2 ⟨x4, rfl, s2⟩
    rw [List.length_map, List.take_length]
    exact ⟨_, rfl, k H2 (Same.trans s1 s2)⟩
def spIsEnd (K : PySem.W.Frag) (CM : Addr) : Sp := fun vs H Q _ => ∃ (m : Addr) (L s : Nat) (T : Steps) (F : List Nat), vs = [.ref m, vN s] ∧ MAt K CM H m L T F ∧ Q (.bl (decide (s ∈ F))) H
abbrev s_is_end : Stmt := top 41
abbrev N_is_end : List Str := ["machine", "state"]
theorem sc_is_end : FnScope N_is_end ["machine", "state"] (defScope s_is_end) := ⟨rfl, rfl, rfl, by decide +kernel, rfl, by decide +kernel, by decide +kernel⟩
theorem ok_is_end (T : Tx K mg CM CT) (D : DefAt K mg "is_end" s_is_end)  : Cal P w K mg base 1 "is_end" ["machine", "state"] (spIsEnd K CM) := by
  refine cal_of D sc_is_end (fun _ _ _ _ _ _ us hl => match us, hl with | [_, _], _ => rfl) (fun vs H Q E h => ?_) (fun f cdv A outer s H vs Q E hr h => ?_)
  · obtain ⟨_, _, _, _, _, rfl, _⟩ := h
    rfl
  have hu := hu_of hr
  obtain ⟨m, L, s0, Tt, F, rfl, ⟨dx, a, b, h1, da, db, lst⟩, k⟩ := h
  refine ⟨_, (pss_one (ps_ret (pe_cmpR (op_inK K) (pv 1) (pe_fldK K (pv 0) rfl) (by rfl)))), ?_⟩
  obtain ⟨c, rfl, qc⟩ := t_of db
  refine ⟨_, rfl, _, rfl, m, CM, dx, _, _, rfl, h1, T.iM.cl, T.mE, mfs_E _ _ _, c, _, rfl, .inr qc, rfl, flat_nums _, ?_⟩
  rw [inV_num]
  exact k
def spIsLet (K : PySem.W.Frag) (CM : Addr) : Sp := fun vs H Q _ => ∃ (m : Addr) (L : Nat) (T : Steps) (F w : List Nat), vs = [.ref m, .str (sW w)] ∧ MAt K CM H m L T F ∧ L ≤ 3 ∧ Wd L w ∧ w.length ≤ 60 ∧ ∀ H', Same H H' → Q (.bl (decide (run T 0 w ∈ F))) H'
abbrev s_is_let : Stmt := top 42
abbrev N_is_let : List Str := ["machine", "word"]
theorem sc_is_let : FnScope N_is_let ["machine", "word"] (defScope s_is_let) := ⟨rfl, rfl, rfl, by decide +kernel, rfl, by decide +kernel, by decide +kernel⟩
theorem ok_is_let (T : Tx K mg CM CT) (D : DefAt K mg "is_let" s_is_let) (c_is_end : Cal P w K mg base 1 "is_end" ["machine", "state"] (spIsEnd K CM)) (c_led : Cal P w K mg base 2 "led" ["machine", "state", "word"] (spLed K CM)) : Cal P w K mg base 3 "is_let" ["machine", "word"] (spIsLet K CM) := by
  refine cal_of D sc_is_let (fun _ _ _ _ _ _ us hl => match us, hl with | [_, _], _ => rfl) (fun vs H Q E h => ?_) (fun f cdv A outer s H vs Q E hr h => ?_)
  · obtain ⟨_, _, _, _, _, rfl, _⟩ := h
    rfl
  have hu := hu_of hr
  obtain ⟨m, L, Tt, F, wd, rfl, hM, hL3, hw, hwl, k⟩ := h
  refine ⟨_, (pss_one (ps_ret (pe_c c_is_end hr (by decide) rfl (pa_cons (pv 0) (pa_cons (pe_c c_led hr (by decide) rfl (pa_cons (pv 0) (pa_cons pe_int (pa_cons (pv 1) pa_nil)))) pa_nil))))), ?_⟩
  have lst : Least L Tt F := by obtain ⟨_, _, _, _, _, _, l⟩ := hM; exact l
  exact ⟨_, rfl, _, rfl, _, rfl, m, L, 0, Tt, F, wd, rfl, hM, hL3, lst.whole.pos, hw, hwl, fun H1 s1 => ⟨m, L, _, Tt, F, rfl, hM.mono s1, k H1 s1⟩⟩
abbrev s_lets : Stmt := top 43
abbrev N_lets : List Str := ["machine", "word"]
theorem sc_lets : FnScope N_lets ["machine", "word"] (defScope s_lets) := ⟨rfl, rfl, rfl, by decide +kernel, rfl, by decide +kernel, by decide +kernel⟩
theorem ok_lets (T : Tx K mg CM CT) (D : DefAt K mg "lets" s_lets) (c_want_machine : Cal P w K mg base 1 "want_machine" ["value"] (spWantMachine CM)) (c_is_let : Cal P w K mg base 3 "is_let" ["machine", "word"] (spIsLet K CM)) (c_want_word : Cal P w K mg base 2 "want_word" ["letters", "value"] (spWantWord K)) : Cal P w K mg base 4 "lets" ["machine", "word"] (spIsLet K CM) := by
  refine cal_of D sc_lets (fun _ _ _ _ _ _ us hl => match us, hl with | [_, _], _ => rfl) (fun vs H Q E h => ?_) (fun f cdv A outer s H vs Q E hr h => ?_)
  · obtain ⟨_, _, _, _, _, rfl, _⟩ := h
    rfl
  have hu := hu_of hr
  obtain ⟨m, L, Tt, F, wd, rfl, hM, hL3, hw, hwl, k⟩ := h
  refine ⟨_, (pss_cons (ps_expr (pe_c c_want_machine hr (by decide) rfl (pa_cons (pv 0) pa_nil)))
  (pss_one (ps_ret (pe_c c_is_let hr (by decide) rfl (pa_cons (pv 0) (pa_cons (pe_c c_want_word hr (by decide) rfl (pa_cons (pe_fldK K (pv 0) rfl) (pa_cons (pv 1) pa_nil))) pa_nil)))))), ?_⟩
  obtain ⟨dx, a, b, h1, da, db, lst⟩ := id hM
  exact ⟨_, rfl, m, dx, _, rfl, h1, _, rfl, _, rfl, m, CM, dx, _, _, rfl, h1, T.iM.cl, T.mL, mfs_L _ _ _, _, rfl, L, wd, rfl, by omega, hw, hwl, fun H1 s1 => ⟨m, L, Tt, F, wd, rfl, hM.mono s1, hL3, hw, hwl, fun H2 s2 => k H2 (Same.trans s1 s2)⟩⟩
end
end M22

set_option maxRecDepth 100000
set_option maxHeartbeats 4000000
namespace M22
open PySem PySem.Spec PyProof.Rows L2
section
variable {P : Program} {w : World} {K : PySem.W.Frag} {mg : Str → Option Value} {base : Heap} {CM CT : Addr}
def spIdle (K : PySem.W.Frag) (CM : Addr) : Sp := fun vs H Q _ => ∃ (lm : Addr) (L : Nat) (ms : List Addr) (Ms : List Mach), vs = [.ref lm] ∧ SqL K H lm (ms.map V.ref) ∧ MsAt K CM H L ms Ms ∧ Ms.length ≤ 3 ∧ (∀ m ∈ Ms, m.1.length ≤ 60) ∧
  ∀ (H' : Hp) (p : Addr), Same H H' → H p = none → Dp K H' (.ref p) (dTT (idle Ms)) → Q (.ref p) H'
abbrev s_idle_change : Stmt := top 47
abbrev N_idle_change : List Str := ["machines", "machine"]
theorem sc_idle_change : FnScope N_idle_change ["machines"] (defScope s_idle_change) := ⟨rfl, rfl, rfl, by decide +kernel, rfl, by decide +kernel, by decide +kernel⟩
theorem ok_idle_change (T : Tx K mg CM CT) (D : DefAt K mg "idle_change" s_idle_change)  : Cal P w K mg base 1 "idle_change" ["machines"] (spIdle K CM) := by
  refine cal_of D sc_idle_change (fun _ _ _ _ _ _ us hl => match us, hl with | [_], _ => rfl) (fun vs H Q E h => ?_) (fun f cdv A outer s H vs Q E hr h => ?_)
  · obtain ⟨_, _, _, _, rfl, _⟩ := h
    rfl
  have hu := hu_of hr
  obtain ⟨lm, L, ms, Ms, rfl, hl, hM, hMl, hT, k⟩ := h
  refine ⟨_, (pss_one (ps_ret (pe_callTy (call_tupK K) (by rfl) T.tuple (by decide +kernel) (pa_cons (pe_lc (own := [("machine", 1)]) (tt := tYes) rfl sc_idle_change.nd (pi_listK K (pv 0)) (blkOk_by (N := N_idle_change) (sc := (defScope s_idle_change)) (by decide +kernel)) (fun _ _ _ _ _ => (pg_name (i := 1) sc_idle_change.nd rfl (Or.inl rfl))) (fun _ _ _ _ _ => pts_nil) (fun _ _ _ _ _ => (pe_tupRg rfl (by rfl) T.tuple (prg_1 (by rfl) T.range (pe_callB (call_lenK K) (by rfl) T.len PySem.boot_len (pa_cons (pe_fldK K (pv 1) rfl) pa_nil)))))) pa_nil)))), ?_⟩
  refine ⟨_, rfl, lm, rfl, ⟨_, hl⟩, fun D hD => lc_d (K := K) walk_list (fun i => ((idle Ms).take i).map dT) hD rfl (fun H' sm => sm.seq hl) (fun i x Ha Hb hi p y => ?_) fun acc Ha h1 h2 h3 => ?_⟩
  · obtain ⟨rfl, hx⟩ := y
    obtain ⟨m, hm, rfl⟩ := get_ref hx
    have hil := lt_of_get hm
    obtain ⟨M, hMi⟩ := get_some (show i < Ms.length by rw [← hM.1]; exact hil)
    obtain ⟨dx, a, b, g1, da, db, lst⟩ := (hM.2 i m M hm hMi).mono p.same
    have hMl60 := hT M (List.mem_of_getElem? hMi)
    obtain ⟨ta, xs, rfl, qa, la, _⟩ := dp_len_t da
    refine ⟨rfl, _, rfl, m, CM, dx, _, _, rfl, g1, T.iM.cl, T.mS, mfs_S _ _ _, ta, xs, rfl, .inr qa, _, rfl, by rw [la]; exact rgOk_nat (by omega), fun q hq => ?_⟩
    rw [la, rgV_nat]
    obtain ⟨k1, k2⟩ := new_keeps (o := .tup ((List.range M.1.length).map vN)) hq p.some
    refine p.put (d := dT (List.range M.1.length)) (line_lt (by rw [hM.1] at hil; omega)) k1 k2 (dp_new_t hq p.some) (take_map dT (idle Ms) ?_)
    unfold idle
    rw [List.getElem?_map, hMi]
    rfl
  · have hlen : (idle Ms).length = (ms.map V.ref).length := by unfold idle; rw [List.length_map, List.length_map, hM.1]
    rw [← hlen, List.take_length] at h3
    refine ⟨D, _, rfl, .inl ⟨SqL.of h1, fun t ht => ?_⟩⟩
    have s1 : Same H Ha := Same.trans h2 (wo_same _ _)
    exact k _ t (Same.trans s1 (same_new ht)) (Same.free s1 ht) (.tup (SqT.of upd_same) (dpAll_mono (Same.trans (wo_same _ _) (same_new ht)) h3))
def spChg (K : PySem.W.Frag) (CM : Addr) : Sp := fun vs H Q _ => ∃ (lm : Addr) (vc : V) (l L : Nat) (ms : List Addr) (Ms : List Mach) (c : Change), vs = [.ref lm, vc, vN l] ∧ SqL K H lm (ms.map V.ref) ∧ MsAt K CM H L ms Ms ∧ Ms.length ≤ 3 ∧ (∀ m ∈ Ms, m.1.length ≤ 60) ∧ Dp K H vc (dTT c) ∧ IsCh Ms c ∧ l < L ∧
  ∀ (H' : Hp) (p : Addr), Same H H' → H p = none → Dp K H' (.ref p) (dTT (changed Ms c l)) → Q (.ref p) H'
abbrev s_change_by_letter : Stmt := top 48
abbrev N_change_by_letter : List Str := ["machines", "change", "letter", "found", "machine", "states", "state"]
theorem sc_change_by_letter : FnScope N_change_by_letter ["machines", "change", "letter"] (defScope s_change_by_letter) := ⟨rfl, rfl, rfl, by decide +kernel, rfl, by decide +kernel, by decide +kernel⟩
theorem ok_change_by_letter (T : Tx K mg CM CT) (D : DefAt K mg "change_by_letter" s_change_by_letter)  : Cal P w K mg base 1 "change_by_letter" ["machines", "change", "letter"] (spChg K CM) := by
  refine cal_of D sc_change_by_letter (fun _ _ _ _ _ _ us hl => match us, hl with | [_, _, _], _ => rfl) (fun vs H Q E h => ?_) (fun f cdv A outer s H vs Q E hr h => ?_)
  · obtain ⟨_, _, _, _, _, _, _, rfl, _⟩ := h
    rfl
  have hu := hu_of hr
  obtain ⟨lm, vc, l, L, ms, Ms, c, rfl, hl, hM, hMl, hT, hc, hch, hlL, k⟩ := h
  refine ⟨_, (pss_cons (ps_set (i := 3) sc_change_by_letter.nd rfl (Or.inl rfl) (pe_lst pa_nil))
  (pss_cons (ps_for PassesOwn.never rfl (pi_zipMK K (by rfl) T.zip (pa_cons (pv 0) (pa_cons (pv 1) pa_nil))) (pg_tupK K (n := 2) rfl (pgs_cons (pg_name (i := 4) sc_change_by_letter.nd rfl (Or.inr rfl)) (pgs_cons (pg_name (i := 5) sc_change_by_letter.nd rfl (Or.inl rfl)) pgs_nil))) (pss_one (ps_expr (pe_bmK K PySem.F.plainAttrs_list PySem.F.slot_list_append PySem.F.type_list_append mt_append (pv 3) (pa_cons (pe_callTy (call_tupK K) (by rfl) T.tuple (by decide +kernel) (pa_cons (pe_lc (own := [("state", 6)]) (tt := tYes) rfl sc_change_by_letter.nd (pi_tupK K (pv 5)) (blkOk_by (N := N_change_by_letter) (sc := (defScope s_change_by_letter)) (by decide +kernel)) (fun _ _ _ _ _ => (pg_name (i := 6) sc_change_by_letter.nd rfl (Or.inl rfl))) (fun _ _ _ _ _ => pts_nil) (fun _ _ _ _ _ => (pe_ix (ix_tupK K) (pe_ix (ix_tupK K) (pe_fldK K (pv 4) rfl) (pv 6) (fun _ _ => rfl)) (pv 2) (fun _ _ => rfl)))) pa_nil)) pa_nil)))))
  (pss_one (ps_ret (pe_callTy (call_tupK K) (by rfl) T.tuple (by decide +kernel) (pa_cons (pv 3) pa_nil)))))), ?_⟩
  obtain ⟨tc, cs, rfl, qc, lc, dc⟩ := dp_len_t hc
  refine ⟨by show 0 ≤ sizeLine; decide, fun fd hfd => ?_⟩
  refine ⟨_, rfl, _, rfl, lm, tc, _, _, rfl, (same_new hfd).seq hl, Same.seqT (same_new hfd) qc, for_it (walk_zipM (K := K) (a := lm) (b := tc) (xs := ms.map V.ref) (ys := cs) (n := Ms.length) (by rw [List.length_map, hM.1]) (by rw [lc, hch.1]))
    (fun i σ H1 => ∃ x4 x5, σ = [some (.ref lm), some (.ref tc), some (vN l), some (.ref fd), x4, x5, none] ∧ LcP K fd H (fun i => ((changed Ms c l).take i).map dT) i H1) ⟨none, none, rfl, LcP.zero hfd rfl⟩ (fun i σ H1 _ ⟨_, _, _, p⟩ => ⟨p.same.seq hl, Same.seqT p.same qc⟩) ?_ ?_⟩
  · rintro i x σ Ha Hb hi ⟨x4, x5, rfl, p⟩ ⟨T9, u1, u2, rfl, hT9, rfl, e1, e2⟩
    obtain ⟨m, hm, rfl⟩ := get_ref e1
    obtain ⟨M, hMi⟩ := get_some hi
    obtain ⟨d0, hd0, du⟩ := dc.get' e2
    rw [List.getElem?_map] at hd0
    obtain ⟨r, hr, rfl⟩ := Option.map_eq_some_iff.mp hd0
    obtain ⟨tr, rfl, qr⟩ := t_of du
    obtain ⟨hrl, hrs⟩ := hch.2 i M r hMi hr
    have hMl60 := hT M (List.mem_of_getElem? hMi)
    have sb : Same Ha (upd Ha T9 (.tup [.ref m, .ref tr])) := same_new hT9
    have s0b := Same.trans p.same sb
    obtain ⟨k1, k2⟩ := new_keeps (o := .tup [.ref m, .ref tr]) hT9 p.some
    obtain ⟨acc0, g0, _⟩ := id p
    refine ⟨T9, _, rfl, SqT.of upd_same, rfl, _, _, rfl, _, _, rfl, rfl, _, rfl, .inl ⟨rfl, _, SqL.of (k1.trans g0)⟩, _, rfl, tr, rfl, ⟨_, Same.seqT s0b qr⟩, fun D2 hD2 => lc_d (K := K) walk_tup (fun j => (r.take j).map fun s => dN (nx M.1 s l)) hD2 rfl (fun H' sm => Same.seqT (Same.trans s0b sm) qr) (fun j x Hc Hd hj p2 y => ?_) fun acc Hc h1 h2 h3 => ?_⟩
    · obtain ⟨rfl, hx⟩ := y
      obtain ⟨s0, hs0, rfl⟩ := get_vN hx
      have hsl := hrs s0 (List.mem_of_getElem? hs0)
      obtain ⟨dx, a, b, g1, da, db, lst⟩ := (hM.2 i m M hm hMi).mono (Same.trans s0b p2.same)
      obtain ⟨r', hr1, hr2, hr3⟩ := lst.whole.at hsl
      obtain ⟨n, hn⟩ := get_some (show l < r'.length by omega)
      obtain ⟨a', xs, cc, rfl, q1, q2, q3⟩ := row_t da hr1
      refine ⟨rfl, _, rfl, m, CM, dx, _, _, rfl, g1, T.iM.cl, T.mS, mfs_S _ _ _, _, rfl, a', xs, _, _, rfl, rfl, q1, q2, _, rfl, cc, _, _, _, rfl, rfl, q3, at_num hn, ?_⟩
      refine p2.put0 (d := dN (nx M.1 s0 l)) (line_lt (by have := lt_of_get hs0; omega)) ?_ (take_map _ r hs0)
      unfold nx
      rw [getD_of hr1, getD_of hn]
      exact .int _
    · have eacc : acc = (r.map fun s => nx M.1 s l).map vN := nums_of (by
        rw [List.length_map, List.take_length] at h3
        rw [List.map_map]
        exact h3)
      subst eacc
      have sbc : Same (upd Ha T9 (.tup [.ref m, .ref tr])) Hc := Same.trans h2 (wo_same _ _)
      refine ⟨D2, _, rfl, .inl ⟨SqL.of h1, fun t ht => ?_⟩⟩
      have hcf : Hc fd = some (.lst acc0) := sbc _ _ (k1.trans g0)
      have hN : LcN K fd H (fun i => ((changed Ms c l).take i).map dT) i (.ref t) (upd Hc t (.tup ((r.map fun s => nx M.1 s l).map vN))) :=
        p.put (d := dT (r.map fun s => nx M.1 s l)) (line_lt (by omega)) ((same_new ht _ _ hcf).trans g0.symm) (Same.trans k2 (wo_mono (Same.trans sbc (same_new ht)))) (dp_new_t ht (by rw [hcf]; exact fun z => nomatch z)) (take_map dT (changed Ms c l) (changed_get hMi hr))
      obtain ⟨acc1, z1, z2, z3⟩ := hN
      exact ⟨fd, acc1, _, rfl, rfl, z1, z2, _, _, rfl, z3⟩
  · rintro σ H1 ⟨x4, x5, rfl, acc, h1, h2, h3, _⟩
    have hlen : (changed Ms c l).length = Ms.length := changed_len hch.1
    have h3 : DpAll K (Wo [fd] H1) acc (((changed Ms c l).take Ms.length).map dT) := h3
    rw [← hlen, List.take_length] at h3
    have s1 : Same H H1 := Same.trans h2 (wo_same _ _)
    exact ⟨_, rfl, fd, _, rfl, .inl ⟨SqL.of h1, fun t ht => k _ t (Same.trans s1 (same_new ht)) (Same.free s1 ht) (.tup (SqT.of upd_same) (dpAll_mono (Same.trans (wo_same _ _) (same_new ht)) h3))⟩⟩
def spBehind (K : PySem.W.Frag) : Sp := fun vs H Q _ => ∃ (v1 v2 : V) (c d : Change) (Ms : List Mach), vs = [v1, v2] ∧ Dp K H v1 (dTT c) ∧ Dp K H v2 (dTT d) ∧ IsCh Ms c ∧ IsCh Ms d ∧ Ms.length ≤ 3 ∧ (∀ m ∈ Ms, m.1.length ≤ 60) ∧
  ∀ (H' : Hp) (p : Addr), Same H H' → H p = none → Dp K H' (.ref p) (dTT (behind c d)) → Q (.ref p) H'
abbrev s_changes_behind : Stmt := top 50
abbrev N_changes_behind : List Str := ["one", "other", "near", "far", "state"]
theorem sc_changes_behind : FnScope N_changes_behind ["one", "other"] (defScope s_changes_behind) := ⟨rfl, rfl, rfl, by decide +kernel, rfl, by decide +kernel, by decide +kernel⟩
theorem ok_changes_behind (T : Tx K mg CM CT) (D : DefAt K mg "changes_behind" s_changes_behind)  : Cal P w K mg base 1 "changes_behind" ["one", "other"] (spBehind K) := by
  refine cal_of D sc_changes_behind (fun _ _ _ _ _ _ us hl => match us, hl with | [_, _], _ => rfl) (fun vs H Q E h => ?_) (fun f cdv A outer s H vs Q E hr h => ?_)
  · obtain ⟨_, _, _, _, _, rfl, _⟩ := h
    rfl
  have hu := hu_of hr
  obtain ⟨v1, v2, c, d, Ms, rfl, hc, hd, hcc, hcd, hMl, hT, k⟩ := h
  refine ⟨_, (pss_one (ps_ret (pe_callTy (call_tupK K) (by rfl) T.tuple (by decide +kernel) (pa_cons (pe_lc (own := [("near", 2), ("far", 3)]) (tt := tYes) rfl sc_changes_behind.nd (pi_zipAK K (by rfl) T.zip (pa_cons (pv 0) (pa_cons (pv 1) pa_nil))) (blkOk_by (N := N_changes_behind) (sc := (defScope s_changes_behind)) (by decide +kernel)) (fun _ _ _ _ _ => (pg_tupK K (n := 2) rfl (pgs_cons (pg_name (i := 2) sc_changes_behind.nd rfl (Or.inl rfl)) (pgs_cons (pg_name (i := 3) sc_changes_behind.nd rfl (Or.inr rfl)) pgs_nil)))) (fun _ _ _ _ _ => pts_nil) (fun _ _ _ _ _ => (pe_callTy (call_tupK K) (by rfl) T.tuple (by decide +kernel) (pa_cons (pe_lc (own := [("state", 4)]) (tt := tYes) rfl sc_changes_behind.nd (pi_tupK K (pv 2)) (blkOk_by (N := N_changes_behind) (sc := (relS _ (defScope s_changes_behind))) (by decide +kernel)) (fun _ _ _ _ _ => (pg_name (i := 4) sc_changes_behind.nd rfl (Or.inl rfl))) (fun _ _ _ _ _ => pts_nil) (fun _ _ _ _ _ => (pe_ix (ix_tupK K) (pv 3) (pv 4) (fun _ _ => rfl)))) pa_nil)))) pa_nil)))), ?_⟩
  obtain ⟨ta, xs, rfl, qa, la, dda⟩ := dp_len_t hc
  obtain ⟨tb, ys, rfl, qb, lb, ddb⟩ := dp_len_t hd
  refine ⟨_, rfl, _, rfl, ta, tb, _, _, rfl, .inr ⟨qa, qb, fun D hD => lc_d (K := K) (walk_zipTT (n := Ms.length) (by rw [la, hcc.1]) (by rw [lb, hcd.1])) (fun i => ((behind c d).take i).map dT) hD rfl (fun H' sm => ⟨Same.seqT sm qa, Same.seqT sm qb⟩) (fun i x Ha Hb hi p y => ?_) fun acc Ha h1 h2 h3 => ?_⟩⟩
  · obtain ⟨T9, u1, u2, rfl, hT9, rfl, e1, e2⟩ := y
    obtain ⟨M, hMi⟩ := get_some hi
    have hMl60 := hT M (List.mem_of_getElem? hMi)
    obtain ⟨d1, hd1, du1⟩ := dda.get' e1
    rw [List.getElem?_map] at hd1
    obtain ⟨n, hn, rfl⟩ := Option.map_eq_some_iff.mp hd1
    obtain ⟨t1, rfl, q1⟩ := t_of du1
    obtain ⟨d2, hd2, du2⟩ := ddb.get' e2
    rw [List.getElem?_map] at hd2
    obtain ⟨f2, hf2, rfl⟩ := Option.map_eq_some_iff.mp hd2
    obtain ⟨t2, rfl, q2⟩ := t_of du2
    obtain ⟨n1, n2⟩ := hcc.2 i M n hMi hn
    obtain ⟨m1, m2⟩ := hcd.2 i M f2 hMi hf2
    have sb : Same Ha (upd Ha T9 (.tup [.ref t1, .ref t2])) := same_new hT9
    have s0b := Same.trans p.same sb
    obtain ⟨k1, k2⟩ := new_keeps (o := .tup [.ref t1, .ref t2]) hT9 p.some
    obtain ⟨acc0, g0, _⟩ := id p
    refine ⟨T9, _, rfl, SqT.of upd_same, rfl, _, _, rfl, _, _, rfl, rfl, rfl, _, rfl, t1, rfl, ⟨_, Same.seqT s0b q1⟩, fun D2 hD2 => lc_d (K := K) walk_tup (fun j => (n.take j).map fun s => dN (f2.getD s 0)) hD2 rfl (fun H' sm => Same.seqT (Same.trans s0b sm) q1) (fun j x Hc Hd hj p2 y => ?_) fun acc Hc h1 h2 h3 => ?_⟩
    · obtain ⟨rfl, hx⟩ := y
      obtain ⟨s0, hs0, rfl⟩ := get_vN hx
      have hsl := n2 s0 (List.mem_of_getElem? hs0)
      obtain ⟨x, hx⟩ := get_some (show s0 < f2.length by omega)
      refine ⟨rfl, _, rfl, _, rfl, t2, _, _, _, rfl, rfl, Same.seqT (Same.trans s0b p2.same) q2, at_num hx, ?_⟩
      refine p2.put0 (d := dN (f2.getD s0 0)) (line_lt (by have := lt_of_get hs0; omega)) ?_ (take_map _ n hs0)
      rw [getD_of hx]
      exact .int _
    · have eacc : acc = (n.map fun s => f2.getD s 0).map vN := nums_of (by
        rw [List.length_map, List.take_length] at h3
        rw [List.map_map]
        exact h3)
      subst eacc
      have sbc : Same (upd Ha T9 (.tup [.ref t1, .ref t2])) Hc := Same.trans h2 (wo_same _ _)
      refine ⟨D2, _, rfl, .inl ⟨SqL.of h1, fun t ht => ?_⟩⟩
      have hcf : Hc D = some (.lst acc0) := sbc _ _ (k1.trans g0)
      exact p.put (d := dT (n.map fun s => f2.getD s 0)) (line_lt (by omega)) ((same_new ht _ _ hcf).trans g0.symm) (Same.trans k2 (wo_mono (Same.trans sbc (same_new ht)))) (dp_new_t ht (by rw [hcf]; exact fun z => nomatch z)) (take_map dT (behind c d) (behind_get hn hf2))
  · have hlen : (behind c d).length = Ms.length := by rw [behind_len (by rw [hcc.1, hcd.1]), hcc.1]
    rw [← hlen, List.take_length] at h3
    refine ⟨D, _, rfl, .inl ⟨SqL.of h1, fun t ht => ?_⟩⟩
    have s1 : Same H Ha := Same.trans h2 (wo_same _ _)
    exact k _ t (Same.trans s1 (same_new ht)) (Same.free s1 ht) (.tup (SqT.of upd_same) (dpAll_mono (Same.trans (wo_same _ _) (same_new ht)) h3))
end
end M22

set_option maxRecDepth 100000
set_option maxHeartbeats 4000000
namespace M22
open PySem PySem.Spec PyProof.Rows L2
section
variable {P : Program} {w : World} {K : PySem.W.Frag} {mg : Str → Option Value} {base : Heap} {CM CT : Addr}
def spFound (P : Program) (w : World) (K : PySem.W.Frag) (CM : Addr) : Sp := fun vs H Q _ => ∃ (lm : Addr) (L : Nat) (ms : List Addr) (Ms : List Mach) (C : List Change), vs = [.ref lm, vN L] ∧ SqL K H lm (ms.map V.ref) ∧ MsAt K CM H L ms Ms ∧ Ms.length ≤ 3 ∧ (∀ m ∈ Ms, m.1.length ≤ 60) ∧ Classes L Ms C ∧ C.length ≤ 10 ∧ L ≤ 3 ∧
  ∀ (H' : Hp) (p aw ac ap : Addr) (ws : List V) (es : Ents Change), Same H H' → H p = none → H aw = none → H ac = none → H ap = none → H' p = some (.tup [.ref aw, .ref ac, .ref ap]) → H' aw = some (.lst ws) → ws.length = C.length → (∃ cs, H' ac = some (.lst cs) ∧ DpAll K (Wo [aw, ac, ap] H') cs (C.map dTT)) →
    H' ap = some (dnO kC P w ap es) → KeysAt kC K H' es → es.map (·.1) = C → Q (.ref p) H'
/-- between two turns of the search -/
def FI (P : Program) (w : World) (K : PySem.W.Frag) (aw ac ap : Addr) (Hi : Hp) (f : List Change) (H : Hp) : Prop := ∃ (ws cs : List V) (es : Ents Change), Same Hi (Wo [aw, ac, ap] H) ∧ H aw = some (.lst ws) ∧ ws.length = f.length ∧
  (∀ j x, ws[j]? = some x → ∃ t xs, x = .ref t ∧ SqT K (Wo [aw, ac, ap] H) t xs ∧ xs.length ≤ j) ∧ H ac = some (.lst cs) ∧ DpAll K (Wo [aw, ac, ap] H) cs (f.map dTT) ∧ H ap = some (dnO kC P w ap es) ∧ KeysAt kC K (Wo [aw, ac, ap] H) es ∧ es.map (·.1) = f
abbrev s_classes_found : Stmt := top 49
abbrev N_classes_found : List Str := ["machines", "letters", "idle", "words", "changes", "places", "at", "letter", "late"]
theorem sc_classes_found : FnScope N_classes_found ["machines", "letters"] (defScope s_classes_found) := ⟨rfl, rfl, rfl, by decide +kernel, rfl, by decide +kernel, by decide +kernel⟩
theorem ok_classes_found (T : Tx K mg CM CT) (D : DefAt K mg "classes_found" s_classes_found) (c_idle_change : Cal P w K mg base 1 "idle_change" ["machines"] (spIdle K CM)) (c_change_by_letter : Cal P w K mg base 1 "change_by_letter" ["machines", "change", "letter"] (spChg K CM)) : Cal P w K mg base 2 "classes_found" ["machines", "letters"] (spFound P w K CM) := by
  refine cal_of D sc_classes_found (fun _ _ _ _ _ _ us hl => match us, hl with | [_, _], _ => rfl) (fun vs H Q E h => ?_) (fun f cdv A outer s H vs Q E hr h => ?_)
  · obtain ⟨_, _, _, _, _, rfl, _⟩ := h
    rfl
  have hu := hu_of hr
  obtain ⟨lm, L, ms, Ms, C, rfl, hl, hM, hMl, hT, Z, hC, hL3, k⟩ := h
  refine ⟨_, (pss_cons (ps_set (i := 2) sc_classes_found.nd rfl (Or.inl rfl) (pe_c c_idle_change hr (by decide) rfl (pa_cons (pv 0) pa_nil)))
  (pss_cons (ps_par3 (i := 3) (j := 4) (l := 5) rfl sc_classes_found.nd rfl rfl rfl (by decide) (by decide) (by decide) rfl rfl rfl (pa_cons (pe_lst (pa_cons (pe_tup pa_nil) pa_nil)) (pa_cons (pe_lst (pa_cons (pv 2) pa_nil)) (pa_cons (pe_dispN (T := kC) (hu_64 hr) (pps_cons (pv 2) pe_int pps_nil) (by rfl) (by rfl) (fun z => by cases z) (by decide)) pa_nil))) (by rfl))
  (pss_cons (ps_set (i := 6) sc_classes_found.nd rfl (Or.inl rfl) pe_int)
  (pss_cons (ps_while PassesOwn.never (pt_cmpR op_lt (pv 6) (pe_callB (call_lenK K) (by rfl) T.len PySem.boot_len (pa_cons (pv 3) pa_nil)) (nomark _)) (pss_cons (ps_for PassesOwn.never rfl (pi_range1 rfl T.range (pa_cons (pv 1) pa_nil)) (pg_name (i := 7) sc_classes_found.nd rfl (Or.inl rfl)) (pss_cons (ps_set (i := 8) sc_classes_found.nd rfl (Or.inl rfl) (pe_c c_change_by_letter hr (by decide) rfl (pa_cons (pv 0) (pa_cons (pe_ix (ix_listK K) (pv 4) (pv 6) (fun _ _ => rfl)) (pa_cons (pv 7) pa_nil)))))
      (pss_one (ps_if (pt_cmpR (op_notInN (T := kC) (hu_64 hr)) (pv 8) (pv 5) (by rfl)) (pss_cons (ps_if (pt_cmpR op_eq (pe_callB (call_lenK K) (by rfl) T.len PySem.boot_len (pa_cons (pv 3) pa_nil)) (pe_g (by rfl) T.MOST_CLASSES) (nomark _)) (pss_one ps_never) pss_nil)
        (pss_cons (ps_asg (pe_callB (call_lenK K) (by rfl) T.len PySem.boot_len (pa_cons (pv 3) pa_nil)) (pg_sub (pv 5) (pv 8) (set_N (T := kC) (hu_64 hr))))
        (pss_cons (ps_expr (pe_bmK K PySem.F.plainAttrs_list PySem.F.slot_list_append PySem.F.type_list_append mt_append (pv 3) (pa_cons (pe_op (op_catTK K) (pe_ix (ix_listK K) (pv 3) (pv 6) (fun _ _ => rfl)) (pe_tup (pa_cons (pv 7) pa_nil))) pa_nil)))
        (pss_one (ps_expr (pe_bmK K PySem.F.plainAttrs_list PySem.F.slot_list_append PySem.F.type_list_append mt_append (pv 4) (pa_cons (pv 8) pa_nil))))))) pss_nil))))
    (pss_one (ps_set (i := 6) sc_classes_found.nd rfl (Or.inl rfl) (pe_op op_add (pv 6) pe_int)))))
  (pss_one (ps_ret (pe_tup (pa_cons (pv 3) (pa_cons (pv 4) (pa_cons (pv 5) pa_nil)))))))))), ?_⟩
  refine ⟨_, rfl, lm, L, ms, Ms, rfl, hl, hM, hMl, hT, fun H1 pi s1 hpi di => ?_⟩
  -- words, changes, places = ([()], [idle], {idle: 0})
  refine ⟨by show 0 ≤ sizeLine; decide, fun t0 ht0 => ⟨by show 1 ≤ sizeLine; decide, fun aw haw => ⟨_, rfl, by show 1 ≤ sizeLine; decide, fun ac hac ap hap => ?_⟩⟩⟩
  generalize hHi : upd H1 t0 (.tup []) = Hi at haw hac hap ⊢
  have ht0i : Hi t0 = some (.tup []) := by rw [← hHi, upd_same]
  have s1i : Same H1 Hi := by rw [← hHi]; exact same_new ht0
  have nwc : aw ≠ ac := fun e => by rw [← e, upd_same] at hac; cases hac
  have hac' : Hi ac = none := by rw [upd_ne nwc.symm] at hac; exact hac
  have ncp : ac ≠ ap := fun e => by rw [← e, upd_same] at hap; cases hap
  have nwp : aw ≠ ap := fun e => by rw [← e, upd_ne nwc, upd_same] at hap; cases hap
  have hap' : Hi ap = none := by rw [upd_ne ncp.symm, upd_ne nwp.symm] at hap; exact hap
  have sHi := Same.trans s1 s1i
  have nM : ∀ b ∈ [aw, ac, ap], Hi b = none := fun b hb => by
    rcases List.mem_cons.mp hb with e | hb
    · rw [e]; exact haw
    rcases List.mem_cons.mp hb with e | hb
    · rw [e]; exact hac'
    · rw [List.mem_singleton.mp hb]; exact hap'
  have sii : Same Hi (Wo [aw, ac, ap] Hi) := fun b o e => by
    rw [wo_out fun z => by rw [nM b z] at e; cases e]
    exact e
  have hLi := sHi.seq hl
  have hMi := hM.mono sHi
  refine ⟨_, rfl, pi, idle Ms, _, rfl, upd_same, by rw [kC_dk]; exact dp_mono (Same.trans s1i (Same.trans (same_new haw) (Same.trans (same_new hac) (same_new hap)))) di, _, _, _, rfl, ?_⟩
  -- while at < len(words)
  refine ⟨fun m σ H3 => ∃ (f : List Change) (n : Nat) (x7 x8 : Option V), σ = [some (.ref lm), some (vN L), some (.ref pi), some (.ref aw), some (.ref ac), some (.ref ap), some (vN n), x7, x8] ∧ m = C.length - n ∧ FI P w K aw ac ap Hi f H3 ∧ Bfs (nextC L Ms) (idle Ms) f n,
    ⟨_, [idle Ms], 0, none, none, rfl, rfl, ⟨[.ref t0], [.ref pi], [(idle Ms, pi, .int 0)], ?_, ?_, rfl, ?_, ?_, ?_, upd_same, ?_, rfl⟩, .start⟩, ?_⟩
  · rw [wo_upd (by simp), wo_upd (by simp), wo_upd (by simp), wo_upd (by simp)]; exact sii
  · rw [upd_ne nwp, upd_ne nwp, upd_ne nwc, upd_same]
  · rw [wo_upd (by simp), wo_upd (by simp), wo_upd (by simp), wo_upd (by simp)]
    intro j x hj
    have : j = 0 := by have := lt_of_get hj; simp at this; omega
    subst this
    cases hj
    exact ⟨t0, [], rfl, SqT.of (sii _ _ ht0i), Nat.zero_le _⟩
  · rw [upd_ne ncp, upd_ne ncp, upd_same]
  · rw [wo_upd (by simp), wo_upd (by simp), wo_upd (by simp), wo_upd (by simp)]
    exact .cons (dp_mono (Same.trans s1i sii) di) .nil
  · rw [wo_upd (by simp), wo_upd (by simp), wo_upd (by simp), wo_upd (by simp)]
    intro e he
    rw [List.mem_singleton.mp he, kC_dk]
    exact dp_mono (Same.trans s1i sii) di
  rintro m σ H3 ⟨f, n, x7, x8, rfl, rfl, ⟨ws, cs, es, s3, h3w, lw, wsp, h3c, dcs, h3p, ka, ek⟩, b⟩
  refine ⟨_, rfl, _, rfl, aw, _, rfl, .inl (SqL.of h3w), _, _, rfl, rfl, _, rfl, ?_⟩
  have hpf := b.pre_fin Z.bfs (Nat.le_refl _)
  by_cases hn : n < f.length
  · refine ifT (decide_eq_true (by omega)) ⟨_, fun _ _ z => z, ?_⟩
    obtain ⟨c, hc⟩ := get_some hn
    have hcC : c ∈ C := hpf.1.subset (List.mem_of_getElem? hc)
    have hch := Z.ch hcC
    -- for letter in range(letters)
    refine ⟨_, rfl, (L : Int), rfl, by omega, by omega, for_it (walk_range (lo := 0) (n := (L : Int).toNat)) (fun i σ H4 => ∃ x7 x8, σ = [some (.ref lm), some (vN L), some (.ref pi), some (.ref aw), some (.ref ac), some (.ref ap), some (vN n), x7, x8] ∧ FI P w K aw ac ap Hi (addAll f ((List.range i).map (changed Ms c))) H4)
      ⟨x7, x8, rfl, ws, cs, es, s3, h3w, lw, wsp, h3c, dcs, h3p, ka, ek⟩ (fun _ _ _ _ _ => True.intro) ?_ ?_⟩
    · clear ws cs es s3 h3w lw wsp h3c dcs h3p ka ek
      rintro i x σ H4 H4' hi ⟨x7, x8, rfl, ws, cs, es, s4, h4w, lw, wsp, h4c, dcs, h4p, ka, ek⟩ ⟨rfl, ex⟩
      have ex : x = vN i := by
        rw [ex]
        show V.int (0 + (i : Int)) = V.int i
        rw [Int.zero_add]
      subst ex
      have hiL : i < L := by omega
      have hpi : f <+: addAll f ((List.range i).map (changed Ms c)) := addAll_prefix _ _
      have hci : (addAll f ((List.range i).map (changed Ms c)))[n]? = some c := by
        obtain ⟨t, e⟩ := hpi
        rw [← e, List.getElem?_append_left hn]
        exact hc
      obtain ⟨u, hu, du⟩ := dcs.get (i := n) (d := dTT c) (by rw [List.getElem?_map, hci]; rfl)
      have sHi4 := Same.trans s4 (wo_same [aw, ac, ap] H4')
      have hmid : addAll f ((List.range (i + 1)).map (changed Ms c)) <+: C := b.mid hc Z.bfs (Nat.le_refl _) _ _ (range_split (changed Ms c) hiL)
      have esn : addAll f ((List.range (i + 1)).map (changed Ms c)) = addAll f ((List.range i).map (changed Ms c) ++ [changed Ms c i]) := by
        rw [List.range_succ, List.map_append]
        rfl
      have fiT : changed Ms c i ∈ addAll f ((List.range i).map (changed Ms c)) → addAll f ((List.range (i + 1)).map (changed Ms c)) = addAll f ((List.range i).map (changed Ms c)) := fun z => by
        rw [esn, addAll_snoc, if_pos z]
      have fiF : ¬ changed Ms c i ∈ addAll f ((List.range i).map (changed Ms c)) → addAll f ((List.range (i + 1)).map (changed Ms c)) = addAll f ((List.range i).map (changed Ms c)) ++ [changed Ms c i] := fun z => by
        rw [esn, addAll_snoc, if_neg z]
      clear esn
      generalize addAll f ((List.range (i + 1)).map (changed Ms c)) = f1 at hmid fiT fiF ⊢
      generalize addAll f ((List.range i).map (changed Ms c)) = f0 at hpi hci fiT fiF lw dcs ek
      refine ⟨_, rfl, _, rfl, _, rfl, ac, cs, _, _, rfl, rfl, SqL.of h4c, atI_nat hu, _, rfl, lm, u, i, L, ms, Ms, c, rfl, sHi4.seq hLi, hMi.mono sHi4, hMl, hT, dp_mono (wo_same _ _) du, hch, hiL, fun H5 pl s45 hpl dl0 => ?_⟩
      have h5w := s45 _ _ h4w
      have h5c := s45 _ _ h4c
      have h5p := s45 _ _ h4p
      have w45 := wo_mono (M := [aw, ac, ap]) s45
      have s5 := Same.trans s4 w45
      have nt : NoTup [aw, ac, ap] H5 := fun b hb => by
        rcases List.mem_cons.mp hb with e | hb
        · rw [e]; exact noTup_of h5w (fun _ z => nomatch z) (fun _ _ z => nomatch z)
        rcases List.mem_cons.mp hb with e | hb
        · rw [e]; exact noTup_of h5c (fun _ z => nomatch z) (fun _ _ z => nomatch z)
        · rw [List.mem_singleton.mp hb]; exact noTup_of h5p (fun _ z => nomatch z) (fun _ _ z => nomatch z)
      have dl := dpTT_outM nt dl0
      have wsp : ∀ j x, ws[j]? = some x → ∃ t xs, x = .ref t ∧ SqT K (Wo [aw, ac, ap] H5) t xs ∧ xs.length ≤ j := fun j x hj => by
        obtain ⟨t, xs, e, q1, q2⟩ := wsp j x hj
        exact ⟨t, xs, e, Same.seqT w45 q1, q2⟩
      have dcs := dpAll_mono w45 dcs
      have ka := ka.mono w45
      clear s4 h4w h4c h4p du hu w45
      refine ⟨_, rfl, _, rfl, ap, es, pl, changed Ms c i, rfl, rfl, h5p, ka.mono (wo_same _ _), by rw [kC_dk]; exact dl0, _, rfl, ?_⟩
      rw [ek]
      by_cases hin : changed Ms c i ∈ f0
      · have fi := fiT hin
        refine ifF (by simp [hin]) ⟨_, _, rfl, ws, cs, es, s5, h5w, by rw [fi]; exact lw, wsp, h5c, by rw [fi]; exact dcs, h5p, ka, by rw [fi]; exact ek⟩
      have fi1 : f1 = f0 ++ [changed Ms c i] := fiF hin
      have hlf : f0.length + 1 ≤ C.length := by
        have := hmid.length_le
        rw [fi1, List.length_append] at this
        exact this
      have les : es.length = f0.length := by rw [← ek, List.length_map]
      have lcs : cs.length = f0.length := by rw [dcs.length, List.length_map]
      refine ifT (by simp [hin]) ⟨_, rfl, aw, ws, rfl, .inl (SqL.of h5w), rfl, _, rfl, ifF ?_ ?_⟩
      · refine decide_eq_false fun z => ?_
        injection z with z
        omega
      refine ⟨_, rfl, aw, ws, rfl, .inl (SqL.of h5w), _, rfl, _, rfl, ap, es, pl, changed Ms c i, rfl, rfl, h5p, ka.mono (wo_same _ _), by rw [kC_dk]; exact dl0, by rw [ek]; exact hin, line_lt (by omega), ?_⟩
      obtain ⟨xw, hxw⟩ := get_some (show n < ws.length by have := lt_of_get hci; omega)
      obtain ⟨tw, xs, rfl, qw, hxl⟩ := wsp n xw hxw
      have nwl : n < ws.length := lt_of_get hxw
      have h6w : upd H5 ap (dnO kC P w ap (es ++ [(changed Ms c i, pl, vN ws.length)])) aw = some (.lst ws) := by rw [upd_ne nwp]; exact h5w
      have q6 : SqT K (upd H5 ap (dnO kC P w ap (es ++ [(changed Ms c i, pl, vN ws.length)]))) tw xs := by
        have : SqT K (Wo [aw, ac, ap] (upd H5 ap (dnO kC P w ap (es ++ [(changed Ms c i, pl, vN ws.length)])))) tw xs := by rw [wo_upd (by simp)]; exact qw
        exact Same.seqT (wo_same _ _) this
      refine ⟨_, rfl, .inl ⟨rfl, _, SqL.of h6w⟩, _, rfl, _, rfl, aw, ws, _, _, rfl, rfl, SqL.of h6w, atI_nat hxw, _, rfl, by show 1 ≤ sizeLine; decide, fun tl htl => ?_⟩
      have htl : upd H5 ap (dnO kC P w ap (es ++ [(changed Ms c i, pl, vN ws.length)])) tl = none := htl
      have hnl : ∀ b ∈ [aw, ac, ap], tl ≠ b := fun b hb e => by
        rcases List.mem_cons.mp hb with z | hb
        · rw [e, z, h6w] at htl; cases htl
        rcases List.mem_cons.mp hb with z | hb
        · rw [e, z, upd_ne ncp, h5c] at htl; cases htl
        · rw [e, List.mem_singleton.mp hb, upd_same] at htl; cases htl
      refine ⟨tw, tl, xs, [vN i], rfl, rfl, Same.seqT (same_new htl) q6, SqT.of upd_same, by show xs.length + 1 ≤ sizeLine; exact line_le (by omega), fun ex => ?c1, (fun _ z => nomatch z), fun ex _ t7 ht7 => ?c3⟩
      case c1 =>
        have s67 : Same (upd H5 ap (dnO kC P w ap (es ++ [(changed Ms c i, pl, vN ws.length)]))) (upd (upd H5 ap (dnO kC P w ap (es ++ [(changed Ms c i, pl, vN ws.length)]))) tl (.tup [vN i])) := same_new htl
        have w7 : Same (Wo [aw, ac, ap] H5) (Wo [aw, ac, ap] (upd (upd H5 ap (dnO kC P w ap (es ++ [(changed Ms c i, pl, vN ws.length)]))) tl (.tup [vN i]))) := by
          have := wo_mono (M := [aw, ac, ap]) s67
          rw [wo_upd (by simp)] at this
          exact this
        have h7w : (upd (upd H5 ap (dnO kC P w ap (es ++ [(changed Ms c i, pl, vN ws.length)]))) tl (.tup [vN i])) aw = some (.lst ws) := s67 _ _ (by rw [upd_ne nwp]; exact h5w)
        have h7c : (upd (upd H5 ap (dnO kC P w ap (es ++ [(changed Ms c i, pl, vN ws.length)]))) tl (.tup [vN i])) ac = some (.lst cs) := s67 _ _ (by rw [upd_ne ncp]; exact h5c)
        have h7p : (upd (upd H5 ap (dnO kC P w ap (es ++ [(changed Ms c i, pl, vN ws.length)]))) tl (.tup [vN i])) ap = some (dnO kC P w ap (es ++ [(changed Ms c i, pl, vN ws.length)])) := s67 _ _ upd_same
        refine ⟨aw, ws, _, rfl, rfl, h7w, line_lt (by omega), _, rfl, .inl ⟨rfl, _, SqL.of ((upd_ne nwc.symm).trans h7c)⟩, _, rfl, ac, cs, _, rfl, rfl, (upd_ne nwc.symm).trans h7c, line_lt (by omega), _, _, rfl, ws ++ [.ref tl], cs ++ [.ref pl], es ++ [(changed Ms c i, pl, vN ws.length)], ?_, ?_, ?_, ?_, upd_same, ?_, ?_, ?_, ?_⟩
        · rw [wo_upd (by simp), wo_upd (by simp)]; exact Same.trans s5 w7
        · exact (upd_ne nwc).trans upd_same
        · rw [fi1, List.length_append, List.length_append, lw]; rfl
        · rw [wo_upd (by simp), wo_upd (by simp)]
          intro j x hj
          by_cases q : j < ws.length
          · rw [List.getElem?_append_left q] at hj
            obtain ⟨t, xs, e, q1, q2⟩ := wsp j x hj
            exact ⟨t, xs, e, Same.seqT w7 q1, q2⟩
          · rw [List.getElem?_append_right (by omega)] at hj
            have e0 : j - ws.length = 0 := by have := lt_of_get hj; simp at this; omega
            rw [e0] at hj
            cases hj
            exact ⟨tl, [vN i], rfl, SqT.of (by rw [wo_out fun z => hnl _ z rfl]; exact upd_same), by show 1 ≤ _; omega⟩
        · rw [wo_upd (by simp), wo_upd (by simp), fi1, List.map_append]
          exact (dpAll_mono w7 dcs).snoc (dp_mono w7 dl)
        · exact (upd_ne ncp.symm).trans ((upd_ne nwp.symm).trans h7p)
        · rw [wo_upd (by simp), wo_upd (by simp)]
          exact (ka.mono w7).snoc (by rw [kC_dk]; exact dp_mono w7 dl)
        · rw [fi1, List.map_append, ek]; rfl
      case c3 =>
        have hnt : ∀ b ∈ [aw, ac, ap], t7 ≠ b := fun b hb e => by
          have htl2 : upd H5 ap (dnO kC P w ap (es ++ [(changed Ms c i, pl, vN ws.length)])) t7 = none := Same.free (same_new (o := .tup [vN i]) htl) ht7
          rcases List.mem_cons.mp hb with z | hb
          · rw [e, z, h6w] at htl2; cases htl2
          rcases List.mem_cons.mp hb with z | hb
          · rw [e, z, upd_ne ncp, h5c] at htl2; cases htl2
          · rw [e, List.mem_singleton.mp hb, upd_same] at htl2; cases htl2
        have s67 : Same (upd H5 ap (dnO kC P w ap (es ++ [(changed Ms c i, pl, vN ws.length)]))) (upd (upd (upd H5 ap (dnO kC P w ap (es ++ [(changed Ms c i, pl, vN ws.length)]))) tl (.tup [vN i])) t7 (.tup (xs ++ [vN i]))) := Same.trans (same_new htl) (same_new ht7)
        have w7 : Same (Wo [aw, ac, ap] H5) (Wo [aw, ac, ap] (upd (upd (upd H5 ap (dnO kC P w ap (es ++ [(changed Ms c i, pl, vN ws.length)]))) tl (.tup [vN i])) t7 (.tup (xs ++ [vN i])))) := by
          have := wo_mono (M := [aw, ac, ap]) s67
          rw [wo_upd (by simp)] at this
          exact this
        have h7w : (upd (upd (upd H5 ap (dnO kC P w ap (es ++ [(changed Ms c i, pl, vN ws.length)]))) tl (.tup [vN i])) t7 (.tup (xs ++ [vN i]))) aw = some (.lst ws) := s67 _ _ (by rw [upd_ne nwp]; exact h5w)
        have h7c : (upd (upd (upd H5 ap (dnO kC P w ap (es ++ [(changed Ms c i, pl, vN ws.length)]))) tl (.tup [vN i])) t7 (.tup (xs ++ [vN i]))) ac = some (.lst cs) := s67 _ _ (by rw [upd_ne ncp]; exact h5c)
        have h7p : (upd (upd (upd H5 ap (dnO kC P w ap (es ++ [(changed Ms c i, pl, vN ws.length)]))) tl (.tup [vN i])) t7 (.tup (xs ++ [vN i]))) ap = some (dnO kC P w ap (es ++ [(changed Ms c i, pl, vN ws.length)])) := s67 _ _ upd_same
        refine ⟨aw, ws, _, rfl, rfl, h7w, line_lt (by omega), _, rfl, .inl ⟨rfl, _, SqL.of ((upd_ne nwc.symm).trans h7c)⟩, _, rfl, ac, cs, _, rfl, rfl, (upd_ne nwc.symm).trans h7c, line_lt (by omega), _, _, rfl, ws ++ [.ref t7], cs ++ [.ref pl], es ++ [(changed Ms c i, pl, vN ws.length)], ?_, ?_, ?_, ?_, upd_same, ?_, ?_, ?_, ?_⟩
        · rw [wo_upd (by simp), wo_upd (by simp)]; exact Same.trans s5 w7
        · exact (upd_ne nwc).trans upd_same
        · rw [fi1, List.length_append, List.length_append, lw]; rfl
        · rw [wo_upd (by simp), wo_upd (by simp)]
          intro j x hj
          by_cases q : j < ws.length
          · rw [List.getElem?_append_left q] at hj
            obtain ⟨t, xs, e, q1, q2⟩ := wsp j x hj
            exact ⟨t, xs, e, Same.seqT w7 q1, q2⟩
          · rw [List.getElem?_append_right (by omega)] at hj
            have e0 : j - ws.length = 0 := by have := lt_of_get hj; simp at this; omega
            rw [e0] at hj
            cases hj
            exact ⟨t7, (xs ++ [vN i]), rfl, SqT.of (by rw [wo_out fun z => hnt _ z rfl]; exact upd_same), by rw [List.length_append]; show xs.length + 1 ≤ _; omega⟩
        · rw [wo_upd (by simp), wo_upd (by simp), fi1, List.map_append]
          exact (dpAll_mono w7 dcs).snoc (dp_mono w7 dl)
        · exact (upd_ne ncp.symm).trans ((upd_ne nwp.symm).trans h7p)
        · rw [wo_upd (by simp), wo_upd (by simp)]
          exact (ka.mono w7).snoc (by rw [kC_dk]; exact dp_mono w7 dl)
        · rw [fi1, List.map_append, ek]; rfl
    · rintro σ H4 ⟨x7, x8, rfl, hF⟩
      rw [Int.toNat_natCast] at hF
      refine ⟨_, rfl, _, _, rfl, rfl, C.length - (n + 1), by have := (b.turn hc).pre_fin Z.bfs (Nat.le_refl _); omega, _, n + 1, x7, x8, rfl, rfl, hF, b.turn hc⟩
  · refine ifF (decide_eq_false (by omega)) ?_
    have efin := (b.fin (by omega) Z.bfs (Nat.le_refl _)).1
    subst efin
    refine ⟨_, rfl, _, rfl, _, rfl, by show 3 ≤ sizeLine; decide, fun p hp => ?_⟩
    have sf : Same Hi H3 := Same.trans s3 (wo_same _ _)
    have wp : Same (Wo [aw, ac, ap] H3) (Wo [aw, ac, ap] (upd H3 p (.tup [.ref aw, .ref ac, .ref ap]))) := wo_new hp
    exact k _ p aw ac ap ws es (Same.trans sHi (Same.trans sf (same_new hp))) (Same.free (Same.trans sHi sf) hp) (Same.free sHi haw) (Same.free sHi hac') (Same.free sHi hap') upd_same (same_new hp _ _ h3w) lw ⟨cs, same_new hp _ _ h3c, dpAll_mono wp dcs⟩ (same_new hp _ _ h3p) ((ka.mono wp).mono (wo_same _ _)) ek
end
end M22

set_option maxRecDepth 100000
set_option maxHeartbeats 4000000
namespace M22
open PySem PySem.Spec PyProof.Rows L2
theorem hu_65 {A : Around} {k : Nat} (hr : Room k A) : A.units + 65 < cLine := by have := hr.un; omega
section
variable {P : Program} {w : World} {K : PySem.W.Frag} {mg : Str → Option Value} {base : Heap} {CM CT : Addr}
def spTInit (K : PySem.W.Frag) (CM CT : Addr) : Sp := fun vs H Q _ => ∃ (t dx lv : Addr) (N : List Addr) (L : Nat) (ms : List Addr) (Ms : List Mach) (C : List Change), vs = [.ref t, .ref lv] ∧ H t = some (.ins CT dx []) ∧ (∀ b ∈ N, H b ≠ none) ∧ NoTup N H ∧ ¬ t ∈ N ∧
  SqL K (Wo (t :: N) H) lv (ms.map V.ref) ∧ MsAt K CM (Wo (t :: N) H) L ms Ms ∧ (∀ m ∈ Ms, m.1.length ≤ 60) ∧ Classes L Ms C ∧ C.length ≤ 10 ∧ 0 < L ∧ L ≤ 2 ∧ Ms.length ≤ 2 ∧ 0 < Ms.length ∧
  ∀ (H' : Hp) (k : Addr), Same (Wo [t] H) (Wo [t] H') → H k = none → TAt K CM CT (Wo N H') t k L ms Ms C → Q .non H'
abbrev s_Table_init : Stmt := inClass (top 51) 0
abbrev N_Table_init : List Str := ["self", "machines", "words", "changes", "places", "machine", "one", "other"]
theorem sc_Table_init : FnScope N_Table_init ["self", "machines"] (defScope s_Table_init) := ⟨rfl, rfl, rfl, by decide +kernel, rfl, by decide +kernel, by decide +kernel⟩
theorem ok_Table_init (T : Tx K mg CM CT) (D : InitAt K CT "Table.__init__" s_Table_init) (c_is_list : Cal P w K mg base 1 "is_list" ["value"] (spIsList K)) (c_classes_found : Cal P w K mg base 2 "classes_found" ["machines", "letters"] (spFound P w K CM)) (c_changes_behind : Cal P w K mg base 1 "changes_behind" ["one", "other"] (spBehind K)) : Mak P w K mg base 3 "Table" CT ["self", "machines"] (spTInit K CM CT) := by
  refine mak_of D T.Table sc_Table_init (fun _ _ _ _ _ _ us hl => match us, hl with | [_, _], _ => rfl) (fun vs H Q E h => ?_) (fun f cdv A outer s H vs Q E hr h => ?_)
  · obtain ⟨_, _, _, _, _, _, _, _, rfl, _⟩ := h
    rfl
  have hu := hu_of hr
  obtain ⟨t, dx, lv, N, L, ms, Ms, C, rfl, ht, hN, nt, htN, hl, hM, hT, Z, hC, hL, hL2, hMl, hMp, k⟩ := h
  refine ⟨_, (pss_cons (ps_if (PW.pt (pw_or (pt_not (pt_val (pe_c c_is_list hr (by decide) rfl (pa_cons (pv 1) pa_nil)))) (pw_or1 (pt_not (pt_chain op_le op_le pe_int (pe_callB (call_lenK K) (by rfl) T.len PySem.boot_len (pa_cons (pv 1) pa_nil)) (pe_g (by rfl) T.MOST_MACHINES)))))) (pss_one ps_never) pss_nil)
  (pss_cons (ps_if (pt_not (pt_val (pe_callB (cr_allK K rfl) (by rfl) T.all (by decide +kernel) (pa_cons (pe_lc (own := [("machine", 5)]) (tt := tYes) rfl sc_Table_init.nd (pi_listK K (pv 1)) (blkOk_by (N := N_Table_init) (sc := (defScope s_Table_init)) (by decide +kernel)) (fun _ _ _ _ _ => (pg_name (i := 5) sc_Table_init.nd rfl (Or.inl rfl))) (fun _ _ _ _ _ => pts_nil) (fun _ _ _ _ _ => (pe_callB (call_isiK K) (by rfl) T.isinstance (by decide +kernel) (pa_cons (pv 5) (pa_cons (pe_gC (by rfl) T.Machine) pa_nil))))) pa_nil)))) (pss_one ps_never) pss_nil)
  (pss_cons (ps_fldK K (pv 0) (pe_callTy (call_lstK K) (by rfl) T.list (by decide +kernel) (pa_cons (pv 1) pa_nil)) rfl)
  (pss_cons (ps_fldK K (pv 0) (pe_fldK K (pe_ix (ix_listK K) (pv 1) pe_int (fun _ _ => rfl)) rfl) rfl)
  (pss_cons (ps_if (pt_not (pt_val (pe_callB (cr_allK K rfl) (by rfl) T.all (by decide +kernel) (pa_cons (pe_lc (own := [("machine", 5)]) (tt := tYes) rfl sc_Table_init.nd (pi_listK K (pv 1)) (blkOk_by (N := N_Table_init) (sc := (defScope s_Table_init)) (by decide +kernel)) (fun _ _ _ _ _ => (pg_name (i := 5) sc_Table_init.nd rfl (Or.inl rfl))) (fun _ _ _ _ _ => pts_nil) (fun _ _ _ _ _ => (pe_cmpR op_eq (pe_fldK K (pv 5) rfl) (pe_fldK K (pv 0) rfl) (nomark _)))) pa_nil)))) (pss_one ps_never) pss_nil)
  (pss_cons (ps_asg (pe_c c_classes_found hr (by decide) rfl (pa_cons (pe_fldK K (pv 0) rfl) (pa_cons (pe_fldK K (pv 0) rfl) pa_nil))) (pg_tupK K (n := 3) rfl (pgs_cons (pg_name (i := 2) sc_Table_init.nd rfl (Or.inl rfl)) (pgs_cons (pg_name (i := 3) sc_Table_init.nd rfl (Or.inr rfl)) (pgs_cons (pg_name (i := 4) sc_Table_init.nd rfl (Or.inr rfl)) pgs_nil)))))
  (pss_cons (ps_fldK K (pv 0) (pv 2) rfl)
  (pss_cons (ps_fldK K (pv 0) (pv 3) rfl)
  (pss_cons (ps_fldK K (pv 0) (pe_lc (own := [("one", 6)]) (tt := tYes) rfl sc_Table_init.nd (pi_listK K (pv 3)) (blkOk_by (N := N_Table_init) (sc := (defScope s_Table_init)) (by decide +kernel)) (fun _ _ _ _ _ => (pg_name (i := 6) sc_Table_init.nd rfl (Or.inr rfl))) (fun _ _ _ _ _ => pts_nil) (fun _ _ _ _ _ => (pe_lc (own := [("other", 7)]) (tt := tYes) rfl sc_Table_init.nd (pi_listK K (pv 3)) (blkOk_by (N := N_Table_init) (sc := (relS _ (defScope s_Table_init))) (by decide +kernel)) (fun _ _ _ _ _ => (pg_name (i := 7) sc_Table_init.nd rfl (Or.inl rfl))) (fun _ _ _ _ _ => pts_nil) (fun _ _ _ _ _ => (pe_getNK K P w (T := kC) (hu_64 hr) (pv 4) (pe_c c_changes_behind hr (by decide) rfl (pa_cons (pv 6) (pa_cons (pv 7) pa_nil))) (fun _ _ => rfl)))))) rfl)
  (pss_one (ps_fldK K (pv 0) pe_dnewK rfl))))))))))), ?_⟩
  have hlH : SqL K H lv (ms.map V.ref) := Same.seq (wo_same _ _) hl
  have hMH : MsAt K CM H L ms Ms := hM.mono (wo_same _ _)
  have hml := hM.1
  refine ⟨_, rfl, lv, rfl, ⟨_, .inl hlH⟩, fun H1 s1 => ⟨true, rfl, ifF rfl ⟨_, rfl, lv, _, rfl, .inl (s1.seq hlH), _, _, rfl, rfl, _, rfl, ifT (decide_eq_true (by rw [List.length_map]; omega)) ⟨_, _, rfl, rfl, _, rfl, ifF (by rw [List.length_map]; simp; omega) ?_⟩⟩⟩⟩
  -- all of them machines
  refine ⟨_, rfl, lv, rfl, ⟨_, s1.seq hlH⟩, fun D hD => lc_d (K := K) walk_list (fun i => (ms.take i).map fun _ => PyData.bool true) hD rfl (fun H' sm => (Same.trans s1 sm).seq hlH) (fun i x Ha Hb hi p y => ?_) fun acc H2 h1 h2 h3 => ?_⟩
  · obtain ⟨rfl, hx⟩ := y
    obtain ⟨m, hm, rfl⟩ := get_ref hx
    obtain ⟨M, hMi⟩ := get_some (show i < Ms.length by rw [← hml]; exact lt_of_get hm)
    obtain ⟨dm, a, b, g1, _⟩ := (hMH.2 i m M hm hMi).mono (Same.trans s1 p.same)
    exact ⟨rfl, _, rfl, .ref m, .ref CM, .ref CM, .ref CM, true, rfl, .own CM, T.iM.ty g1, T.iM.me, p.put0 (line_lt (by have := lt_of_get hm; omega)) (.bl true) (take_map _ ms hm)⟩
  have e : acc = (ms.map fun _ => true).map V.bl := bls_of (by
    rw [List.length_map, List.take_length] at h3
    rw [List.map_map]
    exact h3)
  refine ⟨D, ms.map fun _ => true, rfl, SqL.of (by rw [h1, e]), ?_⟩
  rw [show (ms.map fun _ => true).all id = true by simp]
  refine ⟨true, rfl, ifF rfl ?_⟩
  have s2 : Same H H2 := Same.trans s1 (Same.trans h2 (wo_same _ _))
  clear h1 h2 h3 e hD s1
  -- self.own_machines = list(machines)
  refine ⟨_, rfl, lv, _, rfl, .inl (s2.seq hlH), fun lm hlm => ⟨_, rfl, t, CT, dx, [], rfl, same_new hlm _ _ (s2 _ _ ht), T.iT.cl, T.tM, by show 0 < 1000; decide, ?_⟩⟩
  rw [put1]
  have tlm : t ≠ lm := fun e => by rw [← e, s2 _ _ ht] at hlm; cases hlm
  have lmH : H lm = none := Same.free s2 hlm
  have lmN : ¬ lm ∈ N := fun z => hN lm z lmH
  have w3 : Same (Wo [t] H) (Wo [t] (upd (upd H2 lm (.lst (ms.map V.ref))) t (.ins CT dx [(("own_machines" : Str), .ref lm)]))) := by
    rw [wo_upd in1]
    exact Same.trans (wo_mono s2) (wo_new hlm)
  have ht3 : upd (upd H2 lm (.lst (ms.map V.ref))) t (.ins CT dx [(("own_machines" : Str), .ref lm)]) t = some (.ins CT dx [(("own_machines" : Str), .ref lm)]) := upd_same
  have hlm3 : upd (upd H2 lm (.lst (ms.map V.ref))) t (.ins CT dx [(("own_machines" : Str), .ref lm)]) lm = some (.lst (ms.map V.ref)) := by rw [upd_ne tlm.symm, upd_same]
  generalize upd (upd H2 lm (.lst (ms.map V.ref))) t (.ins CT dx [(("own_machines" : Str), .ref lm)]) = H3 at w3 ht3 hlm3 ⊢
  have more : ∀ {Hx : Hp}, Same (Wo [t] H) (Wo [t] Hx) → Same (Wo (t :: N) H) (Wo (t :: N) Hx) := fun s => wo_more s fun b hb => by rw [List.mem_singleton.mp hb]; exact List.mem_cons_self
  have mAt : ∀ {Hx : Hp}, Same (Wo [t] H) (Wo [t] Hx) → MsAt K CM Hx L ms Ms := fun s => hM.mono (Same.trans (more s) (wo_same _ _))
  have lAt : ∀ {Hx : Hp}, Same (Wo [t] H) (Wo [t] Hx) → SqL K Hx lv (ms.map V.ref) := fun s => Same.seq (Same.trans (more s) (wo_same _ _)) hl
  -- self.own_letters = machines[0].own_letters
  obtain ⟨m0, hm0⟩ := get_some (show 0 < ms.length by omega)
  obtain ⟨M0, hM0⟩ := get_some hMp
  obtain ⟨d0, a0, b0, g0, _⟩ := (mAt w3).2 0 m0 M0 hm0 hM0
  refine ⟨_, rfl, lv, _, _, _, rfl, rfl, lAt w3, atI_nat (j := 0) (by rw [List.getElem?_map, hm0]; rfl), m0, CM, d0, _, _, rfl, g0, T.iM.cl, T.mL, mfs_L _ _ _, _, rfl, t, CT, dx, _, rfl, ht3, T.iT.cl, T.tL, by show 1 < 1000; decide, ?_⟩
  rw [put2]
  have w4 : Same (Wo [t] H) (Wo [t] (upd H3 t (.ins CT dx [(("own_machines" : Str), .ref lm), (("own_letters" : Str), vN L)]))) := by rw [wo_upd in1]; exact w3
  have ht4 : upd H3 t (.ins CT dx [(("own_machines" : Str), .ref lm), (("own_letters" : Str), vN L)]) t = some (.ins CT dx [(("own_machines" : Str), .ref lm), (("own_letters" : Str), vN L)]) := upd_same
  have hlm4 : upd H3 t (.ins CT dx [(("own_machines" : Str), .ref lm), (("own_letters" : Str), vN L)]) lm = some (.lst (ms.map V.ref)) := by rw [upd_ne tlm.symm]; exact hlm3
  generalize upd H3 t (.ins CT dx [(("own_machines" : Str), .ref lm), (("own_letters" : Str), vN L)]) = H4 at w4 ht4 hlm4 ⊢
  have lkM : ([(("own_machines" : Str), .ref lm), (("own_letters" : Str), vN L)] : List (Str × V)).lookup ("own_machines" : Str) = some (.ref lm) := by rw [look_cons, if_pos rfl]
  have lkL : ([(("own_machines" : Str), .ref lm), (("own_letters" : Str), vN L)] : List (Str × V)).lookup ("own_letters" : Str) = some (vN L) := by rw [look_cons, if_neg nML, look_cons, if_pos rfl]
  -- all of the same letters
  refine ⟨_, rfl, lv, rfl, ⟨_, lAt w4⟩, fun D hD => lc_d (K := K) walk_list (fun i => (ms.take i).map fun _ => PyData.bool true) hD rfl (fun H' sm => sm.seq (lAt w4)) (fun i x Ha Hb hi p y => ?_) fun acc H5 h1 h2 h3 => ?_⟩
  · obtain ⟨rfl, hx⟩ := y
    obtain ⟨m, hm, rfl⟩ := get_ref hx
    obtain ⟨M, hMi⟩ := get_some (show i < Ms.length by rw [← hml]; exact lt_of_get hm)
    obtain ⟨dm, a, b, g1, _⟩ := ((mAt w4).2 i m M hm hMi).mono p.same
    refine ⟨rfl, _, rfl, m, CM, dm, _, _, rfl, g1, T.iM.cl, T.mL, mfs_L _ _ _, _, rfl, t, CT, dx, _, _, rfl, p.same _ _ ht4, T.iT.cl, T.tL, lkL, rfl, ?_⟩
    rw [decide_eq_true rfl]
    exact p.put0 (line_lt (by have := lt_of_get hm; omega)) (.bl true) (take_map _ ms hm)
  have e : acc = (ms.map fun _ => true).map V.bl := bls_of (by
    rw [List.length_map, List.take_length] at h3
    rw [List.map_map]
    exact h3)
  refine ⟨D, ms.map fun _ => true, rfl, SqL.of (by rw [h1, e]), ?_⟩
  rw [show (ms.map fun _ => true).all id = true by simp]
  refine ⟨true, rfl, ifF rfl ?_⟩
  have s45 : Same H4 H5 := Same.trans h2 (wo_same _ _)
  have w5 := Same.trans w4 (wo_mono (M := [t]) s45)
  have ht5 := s45 _ _ ht4
  have hlm5 := s45 _ _ hlm4
  clear h1 h2 h3 e hD
  -- words, changes, places = classes_found(..)
  refine ⟨_, rfl, t, CT, dx, _, _, rfl, ht5, T.iT.cl, T.tM, lkM, _, rfl, t, CT, dx, _, _, rfl, ht5, T.iT.cl, T.tL, lkL, lm, L, ms, Ms, C, rfl, SqL.of hlm5, mAt w5, by omega, hT, Z, hC, by omega, fun H6 p aw ac ap ws es s56 hp haw hac hap h6p h6w lw hcs h6a ka ek => ?_⟩
  obtain ⟨cs, h6c, dcs⟩ := hcs
  refine ⟨p, _, rfl, SqT.of h6p, rfl, _, _, rfl, _, _, rfl, _, _, rfl, rfl, ?_⟩
  have w6 := Same.trans w5 (wo_mono (M := [t]) s56)
  have ht6 := s56 _ _ ht5
  have hlm6 := s56 _ _ hlm5
  have taw : t ≠ aw := fun e => by rw [← e, ht5] at haw; cases haw
  have tac : t ≠ ac := fun e => by rw [← e, ht5] at hac; cases hac
  have tap : t ≠ ap := fun e => by rw [← e, ht5] at hap; cases hap
  have old : ∀ {Hx : Hp} {b : Addr}, Same (Wo [t] H) (Wo [t] Hx) → Hx b = none → t ≠ b → H b = none := fun {Hx b} s hb tb => by
    cases hh : H b with
    | none => rfl
    | some o => rw [wo_at s hh fun z => tb (List.mem_singleton.mp z).symm] at hb; cases hb
  have nN : ∀ {b : Addr}, H b = none → ¬ b ∈ N := fun hb z => hN _ z hb
  have awN := nN (old w5 haw taw)
  have acN := nN (old w5 hac tac)
  have d6 : DpAll K (Wo [t] H6) cs (C.map dTT) := dpAll_out ht6 (dpAll_mono (wo_same _ _) dcs)
  have ka6 : KeysAt kC K (Wo [t] H6) es := fun e he => dp_out ht6 (ka e he)
  -- self.own_words = words; self.own_changes = changes
  refine ⟨_, rfl, _, rfl, t, CT, dx, _, rfl, ht6, T.iT.cl, T.tW, by show 2 < 1000; decide, _, rfl, _, rfl, t, CT, dx, _, rfl, upd_same, T.iT.cl, T.tC, by rw [put3]; show 3 < 1000; decide, ?_⟩
  rw [put3, put4]
  have w7 : Same (Wo [t] H6) (Wo [t] (upd (upd H6 t (.ins CT dx [(("own_machines" : Str), .ref lm), (("own_letters" : Str), vN L), (("own_words" : Str), .ref aw)])) t (.ins CT dx [(("own_machines" : Str), .ref lm), (("own_letters" : Str), vN L), (("own_words" : Str), .ref aw), (("own_changes" : Str), .ref ac)]))) := by
    rw [wo_upd in1, wo_upd in1]; exact fun _ _ z => z
  have ht7 : upd (upd H6 t (.ins CT dx [(("own_machines" : Str), .ref lm), (("own_letters" : Str), vN L), (("own_words" : Str), .ref aw)])) t (.ins CT dx [(("own_machines" : Str), .ref lm), (("own_letters" : Str), vN L), (("own_words" : Str), .ref aw), (("own_changes" : Str), .ref ac)]) t = some (.ins CT dx [(("own_machines" : Str), .ref lm), (("own_letters" : Str), vN L), (("own_words" : Str), .ref aw), (("own_changes" : Str), .ref ac)]) := upd_same
  generalize upd (upd H6 t (.ins CT dx [(("own_machines" : Str), .ref lm), (("own_letters" : Str), vN L), (("own_words" : Str), .ref aw)])) t (.ins CT dx [(("own_machines" : Str), .ref lm), (("own_letters" : Str), vN L), (("own_words" : Str), .ref aw), (("own_changes" : Str), .ref ac)]) = H7 at w7 ht7 ⊢
  have at7 : ∀ {b : Addr} {o : HO}, H6 b = some o → t ≠ b → H7 b = some o := fun h tb => wo_at w7 h fun z => tb (List.mem_singleton.mp z).symm
  have h7c := at7 h6c tac
  have h7a := at7 h6a tap
  have h7w := at7 h6w taw
  have h7l := at7 hlm6 tlm
  have d7 : DpAll K H7 cs (C.map dTT) := dpAll_mono (Same.trans w7 (wo_same _ _)) d6
  have ka7 : KeysAt kC K H7 es := ka6.mono (Same.trans w7 (wo_same _ _))
  have w07 := Same.trans w6 w7
  have lcs : cs.length = C.length := by rw [d7.length, List.length_map]
  have chOf : ∀ {Hx : Hp} {i : Nat} {x : V}, Same H7 Hx → cs[i]? = some x → ∃ c ∈ C, Dp K Hx x (dTT c) := fun {Hx i x} s hx => by
    obtain ⟨d, hd, dx⟩ := (dpAll_mono s d7).get' hx
    rw [List.getElem?_map] at hd
    obtain ⟨c, hc, rfl⟩ := Option.map_eq_some_iff.mp hd
    exact ⟨c, List.mem_of_getElem? hc, dx⟩
  -- self.own_products = ..
  refine ⟨_, rfl, ac, rfl, ⟨_, SqL.of h7c⟩, fun D hD => lc_q (walk_list (K := K) (a := ac) (xs := cs)) hD (fun H' sm => SqL.of (sm _ _ h7c)) (fun i x Ha Hb hi p y => ?_) fun acc H8 h8 s8 => ?_⟩
  · obtain ⟨rfl, hx⟩ := y
    obtain ⟨c, hcC, dcx⟩ := chOf p.same hx
    obtain ⟨u0, hu0⟩ := Option.ne_none_iff_exists'.mp p.some
    refine ⟨rfl, _, rfl, ac, rfl, ⟨_, SqL.of (p.same _ _ h7c)⟩, fun D2 hD2 => lc_q (walk_list (K := K) (a := ac) (xs := cs)) hD2 (fun H' sm => SqL.of (sm _ _ (p.same _ _ h7c))) (fun j y Hc Hd hj p2 z => ?_) fun acc2 Hc h9 s9 => ?_⟩
    · obtain ⟨rfl, hy⟩ := z
      have s7d := Same.trans p.same p2.same
      obtain ⟨d, hdC, ddy⟩ := chOf s7d hy
      refine ⟨rfl, _, rfl, _, rfl, _, rfl, x, y, c, d, Ms, rfl, dp_mono p2.same dcx, ddy, Z.ch hcC, Z.ch hdC, by omega, hT, fun He pe se hpe dpe => ?_⟩
      have s7e := Same.trans s7d se
      obtain ⟨vv, hvv⟩ := look_some (es := es) (k := behind c d) (by rw [ek]; exact Z.behind c hcC d hdC)
      obtain ⟨u2, hu2⟩ := Option.ne_none_iff_exists'.mp p2.some
      exact ⟨ap, es, pe, behind c d, vv, rfl, rfl, s7e _ _ h7a, ka7.mono s7e, by rw [kC_dk]; exact dpe, hvv, p2.put (line_lt (by omega)) ((se _ _ hu2).trans hu2.symm) (wo_mono se)⟩
    · have sbc := Same.trans s9 (wo_same [D2] Hc)
      exact p.put (line_lt (by omega)) ((sbc _ _ hu0).trans hu0.symm) (wo_mono sbc)
  have s78 : Same H7 H8 := Same.trans s8 (wo_same _ _)
  refine ⟨_, rfl, t, CT, dx, _, rfl, s78 _ _ ht7, T.iT.cl, T.tP, by show 4 < 1000; decide, ?_⟩
  rw [put5]
  -- self.own_kept = {}
  intro kd hkd
  have htk : t ≠ kd := fun e => by rw [← e, upd_same] at hkd; cases hkd
  refine ⟨_, rfl, t, CT, dx, _, rfl, same_new hkd _ _ upd_same, T.iT.cl, T.tK, by show 5 < 1000; decide, ?_⟩
  rw [put6]
  have hkd8 : H8 kd = none := by rw [upd_ne htk.symm] at hkd; exact hkd
  generalize hH9 : upd (upd (upd H8 t (.ins CT dx [(("own_machines" : Str), .ref lm), (("own_letters" : Str), vN L), (("own_words" : Str), .ref aw), (("own_changes" : Str), .ref ac), (("own_products" : Str), .ref D)])) kd (.dK [])) t (.ins CT dx (tfs (.ref lm) L (.ref aw) (.ref ac) (.ref D) (.ref kd))) = H9
  have w89 : Same (Wo [t] H8) (Wo [t] H9) := by
    rw [← hH9, wo_upd in1]
    intro b o e
    obtain ⟨e1, e2⟩ := wo_some e
    have hbk : b ≠ kd := fun z => by rw [z, hkd8] at e1; cases e1
    rw [wo_out e2, upd_ne hbk, upd_ne fun z => e2 (by rw [z]; exact in1)]
    exact e1
  have w09 := Same.trans w07 (Same.trans (wo_mono (M := [t]) s78) w89)
  have h9t : H9 t = some (.ins CT dx (tfs (.ref lm) L (.ref aw) (.ref ac) (.ref D) (.ref kd))) := by rw [← hH9, upd_same]
  have h9k : H9 kd = some (.dK []) := by rw [← hH9, upd_ne htk.symm, upd_same]
  have hkH : H kd = none := old (Same.trans w07 (wo_mono (M := [t]) s78)) hkd8 htk
  have kN := nN hkH
  have at9 : ∀ {b : Addr} {o : HO}, H7 b = some o → t ≠ b → ¬ b ∈ N → Wo [kd] (Wo N H9) b = some o := fun {b o} h tb bN => by
    have h8b := s78 _ _ h
    rw [wo_out (fun z => by rw [List.mem_singleton.mp z, hkd8] at h8b; exact nomatch h8b), wo_out bN]
    exact wo_at w89 h8b fun z => tb (List.mem_singleton.mp z).symm
  have nt9 : NoTup N H9 := nt.same hN fun b hb o h => wo_at w09 h fun z => htN (by rw [← List.mem_singleton.mp z]; exact hb)
  have nk9 : NoTup [kd] (Wo N H9) := fun b hb xs => by
    rw [List.mem_singleton.mp hb]
    exact noTup_of (o := .dK []) (by rw [wo_out kN]; exact h9k) (fun _ z => nomatch z) (fun _ _ z => nomatch z) xs
  have d9 : DpAll K H9 cs (C.map dTT) := dpAll_mono (Same.trans w89 (wo_same _ _)) (dpAll_out (s78 _ _ ht7) (dpAll_mono s78 d7))
  refine k H9 kd w09 hkH ⟨dx, lm, aw, .ref ac, .ref D, ws, [], ?_, SqL.of (at9 h7l tlm lmN), ?_, SqL.of (at9 h7w taw awN), lw, .lst (SqL.of (at9 h7c tac acN)) (dpAllTT_outM nk9 (dpAllTT_outM nt9 d9)), by rw [wo_out kN]; exact h9k, .inl rfl, Z, hC, hL, hL2, hMl, hMp, hT⟩
  · rw [wo_out fun z => htk (List.mem_singleton.mp z), wo_out htN]
    exact h9t
  · refine hM.mono fun b o e => ?_
    obtain ⟨e1, e2⟩ := wo_some e
    have bt : b ≠ t := fun z => e2 (by rw [z]; exact List.mem_cons_self)
    have bN : ¬ b ∈ N := fun z => e2 (List.mem_cons_of_mem _ z)
    have bk : b ≠ kd := fun z => by rw [z, hkH] at e1; cases e1
    rw [wo_out fun z => bk (List.mem_singleton.mp z), wo_out bN]
    exact wo_at w09 e1 fun z => bt (List.mem_singleton.mp z)
end
end M22

set_option maxRecDepth 100000
set_option maxHeartbeats 4000000
namespace M22
open PySem PySem.Spec PyProof.Rows L2
section
variable {P : Program} {w : World} {K : PySem.W.Frag} {mg : Str → Option Value} {base : Heap} {CM CT : Addr}
def spWantTable (CT : Addr) : Sp := fun vs H Q _ => ∃ (m dx : Addr) (fs : List (Str × V)), vs = [.ref m] ∧ H m = some (.ins CT dx fs) ∧ Q (.ref m) H
abbrev s_want_table : Stmt := top 52
abbrev N_want_table : List Str := ["value"]
theorem sc_want_table : FnScope N_want_table ["value"] (defScope s_want_table) := ⟨rfl, rfl, rfl, by decide +kernel, rfl, by decide +kernel, by decide +kernel⟩
theorem ok_want_table (T : Tx K mg CM CT) (D : DefAt K mg "want_table" s_want_table)  : Cal P w K mg base 1 "want_table" ["value"] (spWantTable CT) := by
  refine cal_of D sc_want_table (fun _ _ _ _ _ _ us hl => match us, hl with | [_], _ => rfl) (fun vs H Q E h => ?_) (fun f cdv A outer s H vs Q E hr h => ?_)
  · obtain ⟨_, _, _, rfl, _⟩ := h
    rfl
  have hu := hu_of hr
  obtain ⟨m, dx, fs, rfl, hm, k⟩ := h
  refine ⟨_, (pss_cons (ps_if (pt_not (pt_val (pe_callB (call_isiK K) (by rfl) T.isinstance (by decide +kernel) (pa_cons (pv 0) (pa_cons (pe_gC (by rfl) T.Table) pa_nil))))) (pss_one ps_never) pss_nil)
  (pss_one (ps_ret (pv 0)))), ?_⟩
  exact ⟨_, rfl, .ref m, .ref CT, .ref CT, .ref CT, true, rfl, .own CT, T.iT.ty hm, T.iT.me, true, rfl, ifF rfl ⟨_, rfl, k⟩⟩
def spWantPos (K : PySem.W.Frag) (CM CT : Addr) : Sp := fun vs H Q _ => ∃ (t kd : Addr) (i L : Nat) (ms : List Addr) (Ms : List Mach) (C : List Change), vs = [.ref t, vN i] ∧ TAt K CM CT H t kd L ms Ms C ∧ i < Ms.length ∧ Q .non H
abbrev s_want_position : Stmt := top 53
abbrev N_want_position : List Str := ["table", "value"]
theorem sc_want_position : FnScope N_want_position ["table", "value"] (defScope s_want_position) := ⟨rfl, rfl, rfl, by decide +kernel, rfl, by decide +kernel, by decide +kernel⟩
theorem ok_want_position (T : Tx K mg CM CT) (D : DefAt K mg "want_position" s_want_position) (c_is_count : Cal P w K mg base 2 "is_count" ["value"] spIsCount) : Cal P w K mg base 3 "want_position" ["table", "value"] (spWantPos K CM CT) := by
  refine cal_of D sc_want_position (fun _ _ _ _ _ _ us hl => match us, hl with | [_, _], _ => rfl) (fun vs H Q E h => ?_) (fun f cdv A outer s H vs Q E hr h => ?_)
  · obtain ⟨_, _, _, _, _, _, _, rfl, _⟩ := h
    rfl
  have hu := hu_of hr
  obtain ⟨t, kd, i, L, ms, Ms, C, rfl, hT, hi, k⟩ := h
  refine ⟨_, (pss_one (ps_if (PW.pt (pw_or (pt_not (pt_val (pe_c c_is_count hr (by decide) rfl (pa_cons (pv 1) pa_nil)))) (pw_or1 (pt_cmpR op_ge (pv 1) (pe_callB (call_lenK K) (by rfl) T.len PySem.boot_len (pa_cons (pe_fldK K (pv 0) rfl) pa_nil)) (nomark _))))) (pss_one ps_never) pss_nil)), ?_⟩
  obtain ⟨dx, lm, wa, wc', p, ws, kvs, h1, h2, h3, h4, h5, h6, h7, h8, Z, h9⟩ := hT
  have hml := h3.1
  refine ⟨_, rfl, (i : Int), rfl, decide ((0 : Int) ≤ i), rfl, ?_⟩
  refine ifF (by simp) ⟨_, rfl, _, rfl, t, CT, dx, _, _, rfl, wo_same _ _ _ _ h1, T.iT.cl, T.tM, tfs_M _ _ _ _ _ _, lm, _, rfl, .inl (Same.seq (wo_same _ _) h2), _, _, rfl, rfl, _, rfl, ifF ?_ k⟩
  rw [List.length_map]
  simp
  omega
def spIsClass (K : PySem.W.Frag) (CM CT : Addr) : Sp := fun vs H Q _ => ∃ (t kd : Addr) (i L : Nat) (ms : List Addr) (Ms : List Mach) (C : List Change), vs = [.ref t, vN i] ∧ TAt K CM CT H t kd L ms Ms C ∧ Q (.bl (decide (i < C.length))) H
abbrev s_is_class : Stmt := top 54
abbrev N_is_class : List Str := ["table", "value"]
theorem sc_is_class : FnScope N_is_class ["table", "value"] (defScope s_is_class) := ⟨rfl, rfl, rfl, by decide +kernel, rfl, by decide +kernel, by decide +kernel⟩
theorem ok_is_class (T : Tx K mg CM CT) (D : DefAt K mg "is_class" s_is_class) (c_is_count : Cal P w K mg base 2 "is_count" ["value"] spIsCount) : Cal P w K mg base 3 "is_class" ["table", "value"] (spIsClass K CM CT) := by
  refine cal_of D sc_is_class (fun _ _ _ _ _ _ us hl => match us, hl with | [_, _], _ => rfl) (fun vs H Q E h => ?_) (fun f cdv A outer s H vs Q E hr h => ?_)
  · obtain ⟨_, _, _, _, _, _, _, rfl, _⟩ := h
    rfl
  have hu := hu_of hr
  obtain ⟨t, kd, i, L, ms, Ms, C, rfl, hT, k⟩ := h
  refine ⟨_, (pss_one (ps_ret (pe_and (pe_c c_is_count hr (by decide) rfl (pa_cons (pv 1) pa_nil)) (pe_one (pe_cmpR op_lt (pv 1) (pe_callB (call_lenK K) (by rfl) T.len PySem.boot_len (pa_cons (pe_fldK K (pv 0) rfl) pa_nil)) (nomark _)))))), ?_⟩
  obtain ⟨dx, lm, wa, wc', p, ws, kvs, h1, h2, h3, h4, h5, h6, h7, h8, Z, h9⟩ := hT
  refine ⟨_, rfl, (i : Int), rfl, decide ((0 : Int) ≤ i), rfl, ifT (by simp) ⟨_, rfl, _, rfl, t, CT, dx, _, _, rfl, wo_same _ _ _ _ h1, T.iT.cl, T.tW, tfs_W _ _ _ _ _ _, wa, _, rfl, .inl (Same.seq (wo_same _ _) h4), _, _, rfl, rfl, ?_⟩⟩
  rw [h5]
  have e : decide ((i : Int) < (C.length : Int)) = decide (i < C.length) := decide_eq_decide.mpr (by omega)
  show Q (.bl (decide ((i : Int) < (C.length : Int)))) H
  rw [e]
  exact k
def spCbl (K : PySem.W.Frag) (CM CT : Addr) : Sp := fun vs H Q _ => ∃ (t kd : Addr) (i l L : Nat) (ms : List Addr) (Ms : List Mach) (C : List Change) (c : Change), vs = [.ref t, vN i, vN l] ∧ TAt K CM CT H t kd L ms Ms C ∧ C[i]? = some c ∧ l < L ∧
  ∀ H', Same H H' → Q (vN (C.idxOf (changed Ms c l))) H'
abbrev s_class_behind_letter : Stmt := top 55
abbrev N_class_behind_letter : List Str := ["table", "one", "letter", "late"]
theorem sc_class_behind_letter : FnScope N_class_behind_letter ["table", "one", "letter"] (defScope s_class_behind_letter) := ⟨rfl, rfl, rfl, by decide +kernel, rfl, by decide +kernel, by decide +kernel⟩
theorem ok_class_behind_letter (T : Tx K mg CM CT) (D : DefAt K mg "class_behind_letter" s_class_behind_letter) (c_change_by_letter : Cal P w K mg base 1 "change_by_letter" ["machines", "change", "letter"] (spChg K CM)) : Cal P w K mg base 2 "class_behind_letter" ["table", "one", "letter"] (spCbl K CM CT) := by
  refine cal_of D sc_class_behind_letter (fun _ _ _ _ _ _ us hl => match us, hl with | [_, _, _], _ => rfl) (fun vs H Q E h => ?_) (fun f cdv A outer s H vs Q E hr h => ?_)
  · obtain ⟨_, _, _, _, _, _, _, _, _, rfl, _⟩ := h
    rfl
  have hu := hu_of hr
  obtain ⟨t, kd, i, l, L, ms, Ms, C, c, rfl, hT, hc, hlL, k⟩ := h
  refine ⟨_, (pss_cons (ps_set (i := 3) sc_class_behind_letter.nd rfl (Or.inl rfl) (pe_c c_change_by_letter hr (by decide) rfl (pa_cons (pe_fldK K (pv 0) rfl) (pa_cons (pe_ix (ix_listK K) (pe_fldK K (pv 0) rfl) (pv 1) (fun _ _ => rfl)) (pa_cons (pv 2) pa_nil)))))
  (pss_one (ps_ret (pe_bmK K PySem.F.plainAttrs_list PySem.F.slot_list_index PySem.F.type_list_index (mt_indexDK K (hu_65 hr)) (pe_fldK K (pv 0) rfl) (pa_cons (pv 3) pa_nil))))), ?_⟩
  obtain ⟨dx, lm, wa, wc', p, ws, kvs, h1, h2, h3, h4, h5, h6, h7, h8, Z, hC, hL0, hL2, hM2, hM0, hm60⟩ := hT
  have ht := wo_same _ _ _ _ h1
  obtain ⟨ac, cs, rfl, qc, lc, dcs⟩ := dp_len_l (dp_mono (wo_same _ _) h6)
  obtain ⟨u, hu, du⟩ := dcs.get (i := i) (d := dTT c) (by rw [List.getElem?_map, hc]; rfl)
  have hcC := List.mem_of_getElem? hc
  have hin : changed Ms c l ∈ C := Z.bfs.closed (Nat.le_refl _) hcC (List.mem_map.mpr ⟨l, List.mem_range.mpr hlL, rfl⟩)
  refine ⟨_, rfl, t, CT, dx, _, _, rfl, ht, T.iT.cl, T.tM, tfs_M _ _ _ _ _ _, _, rfl, t, CT, dx, _, _, rfl, ht, T.iT.cl, T.tC, tfs_C _ _ _ _ _ _, _, rfl, ac, cs, _, _, rfl, rfl, qc, atI_nat hu, _, rfl, lm, u, l, L, ms, Ms, c, rfl, Same.seq (wo_same _ _) h2, h3.mono (wo_same _ _), by omega, hm60, du, Z.ch hcC, hlL, fun H1 pl s1 hpl dl => ?_⟩
  refine ⟨_, rfl, t, CT, dx, _, _, rfl, s1 _ _ ht, T.iT.cl, T.tC, tfs_C _ _ _ _ _ _, .inl ⟨rfl, _, s1.seq qc⟩, _, rfl, ac, .ref pl, dTT (changed Ms c l), C.map dTT, C.idxOf (changed Ms c l), dTT (changed Ms c l), rfl, rfl, dp_mono (Same.trans (wo_same _ _) s1) h6, dl, (flat_C C).shaped (by decide), (flat_dTT _).shaped (by decide), ?_, (eq_dTT _ _).mpr rfl, fun m z hm hz => first_at Z.bfs.nodup m z hm hz, k H1 s1⟩
  rw [List.getElem?_map, get_idxOfA hin]
  rfl
def spRow (K : PySem.W.Frag) (CM CT : Addr) : Sp := fun vs H Q _ => ∃ (t kd : Addr) (N : List Addr) (L : Nat) (ms : List Addr) (Ms : List Mach) (C : List Change), vs = [.ref t] ∧ (∀ b ∈ N, H b ≠ none) ∧ TAt K CM CT (Wo N H) t kd L ms Ms C ∧
  ∀ H' r, Same (Wo [kd] H) (Wo [kd] H') → TAt K CM CT (Wo N H') t kd L ms Ms C → Dp K (Wo [kd] (Wo N H')) r (dLL (rowsC L Ms C)) → Q r H'
abbrev s_class_row : Stmt := top 56
abbrev N_class_row : List Str := ["table", "letters", "rows", "one", "letter"]
theorem sc_class_row : FnScope N_class_row ["table"] (defScope s_class_row) := ⟨rfl, rfl, rfl, by decide +kernel, rfl, by decide +kernel, by decide +kernel⟩
theorem ok_class_row (T : Tx K mg CM CT) (D : DefAt K mg "class_row" s_class_row) (c_class_behind_letter : Cal P w K mg base 2 "class_behind_letter" ["table", "one", "letter"] (spCbl K CM CT)) : Cal P w K mg base 3 "class_row" ["table"] (spRow K CM CT) := by
  refine cal_of D sc_class_row (fun _ _ _ _ _ _ us hl => match us, hl with | [_], _ => rfl) (fun vs H Q E h => ?_) (fun f cdv A outer s H vs Q E hr h => ?_)
  · obtain ⟨_, _, _, _, _, _, _, rfl, _⟩ := h
    rfl
  have hu := hu_of hr
  obtain ⟨t, kd, N, L, ms, Ms, C, rfl, hN, hT, k⟩ := h
  refine ⟨_, (pss_cons (ps_if (pt_cmp (pc_dnotin hu pe_str (pe_fldK K (pv 0) rfl))) (pss_cons (ps_set (i := 1) sc_class_row.nd rfl (Or.inl rfl) (pe_listRg rfl (by rfl) T.list (prg_1 (by rfl) T.range (pe_fldK K (pv 0) rfl))))
    (pss_cons (ps_set (i := 2) sc_class_row.nd rfl (Or.inl rfl) (pe_lst pa_nil))
    (pss_cons (ps_for PassesOwn.never rfl (pi_range1 rfl T.range (pa_cons (pe_callB (call_lenK K) (by rfl) T.len PySem.boot_len (pa_cons (pe_fldK K (pv 0) rfl) pa_nil)) pa_nil)) (pg_name (i := 3) sc_class_row.nd rfl (Or.inr rfl)) (pss_one (ps_expr (pe_bmK K PySem.F.plainAttrs_list PySem.F.slot_list_append PySem.F.type_list_append mt_append (pv 2) (pa_cons (pe_lc (own := [("letter", 4)]) (tt := tYes) rfl sc_class_row.nd (pi_listK K (pv 1)) (blkOk_by (N := N_class_row) (sc := (defScope s_class_row)) (by decide +kernel)) (fun _ _ _ _ _ => (pg_name (i := 4) sc_class_row.nd rfl (Or.inl rfl))) (fun _ _ _ _ _ => pts_nil) (fun _ _ _ _ _ => (pe_c c_class_behind_letter hr (by decide) rfl (pa_cons (pv 0) (pa_cons (pv 3) (pa_cons (pv 4) pa_nil)))))) pa_nil)))))
    (pss_one (ps_dput hu (pe_fldK K (pv 0) rfl) pe_str (pv 2) rfl))))) pss_nil)
  (pss_one (ps_ret (pe_dget hu (pe_fldK K (pv 0) rfl) pe_str (fun _ _ => rfl))))), ?_⟩
  obtain ⟨dx, lm, wa, wc', p, ws, kvs, h1, h2, h3, h4, h5, h6, h7, h8, Z, hC, hL0, hL2, hM2, hM0, hm60⟩ := id hT
  have ht : H t = some (.ins CT dx (tfs (.ref lm) L (.ref wa) wc' p (.ref kd))) := wo2_same _ _ h1
  have hk : H kd = some (.dK kvs) := wo_same _ _ _ _ h7
  obtain ⟨_, kN⟩ := wo_some h7
  have tAt : ∀ {Hx : Hp}, Same H Hx → TAt K CM CT Hx t kd L ms Ms C := fun s => hT.mono (Same.trans (wo_same _ _) s)
  refine ⟨_, rfl, t, CT, dx, _, _, rfl, ht, T.iT.cl, T.tK, tfs_K _ _ _ _ _ _, kd, _, rfl, DGet.k (k := (Sum.inr "rows" : Key)) hk, _, rfl, ?_⟩
  rcases h8 with rfl | ⟨r, rfl, dr⟩
  · refine ifT rfl ?_
    -- letters = list(range(table.own_letters)); rows = []
    refine ⟨_, rfl, t, CT, dx, _, _, rfl, ht, T.iT.cl, T.tL, tfs_L _ _ _ _ _ _, _, rfl, rgOk_nat (by omega), fun pl hpl => ⟨by show 0 ≤ sizeLine; decide, fun rr hrr => ?_⟩⟩
    rw [rgV_nat] at hrr ⊢
    have sb : Same H (upd H pl (.lst ((List.range L).map vN))) := same_new hpl
    have hpl2 : upd H pl (.lst ((List.range L).map vN)) pl = some (.lst ((List.range L).map vN)) := upd_same
    generalize upd H pl (.lst ((List.range L).map vN)) = Hb at hrr sb hpl2 ⊢
    have rrH : H rr = none := Same.free sb hrr
    have rrN : ¬ rr ∈ N := fun z => hN rr z rrH
    have rrk : rr ≠ kd := fun e => by rw [e, hk] at rrH; cases rrH
    have sr : Same Hb (upd Hb rr (.lst [])) := same_new hrr
    refine ⟨_, rfl, t, CT, dx, _, _, rfl, sr _ _ (sb _ _ ht), T.iT.cl, T.tW, tfs_W _ _ _ _ _ _, wa, ws, rfl, .inl ((Same.trans wo2_same (Same.trans sb sr)).seq h4), _, rfl, by rw [h5]; omega, by rw [h5]; omega,
      for_it (walk_range (lo := 0) (n := (ws.length : Int).toNat)) (fun i σ H1 => ∃ x3 acc, σ = [some (.ref t), some (.ref pl), some (.ref rr), x3, none] ∧ Same Hb (Wo [rr] H1) ∧ H1 rr = some (.lst acc) ∧ acc.length = i ∧ DpAll K (Wo [rr] (Wo N H1)) acc (((rowsC L Ms C).take i).map dL))
      ⟨none, [], rfl, ?_, upd_same, rfl, .nil⟩ (fun _ _ _ _ _ => True.intro) ?_ ?_⟩
    · rw [wo_upd in1]
      intro b o e
      rw [wo_out fun z => by rw [List.mem_singleton.mp z, hrr] at e; cases e]
      exact e
    · rintro i x σ H1 H1' hi ⟨x3, acc, rfl, s1, h1r, hal, dacc⟩ ⟨rfl, ex⟩
      have ex : x = vN i := by
        rw [ex]
        show V.int (0 + (i : Int)) = V.int i
        rw [Int.zero_add]
      subst ex
      obtain ⟨c, hc⟩ := get_some (show i < C.length by omega)
      have sb1 : Same Hb H1' := Same.trans s1 (wo_same _ _)
      have s01 := Same.trans sb sb1
      refine ⟨_, rfl, .inl ⟨rfl, _, SqL.of h1r⟩, _, rfl, pl, rfl, ⟨_, SqL.of (sb1 _ _ hpl2)⟩, fun D hD => lc_d (K := K) walk_list (fun j => ((List.range L).take j).map fun l => dN (C.idxOf (changed Ms c l))) hD rfl (fun H' sm => SqL.of (sm _ _ (sb1 _ _ hpl2))) (fun j x Ha Hb' hj p2 y => ?_) fun acc2 H6 h6a h6b h6c => ?_⟩
      · obtain ⟨rfl, hx⟩ := y
        obtain ⟨l, hl, rfl⟩ := get_vN hx
        have hlL := List.mem_range.mp (List.mem_of_getElem? hl)
        obtain ⟨u, hu⟩ := Option.ne_none_iff_exists'.mp p2.some
        exact ⟨rfl, _, rfl, _, rfl, _, rfl, t, kd, i, l, L, ms, Ms, C, c, rfl, tAt (Same.trans s01 p2.same), hc, hlL, fun He se => p2.put (line_lt (by have := lt_of_get hl; rw [List.length_range] at this; omega)) ((se _ _ hu).trans hu.symm) (wo_mono se) (.int _) (take_map _ (List.range L) hl)⟩
      · have eacc : acc2 = ((List.range L).map fun l => C.idxOf (changed Ms c l)).map vN := nums_of (by
          rw [List.length_map, List.take_length] at h6c
          rw [List.map_map]
          exact h6c)
        subst eacc
        have s16 : Same H1' H6 := Same.trans h6b (wo_same _ _)
        have DH : H D = none := Same.free s01 hD
        have DN : ¬ D ∈ N := fun z => hN D z DH
        have Dr : D ≠ rr := fun e => by rw [e, h1r] at hD; cases hD
        have h6r := s16 _ _ h1r
        refine ⟨rr, acc, .ref D, rfl, rfl, h6r, line_lt (by omega), _, acc ++ [.ref D], rfl, ?_, upd_same, by rw [List.length_append, hal]; rfl, ?_⟩
        · rw [wo_upd in1]
          exact Same.trans s1 (wo_mono s16)
        · rw [wo2_upd, take_map dL (rowsC L Ms C) (i := i) (x := (List.range L).map fun l => C.idxOf (changed Ms c l)) (by unfold rowsC; rw [List.getElem?_map, hc]; rfl)]
          refine (dpAll_mono (wo2_mono s16) dacc).snoc (dp_l (SqL.of ?_))
          rw [wo_out (fun z => Dr (List.mem_singleton.mp z)), wo_out DN]
          exact h6a
    · rintro σ H8 ⟨x3, acc, rfl, s8, h8r, hal, dacc⟩
      have s08 := Same.trans sb (Same.trans s8 (wo_same _ _))
      have h8t := s08 _ _ ht
      have h8k := s08 _ _ hk
      refine ⟨_, rfl, _, rfl, t, CT, dx, _, _, rfl, h8t, T.iT.cl, T.tK, tfs_K _ _ _ _ _ _, kd, _, rfl, DPut.k (k := (Sum.inr "rows" : Key)) h8k (by decide), ?_⟩
      have eput : putK ([] : List (Key × V)) (Sum.inr "rows") (.ref rr) = [((Sum.inr "rows" : Key), V.ref rr)] := rfl
      rw [eput]
      have tk : t ≠ kd := fun e => by rw [e, hk] at ht; cases ht
      have dg : DGet (upd H8 kd (.dK [((Sum.inr "rows" : Key), V.ref rr)])) kd (kV (Sum.inr "rows")) (some (.ref rr)) := by
        have := DGet.k (k := (Sum.inr "rows" : Key)) (show upd H8 kd (.dK [((Sum.inr "rows" : Key), V.ref rr)]) kd = some (.dK [((Sum.inr "rows" : Key), V.ref rr)]) from upd_same)
        rw [valV_pos rfl] at this
        exact this
      refine ⟨_, rfl, t, CT, dx, _, _, rfl, (upd_ne tk).trans h8t, T.iT.cl, T.tK, tfs_K _ _ _ _ _ _, kd, .ref rr, rfl, dg, ?_⟩
      have S : Same (Wo [kd] (Wo N H)) (Wo [kd] (Wo N (upd H8 kd (.dK [((Sum.inr "rows" : Key), V.ref rr)])))) := by rw [wo2_upd]; exact wo2_mono s08
      have dR : Dp K (Wo [kd] (Wo N (upd H8 kd (.dK [((Sum.inr "rows" : Key), V.ref rr)])))) (.ref rr) (dLL (rowsC L Ms C)) := by
        rw [wo2_upd]
        refine .lst (xs := acc) (SqL.of ?_) ?_
        · rw [wo_out (fun z => rrk (List.mem_singleton.mp z)), wo_out rrN]
          exact h8r
        · have e : (rowsC L Ms C).take (ws.length : Int).toNat = rowsC L Ms C := List.take_of_length_le (by rw [rowsC_length]; omega)
          rw [e] at dacc
          exact dpAll_outX (.dK (by rw [wo_out kN]; exact h8k)) (dpAll_mono (wo_same _ _) dacc)
      refine k _ _ (by rw [wo_upd in1]; exact wo_mono s08) ⟨dx, lm, wa, wc', p, ws, _, S _ _ h1, S.seq h2, h3.mono S, S.seq h4, h5, dp_mono S h6, by rw [wo_out kN]; exact upd_same, .inr ⟨_, rfl, dR⟩, Z, hC, hL0, hL2, hM2, hM0, hm60⟩ dR
  · refine ifF (by rw [valV_pos rfl]; rfl) ?_
    have dg : DGet H kd (kV (Sum.inr "rows")) (some r) := by
      have := DGet.k (k := (Sum.inr "rows" : Key)) hk
      rw [valV_pos rfl] at this
      exact this
    exact ⟨_, rfl, t, CT, dx, _, _, rfl, ht, T.iT.cl, T.tK, tfs_K _ _ _ _ _ _, kd, r, rfl, dg, k H r (Same.refl _) hT dr⟩
def spPassed (K : PySem.W.Frag) (CM CT : Addr) : Sp := fun vs H Q _ => ∃ (t kd : Addr) (i L : Nat) (ms : List Addr) (Ms : List Mach) (C : List Change) (M : Mach), vs = [.ref t, vN i] ∧ TAt K CM CT H t kd L ms Ms C ∧ Ms[i]? = some M ∧
  ∀ (H' : Hp) (q : Addr), Same H H' → H q = none → H' q = some (.lst ((passedL C i M.2).map vN)) → Q (.ref q) H'
abbrev s_passed_classes : Stmt := top 57
abbrev N_passed_classes : List Str := ["table", "position", "ends", "one", "change"]
theorem sc_passed_classes : FnScope N_passed_classes ["table", "position"] (defScope s_passed_classes) := ⟨rfl, rfl, rfl, by decide +kernel, rfl, by decide +kernel, by decide +kernel⟩
theorem ok_passed_classes (T : Tx K mg CM CT) (D : DefAt K mg "passed_classes" s_passed_classes)  : Cal P w K mg base 1 "passed_classes" ["table", "position"] (spPassed K CM CT) := by
  refine cal_of D sc_passed_classes (fun _ _ _ _ _ _ us hl => match us, hl with | [_, _], _ => rfl) (fun vs H Q E h => ?_) (fun f cdv A outer s H vs Q E hr h => ?_)
  · obtain ⟨_, _, _, _, _, _, _, _, rfl, _⟩ := h
    rfl
  have hu := hu_of hr
  obtain ⟨t, kd, i, L, ms, Ms, C, M, rfl, hT, hMi, k⟩ := h
  refine ⟨_, (pss_cons (ps_set (i := 2) sc_passed_classes.nd rfl (Or.inr rfl) (pe_fldK K (pe_ix (ix_listK K) (pe_fldK K (pv 0) rfl) (pv 1) (fun _ _ => rfl)) rfl))
  (pss_one (ps_ret (pe_lc (own := [("one", 3), ("change", 4)]) rfl sc_passed_classes.nd (pi_enumK K (by rfl) T.enumerate (pa_cons (pe_fldK K (pv 0) rfl) pa_nil)) (blkOk_by (N := N_passed_classes) (sc := (defScope s_passed_classes)) (by decide +kernel)) (fun _ _ _ _ _ => (pg_tupK K (n := 2) rfl (pgs_cons (pg_name (i := 3) sc_passed_classes.nd rfl (Or.inl rfl)) (pgs_cons (pg_name (i := 4) sc_passed_classes.nd rfl (Or.inl rfl)) pgs_nil)))) (fun _ _ _ _ _ => (pts_one (pt_cmpR (op_inK K) (pe_ix (ix_tupK K) (pe_ix (ix_tupK K) (pv 4) (pv 1) (fun _ _ => rfl)) pe_int (fun _ _ => rfl)) (pv 2) (by rfl)))) (fun _ _ _ _ _ => (pv 3)))))), ?_⟩
  obtain ⟨dx, lm, wa, wc', p, ws, kvs, h1, h2, h3, h4, h5, h6, h7, h8, Z, hC, hL0, hL2, hM2, hM0, hm60⟩ := id hT
  have ht := wo_same _ _ _ _ h1
  have hml := h3.1
  obtain ⟨m, hm⟩ := get_some (show i < ms.length by rw [hml]; exact lt_of_get hMi)
  obtain ⟨dm, a, b, g1, da, db, lst⟩ := (h3.2 i m M hm hMi).mono (wo_same _ _)
  obtain ⟨ac, cs, rfl, qc, lc, dcs⟩ := dp_len_l (dp_mono (wo_same _ _) h6)
  obtain ⟨te, rfl, qe⟩ := t_of db
  refine ⟨_, rfl, t, CT, dx, _, _, rfl, ht, T.iT.cl, T.tM, tfs_M _ _ _ _ _ _, _, rfl, lm, _, _, _, rfl, rfl, Same.seq (wo_same _ _) h2, atI_nat (by rw [List.getElem?_map, hm]; rfl), m, CM, dm, _, _, rfl, g1, T.iM.cl, T.mE, mfs_E _ _ _, ?_⟩
  refine ⟨_, rfl, t, CT, dx, _, _, rfl, ht, T.iT.cl, T.tC, tfs_C _ _ _ _ _ _, ac, cs, rfl, qc, fun D hD => lc_d (K := K) (walk_enum (K := K) (a := ac) (xs := cs)) (fun j => ((List.range j).filter fun c => decide (((C.getD c []).getD i []).getD 0 0 ∈ M.2)).map dN) hD rfl (fun H' sm => sm.seq qc) (fun j x Ha Hb hj p2 y => ?_) fun acc He h1e h2e h3e => ?_⟩
  · obtain ⟨T9, u1, u2, rfl, hT9, rfl, e1, e2⟩ := y
    cases e1
    obtain ⟨d, hd, du⟩ := dcs.get' e2
    rw [List.getElem?_map] at hd
    obtain ⟨c, hc, rfl⟩ := Option.map_eq_some_iff.mp hd
    have hch := Z.ch (List.mem_of_getElem? hc)
    obtain ⟨r, hr⟩ := get_some (show i < c.length by rw [hch.1]; exact lt_of_get hMi)
    obtain ⟨r1, r2⟩ := hch.2 i M r hMi hr
    have hTp := lst.whole.pos
    obtain ⟨s0, hs0⟩ := get_some (show 0 < r.length by omega)
    have sb : Same Ha (upd Ha T9 (.tup [.int (j : Nat), u2])) := same_new hT9
    have s0b := Same.trans p2.same sb
    obtain ⟨a2, xs, cc, rfl, q1, q2, q3⟩ := row_t (dp_mono s0b du) hr
    obtain ⟨k1, k2⟩ := new_keeps (o := .tup [.int (j : Nat), .ref a2]) hT9 p2.some
    refine ⟨T9, _, rfl, SqT.of upd_same, rfl, _, _, rfl, _, _, rfl, rfl, rfl, _, rfl, _, rfl, a2, xs, _, _, rfl, rfl, q1, q2, cc, _, _, _, rfl, rfl, q3, at_num (i := 0) hs0, _, rfl, te, _, rfl, .inr (Same.seqT s0b qe), rfl, flat_nums _, _, rfl, ?_⟩
    rw [inV_num]
    have eo : ((C.getD j []).getD i []).getD 0 0 = s0 := by rw [getD_of hc, getD_of hr, getD_of hs0]
    by_cases q : s0 ∈ M.2
    · refine ifT (by rw [decide_eq_true q]; rfl) ⟨_, rfl, p2.put (d := dN j) (line_lt (by have := lt_of_get hc; omega)) k1 k2 (.int _) ?_⟩
      rw [filter_range, if_pos (by rw [eo]; exact decide_eq_true q), List.map_append]
      rfl
    · refine ifF (by rw [decide_eq_false q]; rfl) (p2.skip k1 k2 ?_)
      rw [filter_range, if_neg (by rw [eo]; simpa using q)]
  · rw [lc] at h3e
    have eacc : acc = (passedL C i M.2).map vN := nums_of h3e
    subst eacc
    exact k He D (Same.trans h2e (wo_same _ _)) hD h1e
abbrev s_passed : Stmt := top 58
abbrev N_passed : List Str := ["table", "position", "told"]
theorem sc_passed : FnScope N_passed ["table", "position"] (defScope s_passed) := ⟨rfl, rfl, rfl, by decide +kernel, rfl, by decide +kernel, by decide +kernel⟩
theorem ok_passed (T : Tx K mg CM CT) (D : DefAt K mg "passed" s_passed) (c_want_table : Cal P w K mg base 1 "want_table" ["value"] (spWantTable CT)) (c_want_position : Cal P w K mg base 3 "want_position" ["table", "value"] (spWantPos K CM CT)) (c_passed_classes : Cal P w K mg base 1 "passed_classes" ["table", "position"] (spPassed K CM CT)) : Cal P w K mg base 4 "passed" ["table", "position"] (spPassed K CM CT) := by
  refine cal_of D sc_passed (fun _ _ _ _ _ _ us hl => match us, hl with | [_, _], _ => rfl) (fun vs H Q E h => ?_) (fun f cdv A outer s H vs Q E hr h => ?_)
  · obtain ⟨_, _, _, _, _, _, _, _, rfl, _⟩ := h
    rfl
  have hu := hu_of hr
  obtain ⟨t, kd, i, L, ms, Ms, C, M, rfl, hT, hMi, k⟩ := h
  refine ⟨_, (pss_cons (ps_set (i := 2) sc_passed.nd rfl (Or.inl rfl) (pe_c c_want_table hr (by decide) rfl (pa_cons (pv 0) pa_nil)))
  (pss_cons (ps_expr (pe_c c_want_position hr (by decide) rfl (pa_cons (pv 2) (pa_cons (pv 1) pa_nil))))
  (pss_one (ps_ret (pe_c c_passed_classes hr (by decide) rfl (pa_cons (pv 2) (pa_cons (pv 1) pa_nil))))))), ?_⟩
  obtain ⟨dx, lm, wa, wc', p, ws, kvs, h1, _⟩ := id hT
  exact ⟨_, rfl, t, dx, _, rfl, wo_same _ _ _ _ h1, _, rfl, _, rfl, t, kd, i, L, ms, Ms, C, rfl, hT, lt_of_get hMi, _, rfl, _, rfl, t, kd, i, L, ms, Ms, C, M, rfl, hT, hMi, k⟩
end
end M22

set_option maxRecDepth 100000
set_option maxHeartbeats 4000000
namespace M22
open PySem PySem.Spec PyProof.Rows L2
section
variable {P : Program} {w : World} {K : PySem.W.Frag} {mg : Str → Option Value} {base : Heap} {CM CT : Addr}
def spLotIn (K : PySem.W.Frag) (CM CT : Addr) : Sp := fun vs H Q _ => ∃ (t kd lv L : Nat) (ms : List Addr) (Ms : List Mach) (C : List Change) (lot : List Nat), vs = [.ref t, .ref lv] ∧ TAt K CM CT H t kd L ms Ms C ∧ (SqL K H lv (lot.map vN) ∨ SqT K H lv (lot.map vN)) ∧ lot.Nodup ∧ (∀ c ∈ lot, c < C.length) ∧
  ∀ (H' : Hp) (p : Addr) (lot' : List Nat), Same H H' → H p = none → H' p = some (.lst (lot'.map vN)) → Rising lot' → (∀ c, c ∈ lot' ↔ c ∈ lot) → Q (.ref p) H'
abbrev s_lot_in : Stmt := top 60
abbrev N_lot_in : List Str := ["table", "value", "one"]
theorem sc_lot_in : FnScope N_lot_in ["table", "value"] (defScope s_lot_in) := ⟨rfl, rfl, rfl, by decide +kernel, rfl, by decide +kernel, by decide +kernel⟩
theorem ok_lot_in (T : Tx K mg CM CT) (D : DefAt K mg "lot_in" s_lot_in) (c_is_list : Cal P w K mg base 1 "is_list" ["value"] (spIsList K)) (c_is_class : Cal P w K mg base 3 "is_class" ["table", "value"] (spIsClass K CM CT)) : Cal P w K mg base 4 "lot_in" ["table", "value"] (spLotIn K CM CT) := by
  refine cal_of D sc_lot_in (fun _ _ _ _ _ _ us hl => match us, hl with | [_, _], _ => rfl) (fun vs H Q E h => ?_) (fun f cdv A outer s H vs Q E hr h => ?_)
  · obtain ⟨_, _, _, _, _, _, _, _, rfl, _⟩ := h
    rfl
  have hu := hu_of hr
  obtain ⟨t, kd, lv, L, ms, Ms, C, lot, rfl, hT, hlv, nd, hlt, k⟩ := h
  have hC10 : C.length ≤ 10 := by obtain ⟨_, _, _, _, _, _, _, _, _, _, _, _, _, _, _, _, h, _⟩ := hT; exact h
  have hll := nodup_bound nd hlt
  rcases hlv with hlv | hlv
  · skip
    refine ⟨_, (pss_cons (ps_if (PW.pt (pw_or (pt_not (pt_val (pe_c c_is_list hr (by decide) rfl (pa_cons (pv 1) pa_nil)))) (pw_or (pt_not (pt_val (pe_callB (cr_allK K rfl) (by rfl) T.all (by decide +kernel) (pa_cons (pe_lc (own := [("one", 2)]) (tt := tYes) rfl sc_lot_in.nd (pi_listK K (pv 1)) (blkOk_by (N := N_lot_in) (sc := (defScope s_lot_in)) (by decide +kernel)) (fun _ _ _ _ _ => (pg_name (i := 2) sc_lot_in.nd rfl (Or.inl rfl))) (fun _ _ _ _ _ => pts_nil) (fun _ _ _ _ _ => (pe_c c_is_class hr (by decide) rfl (pa_cons (pv 0) (pa_cons (pv 2) pa_nil))))) pa_nil)))) (pw_or1 (pt_cmpR op_ne (pe_callB call_lenS (by rfl) T.len PySem.boot_len (pa_cons (pe_callTy (cr_setI rfl) (by rfl) T.set (by decide +kernel) (pa_cons (pv 1) pa_nil)) pa_nil)) (pe_callB (call_lenK K) (by rfl) T.len PySem.boot_len (pa_cons (pv 1) pa_nil)) (nomark _)))))) (pss_one (ps_ret pe_non)) pss_nil)
    (pss_one (ps_ret (pe_callB cr_sortA (by rfl) T.sorted (by decide +kernel) (pa_cons (pv 1) pa_nil))))), ?_⟩
    refine ⟨_, rfl, lv, rfl, ⟨_, .inl hlv⟩, fun H1 s1 => ⟨true, rfl, ifF rfl ⟨_, rfl, lv, rfl, ⟨_, Same.seq s1 hlv⟩, fun D hD => lc_d (K := K) walk_list (fun i => (lot.take i).map fun _ => PyData.bool true) hD rfl (fun H' sm => Same.seq (Same.trans s1 sm) hlv) (fun i x Ha Hb hi p y => ?_) fun acc He h1 h2 h3 => ?_⟩⟩⟩
    · obtain ⟨rfl, hx⟩ := y
      obtain ⟨c, hc, rfl⟩ := get_vN hx
      refine ⟨rfl, _, rfl, _, rfl, t, kd, c, L, ms, Ms, C, rfl, hT.mono (Same.trans s1 p.same), ?_⟩
      rw [decide_eq_true (hlt c (List.mem_of_getElem? hc))]
      exact p.put0 (line_lt (by have := lt_of_get hc; omega)) (.bl true) (take_map _ lot hc)
    have e : acc = (lot.map fun _ => true).map V.bl := bls_of (by
      rw [List.length_map, List.take_length] at h3
      rw [List.map_map]
      exact h3)
    refine ⟨D, lot.map fun _ => true, rfl, SqL.of (by rw [h1, e]), ?_⟩
    rw [show (lot.map fun _ => true).all id = true by simp]
    have s2 : Same H He := Same.trans s1 (Same.trans h2 (wo_same _ _))
    refine ⟨true, rfl, ifF rfl ⟨_, rfl, lv, lot.map fun n : Nat => (n : Int), rfl, .inl (by rw [← int_map]; exact Same.seq s2 hlv), by rw [List.length_map]; omega, fun a c Sb ha hSb hc => ?_⟩⟩
    have hcl := hc _ (cast_nodup nd) fun _ => Iff.rfl
    rw [List.length_map] at hcl
    have s3 := Same.trans s2 (same_new (o := SetO w a Sb c) ha)
    refine ⟨a, Sb, c, rfl, upd_same, by omega, _, rfl, lv, _, rfl, .inl (Same.seq s3 hlv), rfl, _, rfl, ifF ?_ ?_⟩
    · rw [List.length_map, hcl]
      simp
    refine ⟨_, rfl, lv, lot.map fun n : Nat => (n : Int), rfl, .inl (by rw [← int_map]; exact Same.seq s3 hlv), fun ns p pm pw hp => ?_⟩
    obtain ⟨lot', rfl⟩ := nat_list (ks := ns) fun k hk => by
      obtain ⟨n, _, e⟩ := List.mem_map.mp (pm.mem_iff.mp hk)
      exact ⟨n, e.symm⟩
    rw [← int_map]
    have nd' : lot'.Nodup := nodup_cast (pm.nodup_iff.mpr (cast_nodup nd))
    refine k _ p lot' (Same.trans s3 (same_new hp)) (Same.free s3 hp) upd_same ?_ fun c => ?_
    · have p1 := List.pairwise_map.mp pw
      exact List.Pairwise.imp₂ (fun a b h1 h2 => by have h1 : (a : Int) ≤ b := h1; have h2 : a ≠ b := h2; omega) p1 nd'
    · rw [← mem_cast, pm.mem_iff, mem_cast]
  · skip
    refine ⟨_, (pss_cons (ps_if (PW.pt (pw_or (pt_not (pt_val (pe_c c_is_list hr (by decide) rfl (pa_cons (pv 1) pa_nil)))) (pw_or (pt_not (pt_val (pe_callB (cr_allK K rfl) (by rfl) T.all (by decide +kernel) (pa_cons (pe_lc (own := [("one", 2)]) (tt := tYes) rfl sc_lot_in.nd (pi_tupK K (pv 1)) (blkOk_by (N := N_lot_in) (sc := (defScope s_lot_in)) (by decide +kernel)) (fun _ _ _ _ _ => (pg_name (i := 2) sc_lot_in.nd rfl (Or.inl rfl))) (fun _ _ _ _ _ => pts_nil) (fun _ _ _ _ _ => (pe_c c_is_class hr (by decide) rfl (pa_cons (pv 0) (pa_cons (pv 2) pa_nil))))) pa_nil)))) (pw_or1 (pt_cmpR op_ne (pe_callB call_lenS (by rfl) T.len PySem.boot_len (pa_cons (pe_callTy (cr_setI rfl) (by rfl) T.set (by decide +kernel) (pa_cons (pv 1) pa_nil)) pa_nil)) (pe_callB (call_lenK K) (by rfl) T.len PySem.boot_len (pa_cons (pv 1) pa_nil)) (nomark _)))))) (pss_one (ps_ret pe_non)) pss_nil)
    (pss_one (ps_ret (pe_callB cr_sortA (by rfl) T.sorted (by decide +kernel) (pa_cons (pv 1) pa_nil))))), ?_⟩
    refine ⟨_, rfl, lv, rfl, ⟨_, .inr hlv⟩, fun H1 s1 => ⟨true, rfl, ifF rfl ⟨_, rfl, lv, rfl, ⟨_, Same.seqT s1 hlv⟩, fun D hD => lc_d (K := K) walk_tup (fun i => (lot.take i).map fun _ => PyData.bool true) hD rfl (fun H' sm => Same.seqT (Same.trans s1 sm) hlv) (fun i x Ha Hb hi p y => ?_) fun acc He h1 h2 h3 => ?_⟩⟩⟩
    · obtain ⟨rfl, hx⟩ := y
      obtain ⟨c, hc, rfl⟩ := get_vN hx
      refine ⟨rfl, _, rfl, _, rfl, t, kd, c, L, ms, Ms, C, rfl, hT.mono (Same.trans s1 p.same), ?_⟩
      rw [decide_eq_true (hlt c (List.mem_of_getElem? hc))]
      exact p.put0 (line_lt (by have := lt_of_get hc; omega)) (.bl true) (take_map _ lot hc)
    have e : acc = (lot.map fun _ => true).map V.bl := bls_of (by
      rw [List.length_map, List.take_length] at h3
      rw [List.map_map]
      exact h3)
    refine ⟨D, lot.map fun _ => true, rfl, SqL.of (by rw [h1, e]), ?_⟩
    rw [show (lot.map fun _ => true).all id = true by simp]
    have s2 : Same H He := Same.trans s1 (Same.trans h2 (wo_same _ _))
    refine ⟨true, rfl, ifF rfl ⟨_, rfl, lv, lot.map fun n : Nat => (n : Int), rfl, .inr (by rw [← int_map]; exact Same.seqT s2 hlv), by rw [List.length_map]; omega, fun a c Sb ha hSb hc => ?_⟩⟩
    have hcl := hc _ (cast_nodup nd) fun _ => Iff.rfl
    rw [List.length_map] at hcl
    have s3 := Same.trans s2 (same_new (o := SetO w a Sb c) ha)
    refine ⟨a, Sb, c, rfl, upd_same, by omega, _, rfl, lv, _, rfl, .inr (Same.seqT s3 hlv), rfl, _, rfl, ifF ?_ ?_⟩
    · rw [List.length_map, hcl]
      simp
    refine ⟨_, rfl, lv, lot.map fun n : Nat => (n : Int), rfl, .inr (by rw [← int_map]; exact Same.seqT s3 hlv), fun ns p pm pw hp => ?_⟩
    obtain ⟨lot', rfl⟩ := nat_list (ks := ns) fun k hk => by
      obtain ⟨n, _, e⟩ := List.mem_map.mp (pm.mem_iff.mp hk)
      exact ⟨n, e.symm⟩
    rw [← int_map]
    have nd' : lot'.Nodup := nodup_cast (pm.nodup_iff.mpr (cast_nodup nd))
    refine k _ p lot' (Same.trans s3 (same_new hp)) (Same.free s3 hp) upd_same ?_ fun c => ?_
    · have p1 := List.pairwise_map.mp pw
      exact List.Pairwise.imp₂ (fun a b h1 h2 => by have h1 : (a : Int) ≤ b := h1; have h2 : a ≠ b := h2; omega) p1 nd'
    · rw [← mem_cast, pm.mem_iff, mem_cast]
def spWantLike (K : PySem.W.Frag) (CM CT : Addr) : Sp := fun vs H Q _ => ∃ (t kd m L : Nat) (ms : List Addr) (Ms : List Mach) (C : List Change) (S : Steps) (E : List Nat), vs = [.ref t, .ref m] ∧ TAt K CM CT H t kd L ms Ms C ∧ MAt K CM H m L S E ∧ Q .non H
abbrev s_want_like_table : Stmt := top 62
abbrev N_want_like_table : List Str := ["table", "machine"]
theorem sc_want_like_table : FnScope N_want_like_table ["table", "machine"] (defScope s_want_like_table) := ⟨rfl, rfl, rfl, by decide +kernel, rfl, by decide +kernel, by decide +kernel⟩
theorem ok_want_like_table (T : Tx K mg CM CT) (D : DefAt K mg "want_like_table" s_want_like_table)  : Cal P w K mg base 1 "want_like_table" ["table", "machine"] (spWantLike K CM CT) := by
  refine cal_of D sc_want_like_table (fun _ _ _ _ _ _ us hl => match us, hl with | [_, _], _ => rfl) (fun vs H Q E h => ?_) (fun f cdv A outer s H vs Q E hr h => ?_)
  · obtain ⟨_, _, _, _, _, _, _, _, _, rfl, _⟩ := h
    rfl
  have hu := hu_of hr
  obtain ⟨t, kd, m, L, ms, Ms, C, S, E, rfl, hT, hM, k⟩ := h
  refine ⟨_, (pss_one (ps_if (pt_cmpR op_ne (pe_fldK K (pv 0) rfl) (pe_fldK K (pv 1) rfl) (nomark _)) (pss_one ps_never) pss_nil)), ?_⟩
  obtain ⟨dx, lm, wa, wc', p, ws, kvs, h1, _⟩ := hT
  obtain ⟨dm, a, b, g1, _⟩ := hM
  exact ⟨_, rfl, t, CT, dx, _, _, rfl, wo_same _ _ _ _ h1, T.iT.cl, T.tL, tfs_L _ _ _ _ _ _, _, rfl, m, CM, dm, _, _, rfl, g1, T.iM.cl, T.mL, mfs_L _ _ _, rfl, _, rfl, ifF (by simp) k⟩
def spWide (K : PySem.W.Frag) (CM CT : Addr) : Sp := fun vs H Q _ => ∃ (t kd m : Addr) (N : List Addr) (L : Nat) (ms : List Addr) (Ms : List Mach) (C : List Change) (S : Steps) (E : List Nat), vs = [.ref t, .ref m] ∧ (∀ b ∈ N, H b ≠ none) ∧ TAt K CM CT (Wo N H) t kd L ms Ms C ∧ MAt K CM H m L S E ∧ S.length ≤ 60 ∧
  ∀ (H' : Hp) (p : Addr) (due : List Nat), Same (Wo [kd] H) (Wo [kd] H') → TAt K CM CT (Wo N H') t kd L ms Ms C → H p = none → H' p = some (.lst (due.map vN)) → Wide L (rowsC L Ms C) S E due → Q (.ref p) H'
abbrev s_widened_lot : Stmt := top 63
abbrev N_widened_lot : List Str := ["table", "machine", "rows", "met", "left", "one", "state", "late"]
theorem sc_widened_lot : FnScope N_widened_lot ["table", "machine"] (defScope s_widened_lot) := ⟨rfl, rfl, rfl, by decide +kernel, rfl, by decide +kernel, by decide +kernel⟩
theorem ok_widened_lot (T : Tx K mg CM CT) (D : DefAt K mg "widened_lot" s_widened_lot) (c_class_row : Cal P w K mg base 3 "class_row" ["table"] (spRow K CM CT)) : Cal P w K mg base 4 "widened_lot" ["table", "machine"] (spWide K CM CT) := by
  refine cal_of D sc_widened_lot (fun _ _ _ _ _ _ us hl => match us, hl with | [_, _], _ => rfl) (fun vs H Q E h => ?_) (fun f cdv A outer s H vs Q E hr h => ?_)
  · obtain ⟨_, _, _, _, _, _, _, _, _, _, rfl, _⟩ := h
    rfl
  have hu := hu_of hr
  obtain ⟨t, kd, m, N, L, ms, Ms, C, S, E, rfl, hN, hT, hM, hS, k⟩ := h
  refine ⟨_, (pss_cons (ps_set (i := 2) sc_widened_lot.nd rfl (Or.inl rfl) (pe_c c_class_row hr (by decide) rfl (pa_cons (pv 0) pa_nil)))
  (pss_cons (ps_par (i := 3) (j := 4) rfl sc_widened_lot.nd rfl rfl (by decide) rfl rfl (pa_cons (pe_dispN (T := kP) (hu_64 hr) (pps_cons (pe_tup (pa_cons pe_int (pa_cons pe_int pa_nil))) pe_bl pps_nil) (by rfl) (by rfl) (fun z => by cases z) (by decide)) (pa_cons (pe_lst (pa_cons (pe_tup (pa_cons pe_int (pa_cons pe_int pa_nil))) pa_nil)) pa_nil)) (by rfl))
  (pss_cons (ps_while PassesOwn.never (pt_cmpR (op_neDK K (hu_64 hr)) (pv 4) (pe_lst pa_nil) (nomark _)) (pss_cons (ps_asg (pe_bm0 PySem.F.plainAttrs_list PySem.F.slot_list_pop PySem.F.type_list_pop mt_pop (pv 4)) (pg_tupK K (n := 2) rfl (pgs_cons (pg_name (i := 5) sc_widened_lot.nd rfl (Or.inl rfl)) (pgs_cons (pg_name (i := 6) sc_widened_lot.nd rfl (Or.inl rfl)) pgs_nil))))
    (pss_one (ps_for PassesOwn.never rfl (pi_zipMK K (by rfl) T.zip (pa_cons (pe_ix (ix_listK K) (pv 2) (pv 5) (fun _ _ => rfl)) (pa_cons (pe_ix (ix_tupK K) (pe_fldK K (pv 1) rfl) (pv 6) (fun _ _ => rfl)) pa_nil))) (pg_name (i := 7) sc_widened_lot.nd rfl (Or.inl rfl)) (pss_one (ps_if (pt_cmpR (op_notInN (T := kP) (hu_64 hr)) (pv 7) (pv 3) (by rfl)) (pss_cons (ps_asg pe_bl (pg_sub (pv 3) (pv 7) (set_N (T := kP) (hu_64 hr))))
        (pss_one (ps_expr (pe_bmK K PySem.F.plainAttrs_list PySem.F.slot_list_append PySem.F.type_list_append mt_append (pv 4) (pa_cons (pv 7) pa_nil))))) pss_nil))))))
  (pss_one (ps_ret (pe_callB (cr_sortedSet rfl) (by rfl) T.sorted (by decide +kernel) (pa_cons (pe_callTy (cr_setI rfl) (by rfl) T.set (by decide +kernel) (pa_cons (pe_lock (pe_lc (own := [("one", 5), ("state", 6)]) rfl sc_widened_lot.nd (pi_keysN (T := kP) (pv 3)) (blkOk_by (N := N_widened_lot) (sc := (defScope s_widened_lot)) (by decide +kernel)) (fun _ _ _ _ _ => (pg_tupK K (n := 2) rfl (pgs_cons (pg_name (i := 5) sc_widened_lot.nd rfl (Or.inl rfl)) (pgs_cons (pg_name (i := 6) sc_widened_lot.nd rfl (Or.inl rfl)) pgs_nil)))) (fun _ _ _ _ _ => (pts_one (pt_cmpR (op_inK K) (pv 6) (pe_fldK K (pv 1) rfl) (by rfl)))) (fun _ _ _ _ _ => (pv 5)))) pa_nil)) pa_nil))))))), ?_⟩
  obtain ⟨_, _, _, _, _, _, kvs0, _, _, _, _, _, _, hk0, _, Z, hC10, _, hL2, _⟩ := id hT
  have hk : H kd = some (.dK kvs0) := wo_same _ _ _ _ hk0
  have mkd : m ≠ kd := mAt_ne hM hk fun _ _ _ z => nomatch z
  have hMw : MAt K CM (Wo [kd] H) m L S E := mAt_outX (.dK hk) mkd hM
  have WS : Whole L S := by obtain ⟨_, _, _, _, _, _, l⟩ := hM; exact l.whole
  have WR : Whole L (rowsC L Ms C) := Z.whole
  have hRl : (rowsC L Ms C).length = C.length := rowsC_length
  -- rows = class_row(table)
  refine ⟨_, rfl, t, kd, N, L, ms, Ms, C, rfl, hN, hT, fun H1 rv w1 hT1 dr => ?_⟩
  obtain ⟨_, _, _, _, _, _, kvs1, _, _, _, _, _, _, hk1, _⟩ := id hT1
  have hk1 : H1 kd = some (.dK kvs1) := wo_same _ _ _ _ hk1
  obtain ⟨dm, sa, ea, g1, da, db, lst⟩ := (hMw.mono w1).mono (wo_same _ _)
  have dr1 : Dp K H1 rv (dLL (rowsC L Ms C)) := dp_mono wo2_same dr
  obtain ⟨te, rfl, qe⟩ := t_of db
  generalize rowsC L Ms C = R at *
  clear dr
  -- met, left = ({(0, 0): True}, [(0, 0)])
  intro ad had
  refine ⟨by show 2 ≤ sizeLine; decide, fun z1 hz1 => ?_⟩
  have az1 : ad ≠ z1 := fun e => by rw [← e, upd_same] at hz1; cases hz1
  refine ⟨z1, (0, 0), .bl true, rfl, (upd_ne az1).trans upd_same, by rw [kP_dk]; exact dp_t (ns := [0, 0]) (SqT.of upd_same), by show 2 ≤ sizeLine; decide, fun z2 hz2 => ⟨by show 1 ≤ sizeLine; decide, fun al hal => ⟨_, _, rfl, ?_⟩⟩⟩
  have az2 : ad ≠ z2 := ne_of_none (o := dnO kP P w ad [((0, 0), z1, .bl true)]) upd_same hz2
  have z12 : z1 ≠ z2 := ne_of_none (o := .tup [.int 0, .int 0]) ((upd_ne az1.symm).trans upd_same) hz2
  have s12 : Same H1 (upd (upd (upd (upd H1 ad (dnO kP P w ad ([] : Ents (Nat × Nat)))) z1 (.tup [.int 0, .int 0])) ad (dnO kP P w ad [((0, 0), z1, .bl true)])) z2 (.tup [.int 0, .int 0])) := Same.trans (Same.put (Same.trans (same_new had) (same_new hz1)) had) (same_new hz2)
  have h2a : upd (upd (upd (upd H1 ad (dnO kP P w ad ([] : Ents (Nat × Nat)))) z1 (.tup [.int 0, .int 0])) ad (dnO kP P w ad [((0, 0), z1, .bl true)])) z2 (.tup [.int 0, .int 0]) ad = some (dnO kP P w ad [((0, 0), z1, .bl true)]) := (upd_ne az2).trans upd_same
  have h2z1 : upd (upd (upd (upd H1 ad (dnO kP P w ad ([] : Ents (Nat × Nat)))) z1 (.tup [.int 0, .int 0])) ad (dnO kP P w ad [((0, 0), z1, .bl true)])) z2 (.tup [.int 0, .int 0]) z1 = some (.tup [.int 0, .int 0]) := (upd_ne z12).trans ((upd_ne az1.symm).trans upd_same)
  have h2z2 : upd (upd (upd (upd H1 ad (dnO kP P w ad ([] : Ents (Nat × Nat)))) z1 (.tup [.int 0, .int 0])) ad (dnO kP P w ad [((0, 0), z1, .bl true)])) z2 (.tup [.int 0, .int 0]) z2 = some (.tup [.int 0, .int 0]) := upd_same
  have hal : upd (upd (upd (upd H1 ad (dnO kP P w ad ([] : Ents (Nat × Nat)))) z1 (.tup [.int 0, .int 0])) ad (dnO kP P w ad [((0, 0), z1, .bl true)])) z2 (.tup [.int 0, .int 0]) al = none := hal
  generalize hG : upd (upd (upd (upd H1 ad (dnO kP P w ad ([] : Ents (Nat × Nat)))) z1 (.tup [.int 0, .int 0])) ad (dnO kP P w ad [((0, 0), z1, .bl true)])) z2 (.tup [.int 0, .int 0]) = H2 at s12 h2a h2z1 h2z2 hal
  have adl : ad ≠ al := ne_of_none h2a hal
  have z1l : z1 ≠ al := ne_of_none h2z1 hal
  have z2l : z2 ≠ al := ne_of_none h2z2 hal
  have alH1 : H1 al = none := Same.free s12 hal
  have adH1 : H1 ad = none := had
  have nM : ∀ b ∈ [ad, al], H1 b = none := fun b hb => by
    rcases List.mem_cons.mp hb with e | hb
    · rw [e]; exact adH1
    · rw [List.mem_singleton.mp hb]; exact alH1
  have s1M : ∀ {Hx : Hp}, Same H1 Hx → Same H1 (Wo [ad, al] Hx) := fun s b o e => by
    rw [wo_out fun z => by rw [nM b z] at e; cases e]
    exact s b o e
  -- while left != []
  let WI : List (Nat × Nat) → List (Nat × Nat) → Hp → Prop := fun mt lf Hx => ∃ (es : Ents (Nat × Nat)) (ls : List V), Same H1 (Wo [ad, al] Hx) ∧ Hx ad = some (dnO kP P w ad es) ∧ Hx al = some (.lst ls) ∧ KeysAt kP K (Wo [ad, al] Hx) es ∧ es.map (·.1) = mt ∧ DpAll K (Wo [ad, al] Hx) ls (lf.map dP)
  refine ⟨fun mm σ Hx => ∃ (mt lf : List (Nat × Nat)) (x5 x6 x7 : Option V), σ = [some (.ref t), some (.ref m), some rv, some (.ref ad), some (.ref al), x5, x6, x7] ∧ mm = 2 * (R.length * S.length - mt.length) + lf.length ∧ WI mt lf Hx ∧ Dfs (nxP L R S) (0, 0) mt lf,
    ⟨_, [(0, 0)], [(0, 0)], none, none, none, rfl, rfl, ⟨[((0, 0), z1, .bl true)], [.ref z2], ?_, ?_, ?_, ?_, rfl, ?_⟩, .start⟩, ?_⟩
  · show Same H1 (Wo [ad, al] (upd _ al _))
    rw [wo_upd (by simp)]
    have := s1M s12
    rw [← hG] at this
    exact this
  · have := (upd_ne (H := H2) (o := .lst [.ref z2]) adl).trans h2a
    rw [← hG] at this
    exact this
  · exact upd_same
  · show KeysAt kP K (Wo [ad, al] (upd _ al _)) _
    rw [wo_upd (by simp)]
    intro e he
    rw [List.mem_singleton.mp he, kP_dk]
    refine dp_t (ns := [0, 0]) (SqT.of ?_)
    rw [wo_out (by simp [az1.symm, z1l])]
    rw [← hG] at h2z1
    exact h2z1
  · show DpAll K (Wo [ad, al] (upd _ al _)) _ _
    rw [wo_upd (by simp)]
    refine .cons (dp_t (ns := [0, 0]) (SqT.of ?_)) .nil
    rw [wo_out (by simp [az2.symm, z2l])]
    exact upd_same
  clear hG s12 h2a h2z1 h2z2 hal z1l z2l az1 az2 z12 hz1 hz2
  rintro mm σ H3 ⟨mt, lf, x5, x6, x7, rfl, rfl, ⟨es, ls, s3, h3a, h3l, ka, ek, dls⟩, D⟩
  have hMet : ∀ x ∈ mt, Met L R S x := D.ind .zero fun x y hx hy => hx.next hy
  have hB : ∀ {l : List (Nat × Nat)}, l.Nodup → (∀ x ∈ l, Met L R S x) → l.length ≤ R.length * S.length := fun nd hm => pairs_few nd fun p hp => (hm p hp).lt WR WS
  have hB600 : R.length * S.length ≤ 600 := Nat.le_trans (Nat.mul_le_mul (show R.length ≤ 10 by omega) hS) (by decide)
  refine ⟨_, rfl, by show 0 ≤ sizeLine; decide, fun z3 hz3 => ⟨.list (lf.map dP), .list [], .lst (SqL.of (same_new hz3 _ _ h3l)) (dpAll_mono (Same.trans (wo_same _ _) (same_new hz3)) dls), .lst (SqL.of upd_same) .nil, (flat_list (flat_map flat_dP lf)).shaped (by decide), by decide +kernel, _, rfl, ?_⟩⟩
  rw [ne_nil eq_dP]
  have s33 : Same H3 (upd H3 z3 (.lst [])) := same_new hz3
  have s3 := Same.trans s3 (wo_mono (M := [ad, al]) s33)
  have h3a := s33 _ _ h3a
  have h3l := s33 _ _ h3l
  have ka := ka.mono (wo_mono (M := [ad, al]) s33)
  have dls := dpAll_mono (wo_mono (M := [ad, al]) s33) dls
  generalize upd H3 z3 (.lst []) = H3 at s3 h3a h3l ka dls ⊢
  clear s33 hz3
  by_cases hlf : lf = []
  · refine ifF (by rw [decide_eq_true hlf]; rfl) ?_
    subst hlf
    -- return sorted(set([..]))
    refine ⟨ad, _, h3a, True.intro, fun od => ⟨_, rfl, ad, od, es, rfl, upd_same, fun Dl hDl => lc_d (K := K) (walk_keysN (T := kP) (P := P) (w := w) (d := ad) (o := od) (es := es)) (fun i => ((mt.take i).filter fun p => decide (p.2 ∈ E)).map fun p => dN p.1) hDl rfl (fun H' sm => sm _ _ upd_same) (fun i y Ha Hb hi p z => ?_) fun acc He h1e h2e h3e => ?_⟩⟩
    · obtain ⟨rfl, k1, b1, v1, hk1', rfl⟩ := z
      have hq : mt[i]? = some k1 := by rw [← ek, List.getElem?_map, hk1']; rfl
      have hb1 := ka _ (List.mem_of_getElem? hk1')
      rw [kP_dk] at hb1
      obtain ⟨b2, eb, qb⟩ := t_of hb1
      cases eb
      have wf : Same (Wo [ad, al] H3) Hb := by
        have := wo_mono (M := [ad, al]) p.same
        rw [wo_upd (by simp)] at this
        exact Same.trans this (wo_same _ _)
      have s1b : Same H1 Hb := Same.trans s3 wf
      refine ⟨b1, _, rfl, Same.seqT wf qb, rfl, _, _, rfl, _, _, rfl, rfl, rfl, _, rfl, _, rfl, m, CM, dm, _, _, rfl, s1b _ _ g1, T.iM.cl, T.mE, mfs_E _ _ _, te, _, rfl, .inr (Same.seqT s1b qe), rfl, flat_nums _, _, rfl, ?_⟩
      rw [inV_num]
      by_cases q : k1.2 ∈ E
      · refine ifT (by rw [decide_eq_true q]; rfl) ⟨_, rfl, p.put0 (d := dN k1.1) (line_lt (by have := lt_of_get hq; have := hB D.nodup hMet; omega)) (.int _) ?_⟩
        rw [take_keep _ mt hq, if_pos (decide_eq_true q), List.map_append]
        rfl
      · refine ifF (by rw [decide_eq_false q]; rfl) (p.skip0 ?_)
        rw [take_keep _ mt hq, if_neg (by simpa using q)]
    have lmt : mt.length = es.length := by rw [← ek, List.length_map]
    rw [← lmt, List.take_length] at h3e
    have eacc : acc = ((mt.filter fun p => decide (p.2 ∈ E)).map (·.1)).map vN := nums_of (by rw [List.map_map]; exact h3e)
    subst eacc
    have hea := (Same.trans h2e (wo_same _ _)) _ _ (upd_same (H := H3) (a := ad) (o := .frz od (dnO kP P w ad es)))
    refine ⟨hea, ?_⟩
    have Dla : Dl ≠ ad := fun e => by rw [e, upd_same] at hDl; cases hDl
    have few : ∀ n ∈ (mt.filter fun p => decide (p.2 ∈ E)).map (·.1), n < R.length := fun n hn => by
      obtain ⟨p, hp, rfl⟩ := List.mem_map.mp hn
      exact ((hMet p (List.mem_filter.mp hp).1).lt WR WS).1
    have hmtl := hB D.nodup hMet
    refine ⟨Dl, ((mt.filter fun p => decide (p.2 ∈ E)).map (·.1)).map fun n : Nat => (n : Int), rfl, .inl (SqL.of (by rw [upd_ne Dla, h1e, int_map])), ?_, fun a c Sb ha hSb hc => ?_⟩
    · rw [List.length_map, List.length_map]
      have := List.length_filter_le (fun p => decide (p.2 ∈ E)) mt
      omega
    have hc10 := few_of few hc
    refine ⟨a, _, c, rfl, upd_same, by omega, fun ns p pw mem hln hp => ?_⟩
    obtain ⟨due, rfl, up⟩ := rising_of pw fun k hk => by
      have := (mem k).mp hk
      rw [hSb] at this
      obtain ⟨n, _, e⟩ := List.mem_map.mp (of_decide_eq_true this)
      exact ⟨n, e.symm⟩
    have hdue : ∀ n, n ∈ due ↔ n ∈ (mt.filter fun p => decide (p.2 ∈ E)).map (·.1) := fun n => by
      rw [← mem_cast, mem, hSb, decide_eq_true_iff]
      exact mem_cast
    rw [← int_map]
    have sEnd : Same H1 (upd (upd (upd He ad (dnO kP P w ad es)) a (SetO w a Sb c)) p (.lst (due.map vN))) := by
      have q1 := wo_mono (M := [ad, al]) (Same.trans h2e (wo_same [Dl] He))
      rw [wo_upd (by simp)] at q1
      have q2 : Same H1 (Wo [ad, al] (upd He ad (dnO kP P w ad es))) := by rw [wo_upd (by simp)]; exact Same.trans s3 q1
      exact Same.trans q2 (Same.trans (wo_same _ _) (Same.trans (same_new ha) (same_new hp)))
    have hkE := sEnd _ _ hk1
    have pkd : p ≠ kd := fun e => by rw [e, upd_same] at hkE; cases hkE
    have hp1 : H1 p = none := by
      cases e : H1 p with
      | none => rfl
      | some o =>
        have q1 := wo_mono (M := [ad, al]) (Same.trans h2e (wo_same [Dl] He))
        rw [wo_upd (by simp)] at q1
        have q2 : Same H1 (Wo [ad, al] (upd He ad (dnO kP P w ad es))) := by rw [wo_upd (by simp)]; exact Same.trans s3 q1
        have := Same.trans q2 (Same.trans (wo_same _ _) (same_new (o := SetO w a Sb c) ha)) _ _ e
        exact nomatch this.symm.trans hp
    refine k _ p due (Same.trans w1 (wo_mono sEnd)) (hT1.mono (wo_mono sEnd)) (none_back w1 hk (by rw [hk1]; exact fun z => nomatch z) hp1) upd_same (.of_met D.mem D.closed hMet up fun n => ?_)
    rw [hdue]
    constructor
    · intro h
      obtain ⟨q, hq, e⟩ := List.mem_map.mp h
      obtain ⟨h1, h2⟩ := List.mem_filter.mp hq
      exact ⟨q, h1, e, of_decide_eq_true h2⟩
    · rintro ⟨q, h1, e, h2⟩
      exact List.mem_map.mpr ⟨q, List.mem_filter.mpr ⟨h1, decide_eq_true h2⟩, e⟩
  · refine ifT (by rw [decide_eq_false hlf]; rfl) ⟨_, fun _ _ z => z, ?_⟩
    obtain ⟨lf0, x, rfl⟩ : ∃ l0 x, lf = l0 ++ [x] := ⟨lf.dropLast, lf.getLast hlf, (List.dropLast_concat_getLast hlf).symm⟩
    rw [List.map_append] at dls
    obtain ⟨ls0, u, rfl, dls0, dux⟩ := dpAll_split dls
    have xmt : x ∈ mt := D.sub x (List.mem_append_right _ (List.mem_singleton.mpr rfl))
    obtain ⟨x1, x2⟩ := (hMet x xmt).lt WR WS
    obtain ⟨r1, hr1, hl1, hb1⟩ := WR.at x1
    obtain ⟨r2, hr2, hl2, hb2⟩ := WS.at x2
    obtain ⟨tu, rfl, qu⟩ := t_of dux
    have hlf0 := hB D.left_nodup fun p hp => hMet p (D.sub p hp)
    rw [List.length_append] at hlf0
    have h4l : upd H3 al (.lst (ls0 ++ [V.ref tu]).dropLast) al = some (.lst ls0) := by rw [upd_same, List.dropLast_concat]
    have h4a : upd H3 al (.lst (ls0 ++ [V.ref tu]).dropLast) ad = some (dnO kP P w ad es) := (upd_ne adl).trans h3a
    have w4 : Wo [ad, al] (upd H3 al (.lst (ls0 ++ [V.ref tu]).dropLast)) = Wo [ad, al] H3 := wo_upd (by simp)
    have qu4 : SqT K (upd H3 al (.lst (ls0 ++ [V.ref tu]).dropLast)) tu ([x.1, x.2].map vN) := by
      refine Same.seqT (wo_same [ad, al] _) ?_
      rw [w4]; exact qu
    refine ⟨_, rfl, .inl ⟨rfl, _, SqL.of h3l⟩, al, ls0 ++ [.ref tu], .ref tu, rfl, rfl, h3l, by simp, tu, _, rfl, qu4, rfl, _, _, rfl, _, _, rfl, rfl, ?_⟩
    generalize upd H3 al (.lst (ls0 ++ [V.ref tu]).dropLast) = H4 at h4l h4a w4 qu4 ⊢
    rw [← w4] at s3 ka dls0
    have s14 : Same H1 H4 := Same.trans s3 (wo_same _ _)
    obtain ⟨lr, xr, crow, rfl, p1, p2, p3⟩ := row_l dr1 hr1
    obtain ⟨lt, xt, trow, rfl, o1, o2, o3⟩ := row_t da hr2
    refine ⟨_, rfl, _, rfl, lr, xr, _, _, rfl, rfl, s14.seq p1, p2, _, rfl, m, CM, dm, _, _, rfl, s14 _ _ g1, T.iM.cl, T.mS, mfs_S _ _ _, _, rfl, lt, xt, _, _, rfl, rfl, Same.seqT s14 o1, o2, crow, trow, _, _, rfl, s14.seq p3, Same.seqT s14 o3,
      for_it (walk_zipM (K := K) (a := crow) (b := trow) (xs := r1.map vN) (ys := r2.map vN) (n := L) (by rw [List.length_map, hl1]) (by rw [List.length_map, hl2]))
        (fun i σ Hx => ∃ x7, σ = [some (.ref t), some (.ref m), some (.ref lr), some (.ref ad), some (.ref al), some (vN x.1), some (vN x.2), x7] ∧ WI (addAll mt ((nxP L R S x).take i)) (lf0 ++ (addAll mt ((nxP L R S x).take i)).drop mt.length) Hx)
        ⟨x7, rfl, es, ls0, s3, h4a, h4l, ka, by rw [List.take_zero]; exact ek, by rw [List.take_zero, addAll_nil, List.drop_length, List.append_nil]; exact dls0⟩ (fun i σ Hx _ ⟨_, _, _, _, s, _⟩ => ⟨(Same.trans s (wo_same _ _)).seq p3, Same.seqT (Same.trans s (wo_same _ _)) o3⟩) ?_ ?_⟩
    · clear s3 h4a h4l ka ek dls0 s14 w4 qu4 h3a h3l dls qu dux
      rintro i v σ H5 H6 hi ⟨x7, rfl, es, ls, s5, h5a, h5l, ka, ek, dls⟩ ⟨T9, u1, u2, rfl, hT9, rfl, e1, e2⟩
      obtain ⟨a, hxa, rfl⟩ := get_vN e1
      obtain ⟨b, hxb, rfl⟩ := get_vN e2
      have hy : (nxP L R S x)[i]? = some (a, b) := nxP_get hr1 hr2 hi hxa hxb
      have s56 : Same H5 (upd H5 T9 (.tup [vN a, vN b])) := same_new hT9
      have h6a := s56 _ _ h5a
      have h6l := s56 _ _ h5l
      have w56 := wo_mono (M := [ad, al]) s56
      have ka6 := ka.mono w56
      have T9a : T9 ≠ ad := (ne_of_none h5a hT9).symm
      have T9l : T9 ≠ al := (ne_of_none h5l hT9).symm
      have dk : Dp K (Wo [ad, al] (upd H5 T9 (.tup [vN a, vN b]))) (.ref T9) (dP (a, b)) := dp_t (ns := [a, b]) (SqT.of (by rw [wo_out (by simp [T9a, T9l])]; exact upd_same))
      have htk : addAll mt ((nxP L R S x).take (i + 1)) = addAll mt ((nxP L R S x).take i ++ [(a, b)]) := by rw [take_snoc hy]
      have hmem : ∀ p ∈ addAll mt ((nxP L R S x).take (i + 1)), Met L R S p := fun p hp => by
        rcases mem_addAll.mp hp with hp | hp
        · exact hMet p hp
        · exact (hMet x xmt).next (List.mem_of_mem_take hp)
      have hnd : (addAll mt ((nxP L R S x).take (i + 1))).Nodup := addAll_nodup D.nodup
      have hle := hB hnd hmem
      have hpre := (addAll_prefix mt ((nxP L R S x).take i)).length_le
      have hnd0 : (addAll mt ((nxP L R S x).take i)).Nodup := addAll_nodup D.nodup
      have hle0 := hB hnd0 fun p hp => by
        rcases mem_addAll.mp hp with hp | hp
        · exact hMet p hp
        · exact (hMet x xmt).next (List.mem_of_mem_take hp)
      have les : es.length = (addAll mt ((nxP L R S x).take i)).length := by rw [← ek, List.length_map]
      have lls : ls.length = lf0.length + ((addAll mt ((nxP L R S x).take i)).length - mt.length) := by rw [dls.length, List.length_map, List.length_append, List.length_drop]
      refine ⟨_, rfl, _, rfl, ad, es, T9, (a, b), rfl, rfl, h6a, ka6.mono (wo_same _ _), by rw [kP_dk]; exact dp_mono (wo_same _ _) dk, _, rfl, ?_⟩
      rw [ek]
      by_cases hin : (a, b) ∈ addAll mt ((nxP L R S x).take i)
      · refine ifF (by simp [hin]) ⟨_, rfl, ?_⟩
        rw [htk, addAll_snoc, if_pos hin]
        exact ⟨es, ls, Same.trans s5 w56, h6a, h6l, ka6, ek, dpAll_mono w56 dls⟩
      · refine ifT (by simp [hin]) ⟨_, rfl, _, rfl, ad, es, T9, (a, b), rfl, rfl, h6a, ka6.mono (wo_same _ _), by rw [kP_dk]; exact dp_mono (wo_same _ _) dk, by rw [ek]; exact hin, Nat.lt_of_le_of_lt (show es.length ≤ 600 by omega) (by decide), ?_⟩
        refine ⟨_, rfl, .inl ⟨rfl, _, SqL.of ((upd_ne adl.symm).trans h6l)⟩, _, rfl, al, ls, _, rfl, rfl, (upd_ne adl.symm).trans h6l, Nat.lt_of_le_of_lt (show ls.length ≤ 1200 by omega) (by decide), _, rfl, ?_⟩
        rw [htk, addAll_snoc, if_neg hin]
        refine ⟨es ++ [((a, b), T9, .bl true)], ls ++ [.ref T9], ?_, (upd_ne adl).trans upd_same, upd_same, ?_, by rw [List.map_append, ek]; rfl, ?_⟩
        · rw [wo_upd (by simp), wo_upd (by simp)]; exact Same.trans s5 w56
        · rw [wo_upd (by simp), wo_upd (by simp)]; exact ka6.snoc (by rw [kP_dk]; exact dk)
        · rw [wo_upd (by simp), wo_upd (by simp), List.drop_append_of_le_length hpre, ← List.append_assoc, List.map_append]
          exact (dpAll_mono w56 dls).snoc dk
    · rintro σ H5 ⟨x7, rfl, hW⟩
      have e : (nxP L R S x).take L = nxP L R S x := List.take_of_length_le (Nat.le_of_eq nxP_len)
      rw [e] at hW
      have hmem : ∀ p ∈ addAll mt (nxP L R S x), Met L R S p := fun p hp => by
        rcases mem_addAll.mp hp with hp | hp
        · exact hMet p hp
        · exact (hMet x xmt).next hp
      have hle := hB (addAll_nodup (xs := nxP L R S x) D.nodup) hmem
      have hpre := (addAll_prefix mt (nxP L R S x)).length_le
      refine ⟨_, ?_, _, _, _, _, _, rfl, rfl, hW, D.turn⟩
      rw [List.length_append, List.length_append, List.length_drop, List.length_singleton]
      omega
abbrev s_want_lot : Stmt := top 61
abbrev N_want_lot : List Str := ["table", "value", "found"]
theorem sc_want_lot : FnScope N_want_lot ["table", "value"] (defScope s_want_lot) := ⟨rfl, rfl, rfl, by decide +kernel, rfl, by decide +kernel, by decide +kernel⟩
theorem ok_want_lot (T : Tx K mg CM CT) (D : DefAt K mg "want_lot" s_want_lot) (c_lot_in : Cal P w K mg base 4 "lot_in" ["table", "value"] (spLotIn K CM CT)) : Cal P w K mg base 5 "want_lot" ["table", "value"] (spLotIn K CM CT) := by
  refine cal_of D sc_want_lot (fun _ _ _ _ _ _ us hl => match us, hl with | [_, _], _ => rfl) (fun vs H Q E h => ?_) (fun f cdv A outer s H vs Q E hr h => ?_)
  · obtain ⟨_, _, _, _, _, _, _, _, rfl, _⟩ := h
    rfl
  have hu := hu_of hr
  obtain ⟨t, kd, lv, L, ms, Ms, C, lot, rfl, hT, hlv, nd, hlt, k⟩ := h
  refine ⟨_, (pss_cons (ps_set (i := 2) sc_want_lot.nd rfl (Or.inl rfl) (pe_c c_lot_in hr (by decide) rfl (pa_cons (pv 0) (pa_cons (pv 1) pa_nil))))
  (pss_cons (ps_if (pt_cmpR op_isN (pv 2) pe_non (nomark _)) (pss_one ps_never) pss_nil)
  (pss_one (ps_ret (pv 2))))), ?_⟩
  exact ⟨_, rfl, _, rfl, t, kd, lv, L, ms, Ms, C, lot, rfl, hT, hlv, nd, hlt, fun H1 p lot' s1 hp h1 up hm => ⟨_, rfl, rfl, _, rfl, ifF rfl ⟨_, rfl, k H1 p lot' s1 hp h1 up hm⟩⟩⟩
abbrev s_widened : Stmt := top 65
abbrev N_widened : List Str := ["table", "machine", "told", "far"]
theorem sc_widened : FnScope N_widened ["table", "machine"] (defScope s_widened) := ⟨rfl, rfl, rfl, by decide +kernel, rfl, by decide +kernel, by decide +kernel⟩
theorem ok_widened (T : Tx K mg CM CT) (D : DefAt K mg "widened" s_widened) (c_want_table : Cal P w K mg base 1 "want_table" ["value"] (spWantTable CT)) (c_want_machine : Cal P w K mg base 1 "want_machine" ["value"] (spWantMachine CM)) (c_want_like_table : Cal P w K mg base 1 "want_like_table" ["table", "machine"] (spWantLike K CM CT)) (c_widened_lot : Cal P w K mg base 4 "widened_lot" ["table", "machine"] (spWide K CM CT)) : Cal P w K mg base 5 "widened" ["table", "machine"] (spWide K CM CT) := by
  refine cal_of D sc_widened (fun _ _ _ _ _ _ us hl => match us, hl with | [_, _], _ => rfl) (fun vs H Q E h => ?_) (fun f cdv A outer s H vs Q E hr h => ?_)
  · obtain ⟨_, _, _, _, _, _, _, _, _, _, rfl, _⟩ := h
    rfl
  have hu := hu_of hr
  obtain ⟨t, kd, m, N, L, ms, Ms, C, S, E, rfl, hN, hT, hM, hS, k⟩ := h
  refine ⟨_, (pss_cons (ps_set (i := 2) sc_widened.nd rfl (Or.inl rfl) (pe_c c_want_table hr (by decide) rfl (pa_cons (pv 0) pa_nil)))
  (pss_cons (ps_set (i := 3) sc_widened.nd rfl (Or.inl rfl) (pe_c c_want_machine hr (by decide) rfl (pa_cons (pv 1) pa_nil)))
  (pss_cons (ps_expr (pe_c c_want_like_table hr (by decide) rfl (pa_cons (pv 2) (pa_cons (pv 3) pa_nil))))
  (pss_one (ps_ret (pe_c c_widened_lot hr (by decide) rfl (pa_cons (pv 2) (pa_cons (pv 3) pa_nil)))))))), ?_⟩
  have hT0 := hT.mono (wo_same _ _)
  obtain ⟨dx, lm, wa, wc', p, ws, kvs, h1, _⟩ := id hT0
  obtain ⟨dm, a, b, g1, _⟩ := id hM
  exact ⟨_, rfl, t, dx, _, rfl, wo_same _ _ _ _ h1, _, rfl, m, dm, _, rfl, g1, _, rfl, _, rfl, t, kd, m, L, ms, Ms, C, S, E, rfl, hT0, hM, _, rfl, _, rfl, t, kd, m, N, L, ms, Ms, C, S, E, rfl, hN, hT, hM, hS, k⟩
def spLotM (K : PySem.W.Frag) (CM CT : Addr) : Sp := fun vs H Q _ => ∃ (t kd lv : Addr) (N : List Addr) (L : Nat) (ms : List Addr) (Ms : List Mach) (C : List Change) (lot : List Nat), vs = [.ref t, .ref lv] ∧ (∀ b ∈ N, H b ≠ none) ∧ TAt K CM CT (Wo N H) t kd L ms Ms C ∧ H lv = some (.lst (lot.map vN)) ∧ lot.Nodup ∧ (∀ c ∈ lot, c < C.length) ∧
  ∀ (H' : Hp) (m : Addr) (Tt : Steps) (F : List Nat), Same (Wo [kd] H) (Wo [kd] H') → TAt K CM CT (Wo N H') t kd L ms Ms C → H m = none → MAt K CM H' m L Tt F → SameLang L (rowsC L Ms C) lot Tt F → Q (.ref m) H'
abbrev s_machine_of_lot : Stmt := top 64
abbrev N_machine_of_lot : List Str := ["table", "lot"]
theorem sc_machine_of_lot : FnScope N_machine_of_lot ["table", "lot"] (defScope s_machine_of_lot) := ⟨rfl, rfl, rfl, by decide +kernel, rfl, by decide +kernel, by decide +kernel⟩
theorem ok_machine_of_lot (T : Tx K mg CM CT) (D : DefAt K mg "machine_of_lot" s_machine_of_lot) (c_least : Cal P w K mg base 6 "least" ["letters", "steps", "ends"] (spLeast1 K CM)) (c_class_row : Cal P w K mg base 3 "class_row" ["table"] (spRow K CM CT)) : Cal P w K mg base 7 "machine_of_lot" ["table", "lot"] (spLotM K CM CT) := by
  refine cal_of D sc_machine_of_lot (fun _ _ _ _ _ _ us hl => match us, hl with | [_, _], _ => rfl) (fun vs H Q E h => ?_) (fun f cdv A outer s H vs Q E hr h => ?_)
  · obtain ⟨_, _, _, _, _, _, _, _, _, rfl, _⟩ := h
    rfl
  have hu := hu_of hr
  obtain ⟨t, kd, lv, N, L, ms, Ms, C, lot, rfl, hN, hT, hlv, nd, hlt, k⟩ := h
  refine ⟨_, (pss_one (ps_ret (pe_c c_least hr (by decide) rfl (pa_cons (pe_fldK K (pv 0) rfl) (pa_cons (pe_c c_class_row hr (by decide) rfl (pa_cons (pv 0) pa_nil)) (pa_cons (pv 1) pa_nil)))))), ?_⟩
  have hT0 := hT.mono (wo_same _ _)
  obtain ⟨dx, lm, wa, wc', p, ws, kvs, h1, _, _, _, _, _, hk, _, Z, hC10, hL0, hL2, _⟩ := id hT0
  have lvk : lv ≠ kd := fun e => by rw [e, hk] at hlv; cases hlv
  refine ⟨_, rfl, t, CT, dx, _, _, rfl, wo_same _ _ _ _ h1, T.iT.cl, T.tL, tfs_L _ _ _ _ _ _, _, rfl, t, kd, N, L, ms, Ms, C, rfl, hN, hT, fun H1 rv w1 hT1 dr => ?_⟩
  obtain ⟨_, _, _, _, _, _, kvs1, _, _, _, _, _, _, hk1, _⟩ := hT1.mono (wo_same _ _)
  have h1lv := wo_at w1 hlv fun z => lvk (List.mem_singleton.mp z)
  refine ⟨_, rfl, L, rv, .ref lv, rowsC L Ms C, lot, rfl, dp_mono wo2_same dr, dp_l (SqL.of h1lv), Z.whole, hL0, by omega, by rw [rowsC_length]; omega, nd, by have := nodup_bound nd hlt; omega, fun H2 m Tt F s2 hm hM sl => ?_⟩
  exact k H2 m Tt F (Same.trans w1 (wo_mono s2)) (hT1.mono (wo_mono s2)) (none_back w1 hk (by rw [hk1]; exact fun z => nomatch z) hm) hM sl
def spLotMachine (K : PySem.W.Frag) (CM CT : Addr) : Sp := fun vs H Q _ => ∃ (t kd lv : Addr) (N : List Addr) (L : Nat) (ms : List Addr) (Ms : List Mach) (C : List Change) (lot : List Nat), vs = [.ref t, .ref lv] ∧ (∀ b ∈ N, H b ≠ none) ∧ TAt K CM CT (Wo N H) t kd L ms Ms C ∧ (SqL K H lv (lot.map vN) ∨ SqT K H lv (lot.map vN)) ∧ lot.Nodup ∧ (∀ c ∈ lot, c < C.length) ∧
  ∀ (H' : Hp) (m : Addr) (Tt : Steps) (F : List Nat), Same (Wo [kd] H) (Wo [kd] H') → TAt K CM CT (Wo N H') t kd L ms Ms C → H m = none → MAt K CM H' m L Tt F → SameLang L (rowsC L Ms C) lot Tt F → Q (.ref m) H'
abbrev s_lot_machine : Stmt := top 66
abbrev N_lot_machine : List Str := ["table", "lot", "told"]
theorem sc_lot_machine : FnScope N_lot_machine ["table", "lot"] (defScope s_lot_machine) := ⟨rfl, rfl, rfl, by decide +kernel, rfl, by decide +kernel, by decide +kernel⟩
theorem ok_lot_machine (T : Tx K mg CM CT) (D : DefAt K mg "lot_machine" s_lot_machine) (c_want_table : Cal P w K mg base 1 "want_table" ["value"] (spWantTable CT)) (c_machine_of_lot : Cal P w K mg base 7 "machine_of_lot" ["table", "lot"] (spLotM K CM CT)) (c_want_lot : Cal P w K mg base 5 "want_lot" ["table", "value"] (spLotIn K CM CT)) : Cal P w K mg base 8 "lot_machine" ["table", "lot"] (spLotMachine K CM CT) := by
  refine cal_of D sc_lot_machine (fun _ _ _ _ _ _ us hl => match us, hl with | [_, _], _ => rfl) (fun vs H Q E h => ?_) (fun f cdv A outer s H vs Q E hr h => ?_)
  · obtain ⟨_, _, _, _, _, _, _, _, _, rfl, _⟩ := h
    rfl
  have hu := hu_of hr
  obtain ⟨t, kd, lv, N, L, ms, Ms, C, lot, rfl, hN, hT, hlv, nd, hlt, k⟩ := h
  refine ⟨_, (pss_cons (ps_set (i := 2) sc_lot_machine.nd rfl (Or.inl rfl) (pe_c c_want_table hr (by decide) rfl (pa_cons (pv 0) pa_nil)))
  (pss_one (ps_ret (pe_c c_machine_of_lot hr (by decide) rfl (pa_cons (pv 2) (pa_cons (pe_c c_want_lot hr (by decide) rfl (pa_cons (pv 2) (pa_cons (pv 1) pa_nil))) pa_nil)))))), ?_⟩
  have hT0 := hT.mono (wo_same _ _)
  obtain ⟨dx, lm, wa, wc', p, ws, kvs, h1, _, _, _, _, _, hk, _⟩ := id hT0
  refine ⟨_, rfl, t, dx, _, rfl, wo_same _ _ _ _ h1, _, rfl, _, rfl, _, rfl, t, kd, lv, L, ms, Ms, C, lot, rfl, hT0, hlv, nd, hlt, fun H1 q lot' s1 hq h1q up hm => ?_⟩
  have nd' : lot'.Nodup := up.nodup
  refine ⟨t, kd, q, N, L, ms, Ms, C, lot', rfl, fun b hb => ?_, hT.mono (wo_mono s1), h1q, nd', fun c hc => hlt c ((hm c).mp hc), fun H2 m Tt F w2 hT2 hmn hM sl => ?_⟩
  · obtain ⟨o, ho⟩ := Option.ne_none_iff_exists'.mp (hN b hb)
    rw [s1 _ _ ho]
    exact fun z => nomatch z
  · refine k H2 m Tt F (Same.trans (wo_mono s1) w2) hT2 (Same.free s1 hmn) hM fun x hx => ?_
    rw [← sl x hx, hm]
end
end M22

set_option maxRecDepth 100000
set_option maxHeartbeats 4000000
/-! k22: own rules: a lambda with parameters, handed on and called by a local name. -/
namespace M22
open PySem PySem.Spec PyProof.Rows L2 LamX NdefX
/-- the object at f is this lambda -/
def LamO (f : Addr) (q : Str) (ps : Arguments) (body : Expr) (sc : Scope) (c' : Addr) : HO := .ext fun h => ∃ pm ctv : Value, h.get? f = some (PySem.W.kla_obj "<lambda>" q ps body sc [] pm c' ctv)
theorem lamO_at {P : Program} {w : World} {H : Hp} {h : Heap} {f c' : Addr} {q : Str} {ps : Arguments} {body : Expr} {sc : Scope} (hok : HOk P w H h) (e : H f = some (LamO f q ps body sc c')) : ∃ pm ctv : Value, h.get? f = some (PySem.W.kla_obj "<lambda>" q ps body sc [] pm c' ctv) := by
  obtain ⟨z, _, _⟩ := hok f _ e
  exact z
section
variable {X : Cx} {pins : List (Addr × Obj)} {σ : L2.St} {H : Hp} {s : Shared} {q : Str} {params : Arguments} {body : Expr} {scope : Scope}
theorem inv_lam {c' : Addr} {pm ctv : Value} (I : Inv X pins σ H s) : Inv X pins σ (upd H s.heap.objs.size (LamO s.heap.objs.size q params body scope c')) { s with heap := s.heap.push (PySem.W.kla_obj "<lambda>" q params body scope [] pm c' ctv) } := by
  refine I.laid (a := s.heap.objs.size) (t' := s.toks) (fun b u e => Heap.get?_push_of_some _ e) (Nat.le_refl _) ?_
  have e : (s.heap.push (PySem.W.kla_obj "<lambda>" q params body scope [] pm c' ctv)).get? s.heap.objs.size = some (PySem.W.kla_obj "<lambda>" q params body scope [] pm c' ctv) := Heap.get?_push_size _ rfl
  exact ⟨⟨pm, ctv, e⟩, ⟨_, e⟩, fun h1 h2 ⟨p, t, z⟩ st => ⟨p, t, st _ z⟩⟩
/-- what the making of a lambda leaves -/
def tLam2 (P : Addr) (q : Str) (params : Arguments) (body : Expr) (scope : Scope) : TE := fun _ H Q => TabS H P q ∧ ∀ (f c' : Addr) (H1 : Hp), Same (Wo [P] H) (Wo [P] H1) → TabS H1 P q → H f = none → H1 f = some (LamO f q params body scope c') → H1 c' = some (CodeO c' q) → Q (.ref f) H1
theorem pe_lam2 {c P : Addr} {pos : Pos} (TB : TabB X.base X.mg c P) (hcode : X.env.code = .ref c) (hq : X.env.qual ++ "<lambda>" = q) (hdef : defaultsOf params X.env = ([], [])) (hclo : ∀ cells, cloFrom cells scope.names [] = []) (hfree : ∀ y ∈ scope.names, y.2 ≠ .free) :
    PE X (.Lambda params body scope pos) (tLam2 P q params body scope) := by
  refine ⟨fun pins s σ H Q I h => ?_⟩
  obtain ⟨⟨ps, hP, ht, ha⟩, k⟩ := h
  refine PySem.W.kla_eval hdef ?_
  rw [hq]
  have bP : s.heap.BuiltinsAt X.mg P := TB.bm.keeps I.bk
  have hP' : s.heap.get? P = some { cls := .none, data := .fields ps } := I.hok P _ hP
  have hcl : closureFor scope X.env = pure [] := by
    have := closure_ok (env := X.env) (scope := scope) (fun y hy e => absurd e (hfree y hy))
    rw [hclo] at this
    exact this
  cases hc : codeAmong pos ps.toList with
  | none =>
    refine PySem.W.kla_makeFunction (mg := X.mg) (c := c) (P := P) (ps := ps) hcl I.ok.glob (I.mod.glob.keeps I.bk) hcode (TB.code.keeps I.bk) hP' ht hc TB.gP bP fun c' ctv h' tk hx hge hlt hrec htb => ?_
    obtain ⟨c2, oc, vs, t, e2, hoc, hd, hv⟩ := hrec
    cases e2
    have nC : H c' = none := I.hok.fresh hge
    have I1 := inv_table (t' := tk) (more := #[rawInt pos.line, rawInt pos.col, .ref c']) I hP (fun b o hb e => hx b o hb e) htb hge ⟨oc, vs, t, hoc, hd, hv⟩
    have nF := I1.hok.fresh (Nat.le_refl _)
    have nF : upd (upd H P (.tbl (ps ++ #[rawInt pos.line, rawInt pos.col, .ref c']))) c' (CodeO c' q) h'.objs.size = none := nF
    have nPc : P ≠ c' := ne_of_none hP nC
    have nH : H h'.objs.size = none := upd_none (upd_none nF)
    have cf : c' ≠ h'.objs.size := ne_of_none upd_same nF
    have pf : P ≠ h'.objs.size := ne_of_none ((upd_ne nPc).trans upd_same) nF
    have I2 := inv_lam (q := q) (params := params) (body := body) (scope := scope) (c' := c') (pm := (X.mg "__name__").getD .none) (ctv := ctv) I1
    have eL : (ps ++ #[rawInt pos.line, rawInt pos.col, .ref c']).toList = ps.toList ++ [rawInt pos.line, rawInt pos.col, .ref c'] := by simp
    have keep : ∀ b o, H b = some o → b ≠ P → (upd (upd (upd H P (.tbl (ps ++ #[rawInt pos.line, rawInt pos.col, .ref c']))) c' (CodeO c' q)) h'.objs.size (LamO h'.objs.size q params body scope c')) b = some o := fun b o e n => by
      rw [upd_ne (ne_of_none e nH), upd_ne (ne_of_none e nC), upd_ne n]
      exact e
    refine ⟨.ref h'.objs.size, _, I2, rfl, k h'.objs.size c' _ (fun b o e => ?_) ?_ nH upd_same ((upd_ne cf).trans upd_same)⟩
    · obtain ⟨e1, e2⟩ := wo_some e
      rw [wo_out e2]
      exact keep b o e1 fun z => e2 (List.mem_singleton.mpr z)
    · refine ⟨_, (upd_ne pf).trans ((upd_ne nPc).trans upd_same), by rw [eL]; exact PySem.TriplesOk_snoc _ _ _ _ ht, fun p' cv hcv => ?_⟩
      rw [eL] at hcv
      rcases among_app _ ht hcv with z | z
      · obtain ⟨c0, e1, e2⟩ := ha p' cv z
        exact ⟨c0, e1, keep _ _ e2 fun z => by rw [z, hP] at e2; cases e2⟩
      · exact ⟨c', z, (upd_ne cf).trans upd_same⟩
  | some cv =>
    obtain ⟨c', e, hco⟩ := ha pos cv hc
    subst e
    refine PySem.W.kla_makeFunctionHit (mg := X.mg) (c := c) (P := P) (ps := ps) hcl I.ok.glob (I.mod.glob.keeps I.bk) hcode (TB.code.keeps I.bk) hP' ht hc bP fun ctv h' tk hx hsz => ?_
    have I1 : Inv X pins σ H { s with heap := h', toks := tk } := I.kept hx
    have nH : H h'.objs.size = none := I1.hok.fresh (Nat.le_refl _)
    have I2 := inv_lam (q := q) (params := params) (body := body) (scope := scope) (c' := c') (pm := (X.mg "__name__").getD .none) (ctv := ctv) I1
    have s1 : Same H (upd H h'.objs.size (LamO h'.objs.size q params body scope c')) := same_new nH
    exact ⟨.ref h'.objs.size, _, I2, rfl, k h'.objs.size c' _ (wo_mono s1) (TabS.ext ⟨ps, hP, ht, ha⟩ s1) nH upd_same (s1 _ _ hco)⟩
end
/-- its words as a nested def's, for its frame alone -/
abbrev lamNF (q : Str) (params : Arguments) (scope : Scope) (c' : Addr) : NF := ⟨"<lambda>", q, params, [], scope, [], c'⟩
/-- f(..), f a local name that holds such a lambda -/
def tCallLam (i : Nat) (q : Str) (params : Arguments) (body : Expr) (scope : Scope) (sp : Sp) (t : TA) : TE := fun σ H Q => ∃ f c' : Addr, σ[i]? = some (some (.ref f)) ∧ H f = some (LamO f q params body scope c') ∧
  t σ H fun vs H1 => H1 f = some (LamO f q params body scope c') ∧ H1 c' = some (CodeO c' q) ∧ sp vs H1 Q E0
section
variable {X : Cx} {N ps : List Str} {i j k : Nat} {x q : Str} {sp : Sp} {t : TA} {e : Expr} {es : List Expr} {p pos : Pos} {params : Arguments} {body : Expr} {scope : Scope}
theorem pe_callLam (S : NScope N ps [] scope) (hb : ∀ (pm cv ctv : Value) (us : List Value), us.length = ps.length → bindArgs (PySem.W.kla_fn "<lambda>" q params body scope [] pm cv ctv) ⟨us, []⟩ = pure (ps.zip us)) (len : ∀ vs H Q E, sp vs H Q E → vs.length = ps.length)
    (hbody : ∀ (P : Program) (w : World) (K : PySem.W.Frag) (mg : Str → Option Value) (base : Heap) (f c' : Addr) (A : Around) (outer : List Env) (s : Shared) (H : Hp) (vs : List V) (Q : VK) (E : XK), sp vs H Q E → ∃ t, PE (ncx CX0 P w K mg base N (lamNF q params scope c') f A outer s H E) body t ∧ t (startF N vs []) H Q)
    (hr : Room (j + 1) X.A) (hN : X.N[i]? = some x) (hv : Vis X.env.scope x) (ha : PA X (e :: es) t)
    (hd : (x == ("__debug__" : Str)) = false := by decide) (hcd : (x == ("__classdict__" : Str)) = false := by decide)
    (he : starEach (e :: es) X.env = (false, eval e X.env) :: starEach es X.env := by rfl) (hpl : (backTo pos (starEach es X.env)).any (·.1) = false := by rfl) :
    PE X (.Call (.Name x p) (e :: es) [] pos) (tCallLam i q params body scope sp t) := by
  refine ⟨fun pins s σ H Q I h => ?_⟩
  obtain ⟨f, c', hs, hf, ht⟩ := h
  have fa : ∀ {σ : L2.St} {H : Hp} {s : Shared}, Inv X pins σ H s → H f = some (LamO f q params body scope c') → PySem.W.FnAt f s.heap := fun {σ H s} I e => by
    obtain ⟨pm, ctv, ho⟩ := lamO_at I.hok e
    exact ⟨_, _, _, _, ho⟩
  refine wpAny_Call_Name_kw (thn ((pe_var (pos := p) hN hv hd hcd).run pins s σ H (fun v H1 => v = .ref f ∧ H1 = H) I ⟨.ref f, hs, rfl, rfl⟩) fun u s1 ⟨v, H1, I1, r1, q1⟩ => ?_)
  obtain ⟨ev, eH⟩ := q1
  subst ev
  rw [eH] at I1
  obtain rfl : u = Value.ref f := r1
  refine PySem.W.callWith_F (first := []) (fa I1 hf) (thn (ha.run pos pins s1 σ H _ I1 ht) fun us s2 ⟨vs, H2, I2, r, h1, h2, hsp⟩ => ⟨fa I2 h1, ?_⟩) he hpl
  show wpAny _ _ (call (.ref f) us) _ _ _
  have hl := len _ _ _ _ hsp
  obtain ⟨pm, ctv, ho⟩ := lamO_at I2.hok h1
  have e0 := I2.env0
  have lim : s2.heap.NoLimit := e0.mod.nolimit.keeps fun b o e => (e0.bs b o e).1
  have run : codeAny (model X.prog X.w) X.A (.call (.ref f) ⟨us, []⟩) (CR CX0 X.stack X.prog X.w H2 s2 Q E0) s2 := by
    refine PySem.W.kla_callFunE hr.depth ho rfl S.co S.gen rfl (codeO_at e0.hok h2) ?_
    rw [hb _ _ _ us (by rw [← r.length]; exact hl)]
    refine wpAny_pure (wpAny_newFunctionEnv S.nocell (fun ⟨n, _⟩ hy => S.par n (List.of_mem_zip hy).1) (fun h₁ hns hsb => ⟨lim.fresh _ hsb, ?_⟩) S.kind)
    show codeAny _ _ (.expr body (envF (lamNF q params scope c') f s2.heap.objs.size)) _ _
    have kp : ∀ b o, s2.heap.get? b = some o → h₁.get? b = some o := fun b o e => hsb.extBut b o (Nat.ne_of_lt (Heap.lt_size e)) (Heap.get?_push_of_some _ e)
    obtain ⟨t', ht', hq'⟩ := hbody X.prog X.w X.K X.mg X.base f c' X.A X.stack s2 H2 vs Q E0 hsp
    have C : CellsAt ([] : List (Str × Addr)) [] [] s2.heap H2 := ⟨rfl, fun y c h => (by cases h), fun x y c h => (by cases h), fun i y h => (by cases h)⟩
    have J : Inv (ncx CX0 X.prog X.w X.K X.mg X.base N (lamNF q params scope c') f X.A X.stack s2 H2 E0) [] (startF N vs []) H2 { s2 with heap := h₁, toks := s2.toks + (ps.zip us).length } := inv_startN S hr.hd e0 hl r C hns kp
    refine PySem.W.kla_codeExpr (wpAny_mono (ht'.run [] _ _ H2 Q J hq') (fun v s' hz => ?_) fun e s' hz => hz)
    obtain ⟨w', H', J', rv, z⟩ := hz
    exact ⟨w', H', J'.os, J'.bare, J'.base, J'.hok, rv, z⟩
  refine wpAny_call (codeAny_mono run fun r s' hz => ?_)
  cases r with
  | error e => exact hz.elim
  | ok fl =>
    cases fl with
    | ret u => exact I2.after hz
    | next => exact False.elim hz
    | brk => exact False.elim hz
    | cont => exact False.elim hz
end
end M22

set_option maxRecDepth 100000
set_option maxHeartbeats 4000000
namespace M22
open PySem PySem.Spec PyProof.Rows L2 LamX NdefX
/-! ### the lambda of within_of -/
def lamE : Expr := match defBody (top 69) with | [.Return (some (.Compare (.Call _ [_, _, l] _ _) _ _ _)) _] => l | _ => .Name "" ⟨0, 0, 0, 0⟩
def lamArgs : Arguments := match lamE with | .Lambda p _ _ _ => p | _ => defArgs (top 69)
def lamBody : Expr := match lamE with | .Lambda _ b _ _ => b | _ => lamE
def lamScope : Scope := match lamE with | .Lambda _ _ s _ => s | _ => defScope (top 69)
abbrev lamQ : Str := "within_of.<locals>.<lambda>"
abbrev lamN : List Str := ["near", "far"]
theorem lamS : NScope lamN lamN [] lamScope := nscope_by (by decide +kernel)
def spLam : Sp := fun vs H Q _ => ∃ a b : Bool, vs = [.bl a, .bl b] ∧ Q (.bl (a && !b)) H
theorem lam_len : ∀ vs H Q E, spLam vs H Q E → vs.length = lamN.length := fun vs H Q E ⟨a, b, e, _⟩ => by rw [e]; rfl
theorem lam_body : ∀ (P : Program) (w : World) (K : PySem.W.Frag) (mg : Str → Option Value) (base : Heap) (f c' : Addr) (A : Around) (outer : List Env) (s : Shared) (H : Hp) (vs : List V) (Q : VK) (E : XK), spLam vs H Q E → ∃ t, PE (ncx CX0 P w K mg base lamN (lamNF lamQ lamArgs lamScope c') f A outer s H E) lamBody t ∧ t (startF lamN vs []) H Q := by
  intro P w K mg base f c' A outer s H vs Q E h
  obtain ⟨a, b, rfl, h⟩ := h
  refine ⟨_, pe_and (pe_var (i := 0) rfl (Or.inl rfl)) (pe_one (pe_not (pe_var (i := 1) rfl (Or.inl rfl)))), ?_⟩
  cases a with
  | true => exact ⟨_, rfl, true, rfl, _, rfl, b, rfl, h⟩
  | false => exact ⟨_, rfl, false, rfl, h⟩
theorem abc4_at {i : Nat} (h : i < 3) : ∃ c, atI (Str.ofString "abc").cps.toList (i : Int) = some c := by
  rcases i with _ | _ | _ | i
  · exact ⟨97, by decide +kernel⟩
  · exact ⟨98, by decide +kernel⟩
  · exact ⟨99, by decide +kernel⟩
  · omega
/-! ### a def whose code object is known -/
structure DefAtC (K : PySem.W.Frag) (mg : Str → Option Value) (x : Str) (st : Stmt) (c : Addr) : Prop where
  ex : ∃ (f : Addr) (oc : Value) (od : Option Addr) (kV doc pm : Value) (an : Option Addr) (ct : Value) (osl : Array (Option Value)),
    K.lookup f = some ⟨oc, od, .func (PySem.W.fnOf x x (defArgs st) (defBody st) (defScope st) .none kV doc pm an (.ref c) ct), osl⟩ ∧ PySem.W.codeIn K (.ref c) x = true ∧ PySem.W.keepIn K (.ref f) = true ∧ mg x = some (.ref f)
section
variable {P : Program} {w : World} {K : PySem.W.Frag} {mg : Str → Option Value} {base : Heap} {CM CT : Addr}
theorem cal_ofC {x : Str} {st : Stmt} {N ps : List Str} {k : Nat} {sp : Sp} {c : Addr} (D : DefAtC K mg x st c) (S : FnScope N ps (defScope st)) (b : BindOk x x st ps) (len : ∀ vs H Q E, sp vs H Q E → vs.length = ps.length)
    (hbody : ∀ (f : Addr) (A : Around) (outer : List Env) (s : Shared) (H : Hp) (vs : List V) (Q : VK) (E : XK), Room k (A.deeper (envOfC x (defScope st) s.heap.objs.size f (.ref c))) → sp vs H Q E →
      ∃ t, PSs (cxOf CX0 P w K mg base N x (defScope st) f (.ref c) A outer s H E).nox (defBody st) t ∧ t { nx := fun _ H' => Q .non H', rt := Q } (start N vs) H) : Cal P w K mg base (k + 1) x ps sp := by
  obtain ⟨f, oc, od, kV, doc, pm, an, ct, osl, lk, hcd, kp, hm⟩ := D.ex
  refine ⟨f, _, fn_of lk hcd S len fun A outer s H vs Q E hr hsp => ?_, hm, kp, .all (b kV doc pm an (.ref c) ct), oc, od, osl, lk⟩
  obtain ⟨t, h, q⟩ := hbody f A outer s H vs Q E hr hsp
  exact ⟨t, h.nox, q⟩
def spApart (K : PySem.W.Frag) (CM : Addr) : Sp := fun vs H Q _ => ∃ (m o f c' : Addr) (L : Nat) (S S2 : Steps) (E E2 : List Nat), vs = [.ref m, .ref o, .ref f] ∧ MAt K CM H m L S E ∧ MAt K CM H o L S2 E2 ∧ H f = some (LamO f lamQ lamArgs lamBody lamScope c') ∧ H c' = some (CodeO c' lamQ) ∧
  S.length * S2.length ≤ 600 ∧ L ≤ 3 ∧ (∀ wd, Wd L wd → run S 0 wd ∈ E → run S2 0 wd ∈ E2) ∧ ∀ H', Same H H' → Q .non H'
abbrev s_first_apart : Stmt := top 68
abbrev N_first_apart : List Str := ["machine", "other", "is_so", "found", "met", "at", "near", "far", "word", "letter", "key"]
theorem sc_first_apart : FnScope N_first_apart ["machine", "other", "is_so"] (defScope s_first_apart) := ⟨rfl, rfl, rfl, by decide +kernel, rfl, by decide +kernel, by decide +kernel⟩
theorem ok_first_apart (T : Tx K mg CM CT) (D : DefAt K mg "first_apart" s_first_apart) (c_is_end : Cal P w K mg base 1 "is_end" ["machine", "state"] (spIsEnd K CM)) : Cal P w K mg base 2 "first_apart" ["machine", "other", "is_so"] (spApart K CM) := by
  refine cal_of D sc_first_apart (fun _ _ _ _ _ _ us hl => match us, hl with | [_, _, _], _ => rfl) (fun vs H Q E h => ?_) (fun f cdv A outer s H vs Q E hr h => ?_)
  · obtain ⟨_, _, _, _, _, _, _, _, _, rfl, _⟩ := h
    rfl
  have hu := hu_of hr
  obtain ⟨m, o, f, c', L, S, S2, E, E2, rfl, hm, ho, hf, hc', hB6, hL3, hin, k⟩ := h
  refine ⟨_, (pss_cons (ps_par3 (i := 3) (j := 4) (l := 5) rfl sc_first_apart.nd rfl rfl rfl (by decide) (by decide) (by decide) rfl rfl rfl (pa_cons (pe_lst (pa_cons (pe_tup (pa_cons pe_int (pa_cons pe_int (pa_cons pe_str pa_nil)))) pa_nil)) (pa_cons (pe_dispN (T := kP) (hu_64 hr) (pps_cons (pe_tup (pa_cons pe_int (pa_cons pe_int pa_nil))) pe_bl pps_nil) (by rfl) (by rfl) (fun z => by cases z) (by decide)) (pa_cons pe_int pa_nil))) (by rfl))
  (pss_cons (ps_while PassesOwn.never (pt_cmpR op_lt (pv 5) (pe_callB (call_lenK K) (by rfl) T.len PySem.boot_len (pa_cons (pv 3) pa_nil)) (nomark _)) (pss_cons (ps_asg (pe_ix (ix_listK K) (pv 3) (pv 5) (fun _ _ => rfl)) (pg_tupK K (n := 3) rfl (pgs_cons (pg_name (i := 6) sc_first_apart.nd rfl (Or.inl rfl)) (pgs_cons (pg_name (i := 7) sc_first_apart.nd rfl (Or.inl rfl)) (pgs_cons (pg_name (i := 8) sc_first_apart.nd rfl (Or.inl rfl)) pgs_nil)))))
    (pss_cons (ps_if (pt_val (pe_callLam (j := 0) (i := 2) lamS (fun _ _ _ us hl => match us, hl with | [_, _], _ => rfl) lam_len lam_body (hr.mono (by decide)) rfl (by exact Or.inl rfl) (pa_cons (pe_c c_is_end hr (by decide) rfl (pa_cons (pv 0) (pa_cons (pv 6) pa_nil))) (pa_cons (pe_c c_is_end hr (by decide) rfl (pa_cons (pv 1) (pa_cons (pv 7) pa_nil))) pa_nil)))) (pss_one (ps_ret (pv 8))) pss_nil)
    (pss_cons (ps_for PassesOwn.never rfl (pi_range1 rfl T.range (pa_cons (pe_fldK K (pv 0) rfl) pa_nil)) (pg_name (i := 9) sc_first_apart.nd rfl (Or.inl rfl)) (pss_cons (ps_set (i := 10) sc_first_apart.nd rfl (Or.inl rfl) (pe_tup (pa_cons (pe_ix (ix_tupK K) (pe_ix (ix_tupK K) (pe_fldK K (pv 0) rfl) (pv 6) (fun _ _ => rfl)) (pv 9) (fun _ _ => rfl)) (pa_cons (pe_ix (ix_tupK K) (pe_ix (ix_tupK K) (pe_fldK K (pv 1) rfl) (pv 7) (fun _ _ => rfl)) (pv 9) (fun _ _ => rfl)) pa_nil))))
      (pss_one (ps_if (pt_cmpR (op_notInN (T := kP) (hu_64 hr)) (pv 10) (pv 4) (by rfl)) (pss_cons (ps_asg pe_bl (pg_sub (pv 4) (pv 10) (set_N (T := kP) (hu_64 hr))))
        (pss_one (ps_expr (pe_bmK K PySem.F.plainAttrs_list PySem.F.slot_list_append PySem.F.type_list_append mt_append (pv 3) (pa_cons (pe_tup (pa_cons (pe_ix (ix_tupK K) (pv 10) pe_int (fun _ _ => rfl)) (pa_cons (pe_ix (ix_tupK K) (pv 10) pe_int (fun _ _ => rfl)) (pa_cons (pe_op op_add_str (pv 8) (pe_ix ix_str (pe_g (by rfl) T.SIGNS) (pv 9) (fun _ _ => rfl))) pa_nil)))) pa_nil))))) pss_nil))))
    (pss_one (ps_set (i := 5) sc_first_apart.nd rfl (Or.inl rfl) (pe_op op_add (pv 5) pe_int)))))))
  (pss_one (ps_ret pe_non)))), ?_⟩
  obtain ⟨dm, sm, em, g1, dsm, _, lst1⟩ := id hm
  obtain ⟨do_, so, eo, g2, dso, _, lst2⟩ := id ho
  have W1 := lst1.whole
  have W2 := lst2.whole
  refine ⟨line_le (Nat.le_of_ble_eq_true rfl), fun z0 hz0 => ⟨line_le (Nat.le_of_ble_eq_true rfl), fun af haf => ?_⟩⟩
  intro ad had
  refine ⟨line_le (Nat.le_of_ble_eq_true rfl), fun z1 hz1 => ?_⟩
  have az1 : ad ≠ z1 := fun e => by rw [← e, upd_same] at hz1; cases hz1
  refine ⟨z1, (0, 0), .bl true, rfl, (upd_ne az1).trans upd_same, by rw [kP_dk]; exact dp_t (ns := [0, 0]) (SqT.of upd_same), _, _, _, rfl, ?_⟩
  have z0f : z0 ≠ af := ne_of_none upd_same haf
  have afd : af ≠ ad := ne_of_none upd_same had
  have z0d : z0 ≠ ad := ne_of_none (o := .tup [.int 0, .int 0, .str ""]) ((upd_ne z0f).trans upd_same) had
  have s0 : Same H (upd H z0 (.tup [.int 0, .int 0, .str ""])) := same_new hz0
  have s01 : Same H (upd (upd H z0 (.tup [.int 0, .int 0, .str ""])) af (.lst [.ref z0])) := Same.trans s0 (same_new haf)
  have afH : H af = none := Same.free s0 haf
  have adH : H ad = none := Same.free s01 had
  have z1' : upd (upd H z0 (.tup [.int 0, .int 0, .str ""])) af (.lst [.ref z0]) z1 = none := (upd_ne az1.symm).symm.trans hz1
  have z1f : z1 ≠ af := fun e => by rw [e, upd_same] at z1'; cases z1'
  have z10 : z1 ≠ z0 := fun e => by rw [e, upd_ne z0f, upd_same] at z1'; cases z1'
  have nM : ∀ b ∈ [af, ad], H b = none := fun b hb => by
    rcases List.mem_cons.mp hb with e | hb
    · rw [e]; exact afH
    · rw [List.mem_singleton.mp hb]; exact adH
  have s1M : ∀ {Hx : Hp}, Same H Hx → Same H (Wo [af, ad] Hx) := fun s b o e => by
    rw [wo_out fun z => by rw [nM b z] at e; cases e]
    exact s b o e
  obtain ⟨H2, eH2⟩ : ∃ H2, H2 = upd (upd (upd (upd (upd H z0 (.tup [.int 0, .int 0, .str ""])) af (.lst [.ref z0])) ad (dnO kP P w ad ([] : Ents (Nat × Nat)))) z1 (.tup [.int 0, .int 0])) ad (dnO kP P w ad [((0, 0), z1, .bl true)]) := ⟨_, rfl⟩
  have h2z1 : H2 z1 = some (.tup [.int 0, .int 0]) := by rw [eH2]; exact (upd_ne az1.symm).trans upd_same
  have h2f : H2 af = some (.lst [.ref z0]) := by rw [eH2]; exact (upd_ne afd).trans ((upd_ne z1f.symm).trans ((upd_ne afd).trans upd_same))
  have h2z0 : H2 z0 = some (.tup [.int 0, .int 0, .str ""]) := by rw [eH2]; exact (upd_ne z0d).trans ((upd_ne z10.symm).trans ((upd_ne z0d).trans ((upd_ne z0f).trans upd_same)))
  have h2d : H2 ad = some (dnO kP P w ad [((0, 0), z1, .bl true)]) := by rw [eH2]; exact upd_same
  have s02 : Same H H2 := by
    rw [eH2]
    exact Same.put (Same.trans s01 (Same.trans (same_new had) (same_new hz1))) adH
  -- while at < len(found)
  let WI : List (Nat × Nat) → Hp → Prop := fun fs Hx => ∃ (es : Ents (Nat × Nat)) (us : List V), Same H (Wo [af, ad] Hx) ∧ Hx af = some (.lst us) ∧ Hx ad = some (dnO kP P w ad es) ∧ KeysAt kP K (Wo [af, ad] Hx) es ∧ es.map (·.1) = fs ∧ us.length = fs.length ∧
    ∀ (i : Nat) (p : Nat × Nat) (u : V), fs[i]? = some p → us[i]? = some u → ∃ (t : Addr) (tx : Str), u = .ref t ∧ SqT K (Wo [af, ad] Hx) t [vN p.1, vN p.2, .str tx] ∧ tx.length ≤ i
  refine ⟨fun mm σ Hx => ∃ (fs : List (Nat × Nat)) (n : Nat) (x6 x7 x8 x9 x10 : Option V), σ = [some (.ref m), some (.ref o), some (.ref f), some (.ref af), some (.ref ad), some (vN n), x6, x7, x8, x9, x10] ∧ mm = S.length * S2.length - n ∧ WI fs Hx ∧ Bfs (nxP L S S2) (0, 0) fs n,
    ⟨_, [(0, 0)], 0, none, none, none, none, none, rfl, rfl, ⟨[((0, 0), z1, .bl true)], [.ref z0], (by have h := s1M s02; rw [eH2] at h; exact h), (by have h := h2f; rw [eH2] at h; exact h), (by have h := h2d; rw [eH2] at h; exact h), ?_, rfl, rfl, ?_⟩, .start⟩, ?_⟩
  · intro e he
    rw [List.mem_singleton.mp he, kP_dk]
    have h : Wo [af, ad] H2 z1 = some (.tup [.int 0, .int 0]) := by rw [wo_out (by simp [z1f, az1.symm])]; exact h2z1
    rw [eH2] at h
    exact dp_t (ns := [0, 0]) (SqT.of h)
  · intro i p u hp hu
    have : i = 0 := by have := lt_of_get hp; simp at this; omega
    subst this
    cases hp; cases hu
    have h : Wo [af, ad] H2 z0 = some (.tup [.int 0, .int 0, .str ""]) := by rw [wo_out (by simp [z0f, z0d])]; exact h2z0
    rw [eH2] at h
    exact ⟨z0, "", rfl, SqT.of h, Nat.zero_le _⟩
  clear eH2 h2z1 h2f h2z0 h2d s02 z0f z0d z1f z10 az1 s01 s0 z1' hz1 hz0 had haf
  rintro mm σ H3 ⟨fs, n, x6, x7, x8, x9, x10, rfl, rfl, ⟨es, us, s3, h3f, h3d, ka, ek, lu, ht⟩, b⟩
  have s03 : Same H H3 := Same.trans s3 (wo_same _ _)
  have hMet : ∀ x ∈ fs, Met L S S2 x := b.ind .zero fun x y hx hy => hx.next hy
  have hB : ∀ {l : List (Nat × Nat)}, l.Nodup → (∀ x ∈ l, Met L S S2 x) → l.length ≤ S.length * S2.length := fun nd hm => pairs_few nd fun p hp => (hm p hp).lt W1 W2
  have hfl := hB b.nodup hMet
  refine ⟨_, rfl, _, rfl, af, _, rfl, .inl (SqL.of h3f), _, _, rfl, rfl, _, rfl, ?_⟩
  rcases (Nat.lt_or_ge n us.length).symm with hn | hn
  · exact ifF (decide_eq_false (by omega)) (k H3 s03)
  refine ifT (decide_eq_true (by omega)) ⟨_, fun _ _ z => z, ?_⟩
  obtain ⟨u, hu⟩ := get_some hn
  obtain ⟨x, hx⟩ := get_some (show n < fs.length by omega)
  obtain ⟨t, tx, rfl, qt, ltx⟩ := ht n x u hx hu
  have xm := hMet x (List.mem_of_getElem? hx)
  obtain ⟨y1, y2⟩ := xm.lt W1 W2
  obtain ⟨r1, hr1, hl1, _⟩ := W1.at y1
  obtain ⟨r2, hr2, hl2, _⟩ := W2.at y2
  refine ⟨_, rfl, _, rfl, af, us, _, _, rfl, rfl, SqL.of h3f, atI_nat hu, t, _, rfl, Same.seqT (wo_same _ _) qt, rfl, _, _, rfl, _, _, rfl, _, _, rfl, rfl, ?_⟩
  have hf3 := s03 _ _ hf
  have hc3 := s03 _ _ hc'
  refine ⟨f, c', rfl, hf3, _, rfl, _, rfl, m, L, x.1, S, E, rfl, hm.mono s03, _, rfl, _, rfl, o, L, x.2, S2, E2, rfl, ho.mono s03, hf3, hc3, _, _, rfl, _, rfl, ifF ?_ ?_⟩
  · obtain ⟨wd, hw, e⟩ := xm
    by_cases q : x.1 ∈ E
    · have : x.2 ∈ E2 := by rw [e] at q ⊢; exact hin wd hw q
      simp [q, this]
    · simp [q]
  refine ⟨_, rfl, m, CM, dm, _, _, rfl, s03 _ _ g1, T.iM.cl, T.mL, mfs_L _ _ _, (L : Int), rfl, by omega, by omega, for_it (walk_range (lo := 0) (n := (L : Int).toNat)) (fun i σ Hx => ∃ (x9 x10 : Option V), σ = [some (.ref m), some (.ref o), some (.ref f), some (.ref af), some (.ref ad), some (vN n), some (vN x.1), some (vN x.2), some (.str tx), x9, x10] ∧ WI (addAll fs ((nxP L S S2 x).take i)) Hx)
    ⟨x9, x10, rfl, es, us, s3, h3f, h3d, ka, ek, lu, ht⟩ (fun _ _ _ _ _ => True.intro) ?_ ?_⟩
  · have htx : tx.length + 1 ≤ 1000 := by omega
    clear s3 h3f h3d ka ek lu ht qt s03 hf3 hc3 hfl hn hu
    clear es us
    rintro i xv σ Hq H5 hi ⟨x9, x10, rfl, es, us, s5, h5f, h5d, ka, ek, lu, ht⟩ ⟨rfl, ex⟩
    have ex : xv = vN i := ex.trans item_nat
    subst ex
    have hiL : i < L := by omega
    have s05 : Same H H5 := Same.trans s5 (wo_same _ _)
    obtain ⟨a, hxa⟩ := get_some (show i < r1.length by omega)
    obtain ⟨c, hxc⟩ := get_some (show i < r2.length by omega)
    have hy : (nxP L S S2 x)[i]? = some (a, c) := nxP_get hr1 hr2 hiL hxa hxc
    obtain ⟨lr, xr, crow, rfl, p1, p2, p3⟩ := row_t dsm hr1
    obtain ⟨lt, xt, trow, rfl, o1, o2, o3⟩ := row_t dso hr2
    refine ⟨_, rfl, m, CM, dm, _, _, rfl, s05 _ _ g1, T.iM.cl, T.mS, mfs_S _ _ _, _, rfl, lr, xr, _, _, rfl, rfl, Same.seqT s05 p1, p2, _, rfl, crow, _, _, _, rfl, rfl, Same.seqT s05 p3, at_num hxa,
      _, rfl, o, CM, do_, _, _, rfl, s05 _ _ g2, T.iM.cl, T.mS, mfs_S _ _ _, _, rfl, lt, xt, _, _, rfl, rfl, Same.seqT s05 o1, o2, _, rfl, trow, _, _, _, rfl, rfl, Same.seqT s05 o3, at_num hxc, line_le (Nat.le_of_ble_eq_true rfl), fun T9 hT9 => ?_⟩
    have s56 : Same H5 (upd H5 T9 (.tup [vN a, vN c])) := same_new hT9
    have h6f := s56 _ _ h5f
    have h6d := s56 _ _ h5d
    have w56 := wo_mono (M := [af, ad]) s56
    have ka6 := ka.mono w56
    have T9f : T9 ≠ af := (ne_of_none h5f hT9).symm
    have T9d : T9 ≠ ad := (ne_of_none h5d hT9).symm
    have h6T : (upd H5 T9 (.tup [vN a, vN c])) T9 = some (.tup [vN a, vN c]) := upd_same
    generalize upd H5 T9 (.tup [vN a, vN c]) = H6 at s56 h6f h6d w56 ka6 h6T ⊢
    have dk : Dp K (Wo [af, ad] H6) (.ref T9) (dP (a, c)) := dp_t (ns := [a, c]) (SqT.of (by rw [wo_out (by simp [T9f, T9d])]; exact h6T))
    have htk : addAll fs ((nxP L S S2 x).take (i + 1)) = addAll fs ((nxP L S S2 x).take i ++ [(a, c)]) := by rw [take_snoc hy]
    have hle := hB (addAll_nodup (xs := (nxP L S S2 x).take (i + 1)) b.nodup) fun p hp => by
      rcases mem_addAll.mp hp with hp | hp
      · exact hMet p hp
      · exact xm.next (List.mem_of_mem_take hp)
    have hle0 := hB (addAll_nodup (xs := (nxP L S S2 x).take i) b.nodup) fun p hp => by
      rcases mem_addAll.mp hp with hp | hp
      · exact hMet p hp
      · exact xm.next (List.mem_of_mem_take hp)
    have hpre := (addAll_prefix fs ((nxP L S S2 x).take i)).length_le
    have les : es.length = (addAll fs ((nxP L S S2 x).take i)).length := by rw [← ek, List.length_map]
    have ht6 : ∀ (j : Nat) (p : Nat × Nat) (u : V), (addAll fs ((nxP L S S2 x).take i))[j]? = some p → us[j]? = some u → ∃ (t : Addr) (tx : Str), u = .ref t ∧ SqT K (Wo [af, ad] H6) t [vN p.1, vN p.2, .str tx] ∧ tx.length ≤ j := fun j p u h1 h2 => by
      obtain ⟨t, tx, e, q1, q2⟩ := ht j p u h1 h2
      exact ⟨t, tx, e, Same.seqT w56 q1, q2⟩
    refine ⟨_, rfl, _, rfl, ad, es, T9, (a, c), rfl, rfl, h6d, ka6.mono (wo_same _ _), by rw [kP_dk]; exact dp_mono (wo_same _ _) dk, _, rfl, ?_⟩
    rw [ek]
    by_cases hin2 : (a, c) ∈ addAll fs ((nxP L S S2 x).take i)
    · refine ifF (by simp [hin2]) ⟨_, _, rfl, ?_⟩
      rw [htk, addAll_snoc, if_pos hin2]
      exact ⟨es, us, Same.trans s5 w56, h6f, h6d, ka6, ek, lu, ht6⟩
    refine ifT (by simp [hin2]) ⟨_, rfl, _, rfl, ad, es, T9, (a, c), rfl, rfl, h6d, ka6.mono (wo_same _ _), by rw [kP_dk]; exact dp_mono (wo_same _ _) dk, by rw [ek]; exact hin2, Nat.lt_of_le_of_lt (show es.length ≤ 600 by omega) (by decide), ?_⟩
    obtain ⟨sg, hsg⟩ := abc4_at (show i < 3 by omega)
    have s67 : ∀ y o, y ≠ ad → H6 y = some o → (upd H6 ad (dnO kP P w ad (es ++ [((a, c), T9, .bl true)]))) y = some o := fun y o n e => (upd_ne n).trans e
    have h7f := s67 _ _ afd h6f
    have h7T := s67 _ _ T9d h6T
    have h7d : (upd H6 ad (dnO kP P w ad (es ++ [((a, c), T9, .bl true)]))) ad = some (dnO kP P w ad (es ++ [((a, c), T9, .bl true)])) := upd_same
    have w67 : Wo [af, ad] (upd H6 ad (dnO kP P w ad (es ++ [((a, c), T9, .bl true)]))) = Wo [af, ad] H6 := wo_upd (by simp)
    refine ⟨_, rfl, .inl ⟨rfl, _, SqL.of h7f⟩, _, rfl, T9, _, _, _, rfl, rfl, SqT.of h7T, atI_nat (j := 0) rfl, _, rfl, T9, _, _, _, rfl, rfl, SqT.of h7T, atI_nat (j := 1) rfl, _, rfl, _, rfl, _, _, _, rfl, rfl, line_le (by show 3 ≤ 1000; decide), hsg, _, _, rfl, rfl, line_le (by show tx.length + 1 ≤ 1000; exact htx), line_le (Nat.le_of_ble_eq_true rfl), fun t9 ht9 => ?_⟩
    have s78 : Same (upd H6 ad (dnO kP P w ad (es ++ [((a, c), T9, .bl true)]))) (upd (upd H6 ad (dnO kP P w ad (es ++ [((a, c), T9, .bl true)]))) t9 (.tup [vN a, vN c, .str (tx ++ ⟨#[sg]⟩)])) := same_new ht9
    have t9f : t9 ≠ af := (ne_of_none h7f ht9).symm
    have t9d : t9 ≠ ad := (ne_of_none h7d ht9).symm
    have w78 := wo_mono (M := [af, ad]) s78
    rw [w67] at w78
    refine ⟨af, us, _, rfl, rfl, s78 _ _ h7f, Nat.lt_of_le_of_lt (show us.length ≤ 600 by omega) (by decide), _, _, rfl, ?_⟩
    rw [htk, addAll_snoc, if_neg hin2]
    refine ⟨es ++ [((a, c), T9, .bl true)], us ++ [.ref t9], ?_, upd_same, (upd_ne afd.symm).trans (s78 _ _ h7d), ?_, by rw [List.map_append, ek]; rfl, by rw [List.length_append, List.length_append, lu]; rfl, fun j p u h1 h2 => ?_⟩
    · rw [wo_upd (by simp)]; exact Same.trans s5 (Same.trans w56 w78)
    · rw [wo_upd (by simp)]; exact (ka6.snoc (by rw [kP_dk]; exact dk)).mono w78
    · rw [wo_upd (by simp)]
      by_cases q : j < us.length
      · rw [List.getElem?_append_left (by omega)] at h1
        rw [List.getElem?_append_left q] at h2
        obtain ⟨t, tx, e, q1, q2⟩ := ht6 j p u h1 h2
        exact ⟨t, tx, e, Same.seqT w78 q1, q2⟩
      · rw [List.getElem?_append_right (by omega)] at h1 h2
        have e0 : j - us.length = 0 := by have := lt_of_get h2; simp at this; omega
        rw [e0] at h2
        rw [show j - (addAll fs ((nxP L S S2 x).take i)).length = 0 by omega] at h1
        cases h1; cases h2
        refine ⟨t9, tx ++ ⟨#[sg]⟩, rfl, SqT.of (by rw [wo_out (by simp [t9f, t9d])]; exact upd_same), ?_⟩
        have e : (tx ++ (⟨#[sg]⟩ : Str)).length = tx.length + 1 := by
          show (tx.cps ++ #[sg]).size = tx.cps.size + 1
          rw [Array.size_append]
          rfl
        rw [e]
        have := lt_of_get hx
        omega
  · rintro σ H4 ⟨x9, x10, rfl, hw⟩
    have e : (nxP L S S2 x).take (L : Int).toNat = nxP L S S2 x := List.take_of_length_le (Nat.le_of_eq nxP_len)
    rw [e] at hw
    exact ⟨_, rfl, _, _, rfl, rfl, S.length * S2.length - (n + 1), by omega, _, n + 1, _, _, _, _, _, rfl, rfl, hw, .turn b hx⟩
def spWLike (K : PySem.W.Frag) (CM : Addr) : Sp := fun vs H Q _ => ∃ (m o : Addr) (L : Nat) (S S2 : Steps) (E E2 : List Nat), vs = [.ref m, .ref o] ∧ MAt K CM H m L S E ∧ MAt K CM H o L S2 E2 ∧ ∀ H', Same H H' → Q .non H'
abbrev s_want_like : Stmt := top 70
abbrev N_want_like : List Str := ["machine", "other"]
theorem sc_want_like : FnScope N_want_like ["machine", "other"] (defScope s_want_like) := ⟨rfl, rfl, rfl, by decide +kernel, rfl, by decide +kernel, by decide +kernel⟩
theorem ok_want_like (T : Tx K mg CM CT) (D : DefAt K mg "want_like" s_want_like)  : Cal P w K mg base 1 "want_like" ["machine", "other"] (spWLike K CM) := by
  refine cal_of D sc_want_like (fun _ _ _ _ _ _ us hl => match us, hl with | [_, _], _ => rfl) (fun vs H Q E h => ?_) (fun f cdv A outer s H vs Q E hr h => ?_)
  · obtain ⟨_, _, _, _, _, _, _, rfl, _⟩ := h
    rfl
  have hu := hu_of hr
  obtain ⟨m, o, L, S, S2, E, E2, rfl, hm, ho, k⟩ := h
  refine ⟨_, (pss_one (ps_if (pt_cmpR op_ne (pe_fldK K (pv 0) rfl) (pe_fldK K (pv 1) rfl) (nomark _)) (pss_one ps_never) pss_nil)), ?_⟩
  obtain ⟨dm, am, bm, g1, _⟩ := id hm
  obtain ⟨do_, ao, bo, g2, _⟩ := id ho
  exact ⟨_, rfl, m, CM, dm, _, _, rfl, g1, T.iM.cl, T.mL, mfs_L _ _ _, _, rfl, o, CM, do_, _, _, rfl, g2, T.iM.cl, T.mL, mfs_L _ _ _, rfl, _, rfl, ifF (by simp) (k H fun _ _ z => z)⟩
abbrev s_want_two : Stmt := top 71
abbrev N_want_two : List Str := ["machine", "other"]
theorem sc_want_two : FnScope N_want_two ["machine", "other"] (defScope s_want_two) := ⟨rfl, rfl, rfl, by decide +kernel, rfl, by decide +kernel, by decide +kernel⟩
theorem ok_want_two (T : Tx K mg CM CT) (D : DefAt K mg "want_two" s_want_two) (c_want_machine : Cal P w K mg base 1 "want_machine" ["value"] (spWantMachine CM)) (c_want_like : Cal P w K mg base 1 "want_like" ["machine", "other"] (spWLike K CM)) : Cal P w K mg base 2 "want_two" ["machine", "other"] (spWLike K CM) := by
  refine cal_of D sc_want_two (fun _ _ _ _ _ _ us hl => match us, hl with | [_, _], _ => rfl) (fun vs H Q E h => ?_) (fun f cdv A outer s H vs Q E hr h => ?_)
  · obtain ⟨_, _, _, _, _, _, _, rfl, _⟩ := h
    rfl
  have hu := hu_of hr
  obtain ⟨m, o, L, S, S2, E, E2, rfl, hm, ho, k⟩ := h
  refine ⟨_, (pss_cons (ps_expr (pe_c c_want_machine hr (by decide) rfl (pa_cons (pv 0) pa_nil)))
  (pss_cons (ps_expr (pe_c c_want_machine hr (by decide) rfl (pa_cons (pv 1) pa_nil)))
  (pss_one (ps_expr (pe_c c_want_like hr (by decide) rfl (pa_cons (pv 0) (pa_cons (pv 1) pa_nil))))))), ?_⟩
  obtain ⟨dm, am, bm, g1, _⟩ := id hm
  obtain ⟨do_, ao, bo, g2, _⟩ := id ho
  exact ⟨_, rfl, m, dm, _, rfl, g1, _, rfl, o, do_, _, rfl, g2, _, rfl, _, rfl, m, o, L, S, S2, E, E2, rfl, hm, ho, k⟩
def spIsW (K : PySem.W.Frag) (CM A : Addr) : Sp := fun vs H Q _ => ∃ (m o : Addr) (L : Nat) (S S2 : Steps) (E E2 : List Nat), vs = [.ref m, .ref o] ∧ MAt K CM H m L S E ∧ MAt K CM H o L S2 E2 ∧ TabS H A lamQ ∧
  S.length * S2.length ≤ 600 ∧ L ≤ 3 ∧ (∀ wd, Wd L wd → run S 0 wd ∈ E → run S2 0 wd ∈ E2) ∧ ∀ H', Same (Wo [A] H) (Wo [A] H') → TabS H' A lamQ → Q (.bl true) H'
variable {AT : Addr}
abbrev s_within_of : Stmt := top 69
abbrev N_within_of : List Str := ["machine", "other"]
theorem sc_within_of : FnScope N_within_of ["machine", "other"] (defScope s_within_of) := ⟨rfl, rfl, rfl, by decide +kernel, rfl, by decide +kernel, by decide +kernel⟩
theorem ok_within_of {cc : Addr} (T : Tx K mg CM CT) (D : DefAtC K mg "within_of" s_within_of cc) (TB : TabB base mg cc AT) (c_first_apart : Cal P w K mg base 2 "first_apart" ["machine", "other", "is_so"] (spApart K CM)) : Cal P w K mg base 3 "within_of" ["machine", "other"] (spIsW K CM AT) := by
  refine cal_ofC D sc_within_of (fun _ _ _ _ _ _ us hl => match us, hl with | [_, _], _ => rfl) (fun vs H Q E h => ?_) (fun f A outer s H vs Q E hr h => ?_)
  · obtain ⟨_, _, _, _, _, _, _, rfl, _⟩ := h
    rfl
  have hu := hu_of hr
  obtain ⟨m, o, L, S, S2, E, E2, rfl, hm, ho, hT, hB, hL3, hin, k⟩ := h
  refine ⟨_, (pss_one (ps_ret (pe_cmpR op_isN (pe_c c_first_apart hr (by decide) rfl (pa_cons (pv 0) (pa_cons (pv 1) (pa_cons (pe_lam2 (q := lamQ) TB rfl (by rfl) rfl (fun _ => rfl) (by decide)) pa_nil)))) pe_non (nomark _)))), ?_⟩
  refine ⟨_, rfl, _, rfl, hT, fun f c' H1 w1 hT1 hf hf1 hc1 => ?_⟩
  obtain ⟨ps, hP, _⟩ := id hT
  have nA : NoSeq H AT := ⟨fun xs z => by rcases z with z | ⟨o, z⟩ <;> (rw [hP] at z; cases z), fun xs z => by rcases z with z | ⟨o, z⟩ <;> (rw [hP] at z; cases z)⟩
  have mA : m ≠ AT := mAt_ne hm hP fun _ _ _ z => nomatch z
  have oA : o ≠ AT := mAt_ne ho hP fun _ _ _ z => nomatch z
  refine ⟨m, o, f, c', L, S, S2, E, E2, rfl, ((mAt_outX nA mA hm).mono w1).mono (wo_same _ _), ((mAt_outX nA oA ho).mono w1).mono (wo_same _ _), hf1, hc1, hB, hL3, hin, fun H2 s2 => ⟨rfl, ?_⟩⟩
  have e : decide (V.non = V.non) = true := decide_eq_true rfl
  show Q (V.bl (decide (V.non = V.non))) H2
  rw [e]
  exact k H2 (Same.trans w1 (wo_mono s2)) (hT1.ext s2)
abbrev s_is_within : Stmt := top 72
abbrev N_is_within : List Str := ["machine", "other"]
theorem sc_is_within : FnScope N_is_within ["machine", "other"] (defScope s_is_within) := ⟨rfl, rfl, rfl, by decide +kernel, rfl, by decide +kernel, by decide +kernel⟩
theorem ok_is_within (T : Tx K mg CM CT) (D : DefAt K mg "is_within" s_is_within) (c_want_two : Cal P w K mg base 2 "want_two" ["machine", "other"] (spWLike K CM)) (c_within_of : Cal P w K mg base 3 "within_of" ["machine", "other"] (spIsW K CM AT)) : Cal P w K mg base 4 "is_within" ["machine", "other"] (spIsW K CM AT) := by
  refine cal_of D sc_is_within (fun _ _ _ _ _ _ us hl => match us, hl with | [_, _], _ => rfl) (fun vs H Q E h => ?_) (fun f cdv A outer s H vs Q E hr h => ?_)
  · obtain ⟨_, _, _, _, _, _, _, rfl, _⟩ := h
    rfl
  have hu := hu_of hr
  obtain ⟨m, o, L, S, S2, E, E2, rfl, hm, ho, hT, hB, hL3, hin, k⟩ := h
  refine ⟨_, (pss_cons (ps_expr (pe_c c_want_two hr (by decide) rfl (pa_cons (pv 0) (pa_cons (pv 1) pa_nil))))
  (pss_one (ps_ret (pe_c c_within_of hr (by decide) rfl (pa_cons (pv 0) (pa_cons (pv 1) pa_nil)))))), ?_⟩
  have hT2 : ∀ H', Same H H' → TabS H' AT lamQ := fun H' s => hT.ext s
  exact ⟨_, rfl, _, rfl, m, o, L, S, S2, E, E2, rfl, hm, ho, fun H1 s1 => ⟨_, rfl, _, rfl, m, o, L, S, S2, E, E2, rfl, hm.mono s1, ho.mono s1, hT2 H1 s1, hB, hL3, hin, fun H2 w2 hT3 => k H2 (Same.trans (wo_mono s1) w2) hT3⟩⟩
end
end M22

set_option maxRecDepth 100000
set_option maxHeartbeats 4000000
/-! k22: own rule: a def of two parameters called by both keywords, the second first. -/
namespace M22
open PySem PySem.Spec PyProof.Rows L2
def swap2 {α : Type} : List α → List α
  | [a, b] => [b, a]
  | l => l
theorem swap2_len {α : Type} (l : List α) : (swap2 l).length = l.length := by
  unfold swap2
  split <;> rfl
theorem swap2_vals {zs : List V} {ws : List Value} (h : Vals zs ws) : Vals (swap2 zs) (swap2 ws) := by
  match zs, ws, h with
  | [], [], .nil => exact .nil
  | [_], [_], .cons a .nil => exact .cons a .nil
  | [_, _], [_, _], .cons a (.cons b .nil) => exact .cons b (.cons a .nil)
  | _ :: _ :: _ :: _, _ :: _ :: _ :: _, h => exact h
section
variable {X : Cx} {k j : Nat} {x p1 p2 : Str} {sp : Sp} {p pos : Pos} {kws : List Keyword} {tk : TA} {st : Stmt}
theorem pe_cK (c : Cal X.prog X.w X.K X.mg X.base k x [p1, p2] sp) (D : DefAt X.K X.mg x st)
    (kb : ∀ (kV doc pm : Value) (an : Option Addr) (cdv ct : Value), (∀ a b : Value, bindArgs (PySem.W.fnOf x x (defArgs st) (defBody st) (defScope st) .none kV doc pm an cdv ct) ⟨[a, b], []⟩ = pure [(p1, a), (p2, b)]) ∧
      (∀ a b : Value, bindArgs (PySem.W.fnOf x x (defArgs st) (defBody st) (defScope st) .none kV doc pm an cdv ct) ⟨[a], [(p2, b)]⟩ = pure [(p1, a), (p2, b)]) ∧
      (∀ a b : Value, bindArgs (PySem.W.fnOf x x (defArgs st) (defBody st) (defScope st) .none kV doc pm an cdv ct) ⟨[], [(p2, b), (p1, a)]⟩ = pure [(p1, a), (p2, b)]))
    (hr : Room j X.A) (hk : k ≤ j) (hg : Gl X x) (hkw : PK X kws tk)
    (hall : (backToKw pos (keywordEach kws X.env)).all (·.1.isSome) = true := by rfl) (hks : (backToKw pos (keywordEach kws X.env)).filterMap (·.1) = [p2, p1] := by rfl) (hdb : (x == ("__debug__" : Str)) = false := by decide)
    (hpl : ((backTo pos (starEach [] X.env)).any (·.1) || (backToKw pos (keywordEach kws X.env)).any (·.1.isNone)) = false := by rfl) :
    PE X (.Call (.Name x p) [] kws pos) (tCallK sp (fun vs zs => vs ++ swap2 zs) E0 tNil tk) := by
  obtain ⟨f, fd, F, hm, kp, b, oc, od, osl, lk⟩ := c.ex
  obtain ⟨f2, fd2, ⟨⟨oc2, od2, kV, doc, pm, an, cdv, ct, osl2, e, lk2, _⟩, _⟩, hm2⟩ := D.ex
  have ef : f = f2 := by rw [hm] at hm2; exact (Value.ref.inj (Option.some.inj hm2))
  subst ef
  have efd : fd = fd2 := by
    rw [lk] at lk2
    injection lk2 with z
    injection z with _ _ z _
    injection z
  subst efd
  obtain ⟨k1, k2, k3⟩ := kb kV doc pm an cdv ct
  rw [← e] at k1 k2 k3
  refine pe_callK0 (g := fun us ws => us ++ swap2 ws) F (hr.mono hk) hg hm kp ⟨fun s us ws _ hl => ?_, fun r rz => r.append (swap2_vals rz)⟩ pass0 hkw hall hks hdb hpl
  rw [List.length_append, swap2_len] at hl
  match us, ws, hl with
  | [], [b, a], _ => exact .of_eq (k3 a b)
  | [a], [b], _ => exact .of_eq (k2 a b)
  | [a, b], [], _ => exact .of_eq (k1 a b)
  | [], [], h => exact absurd h (by show ¬ 0 + 0 = 2; decide)
  | [], [_], h => exact absurd h (by show ¬ 0 + 1 = 2; decide)
  | [], _ :: _ :: _ :: r, h => exact absurd h (by simp)
  | [_], [], h => exact absurd h (by show ¬ 1 + 0 = 2; decide)
  | [_], _ :: _ :: r, h => exact absurd h (by simp; omega)
  | [_, _], _ :: r, h => exact absurd h (by simp)
  | _ :: _ :: _ :: r, r2, h => exact absurd h (by simp; omega)
end
end M22

set_option maxRecDepth 100000
set_option maxHeartbeats 4000000
namespace M22
open PySem PySem.Spec PyProof.Rows L2
/-- the law's pot: two numbers -/
def Pot (p : Addr) (H : Hp) : Prop := ∃ x y : Int, H p = some (.lst [.int x, .int y]) ∧ 0 ≤ x ∧ 0 ≤ y ∧ y < 2147483648
section
variable {P : Program} {w : World} {K : PySem.W.Frag} {mg : Str → Option Value} {base : Heap} {CM CT : Addr}
def spPot (K : PySem.W.Frag) : Sp := fun vs H Q _ => ∃ (a : Addr) (ns : List Int), vs = [.ref a, .int 0] ∧ SqL K H a (ns.map V.int) ∧ ns.length ≤ 1000 ∧ ∀ (H' : Hp) (p : Addr), Same H H' → H p = none → Pot p H' → Q (.ref p) H'
abbrev s__law_pot : Stmt := top 74
abbrev N__law_pot : List Str := ["_law_script", "_law_k", "_law_cell", "_law_mixed"]
theorem sc__law_pot : FnScope N__law_pot ["_law_script", "_law_k"] (defScope s__law_pot) := ⟨rfl, rfl, rfl, by decide +kernel, rfl, by decide +kernel, by decide +kernel⟩
theorem ok__law_pot (T : Tx K mg CM CT) (D : DefAt K mg "_law_pot" s__law_pot)  : Cal P w K mg base 1 "_law_pot" ["_law_script", "_law_k"] (spPot K) := by
  refine cal_of D sc__law_pot (fun _ _ _ _ _ _ us hl => match us, hl with | [_, _], _ => rfl) (fun vs H Q E h => ?_) (fun f cdv A outer s H vs Q E hr h => ?_)
  · obtain ⟨_, _, rfl, _⟩ := h
    rfl
  have hu := hu_of hr
  obtain ⟨a, ns, rfl, ha, hn, k⟩ := h
  refine ⟨_, (pss_cons (ps_set (i := 2) sc__law_pot.nd rfl (Or.inl rfl) (pe_op op_add (pe_op op_add (pe_op op_mul pe_int (pv 1)) pe_int) (pe_op op_mod (pe_callB (cr_sumK K rfl) (by rfl) T.sum (by decide +kernel) (pa_cons (pe_slice (sl_listK K) (pv 0) po_none (po_some pe_int)) pa_nil)) pe_int)))
  (C8.pss_cut (ps_if (pt_cmpR op_lt (pv 1) (pe_callB (call_lenK K) (by rfl) T.len PySem.boot_len (pa_cons (pv 0) pa_nil)) (nomark _)) (pss_one (ps_set (i := 2) sc__law_pot.nd rfl (Or.inl rfl) (pe_callB call_abs (by rfl) T.abs (by decide +kernel) (pa_cons (pe_ix (ix_listK K) (pv 0) (pv 1) (fun _ _ => rfl)) pa_nil)))) pss_nil)
  (pss_cons (ps_set (i := 3) sc__law_pot.nd rfl (Or.inl rfl) (pe_op op_add (pe_op op_mod (pe_op op_mul (pe_callTy call_int1 (by rfl) T.int (by decide +kernel) (pa_cons (pe_op op_add (pe_op op_mod (pe_callTy call_int1 (by rfl) T.int (by decide +kernel) (pa_cons (pv 2) pa_nil)) pe_int) pe_int) pa_nil)) (pe_op op_pow (pe_op op_add (pe_op op_mul pe_int (pv 1)) pe_int) pe_int)) pe_int) pe_int))
  (pss_one (ps_ret (pe_lst (pa_cons (pe_callB (call_max2 rfl) (by rfl) T.max (by decide +kernel) (pa_cons pe_int (pa_cons (pe_op op_sub (pv 2) (pe_op op_pow pe_int pe_int)) pa_nil))) (pa_cons (pv 3) pa_nil)))))))), ?_⟩
  have ecut : cutV (ns.map V.int) none (some 1) = (ns.take 1).map V.int := by
    unfold cutV
    have e0 : HT.sIx (ns.map V.int).length 0 none = 0 := rfl
    rw [e0, List.drop_zero]
    cases ns with
    | nil => rfl
    | cons n ns =>
      have e1 : HT.sIx ((n :: ns).map V.int).length ((n :: ns).map V.int).length (some 1) = 1 := by
        refine (HT.sIx_nat _ _ 1).trans ?_
        rw [List.length_map, List.length_cons]
        omega
      rw [e1]
      rfl
  refine ⟨_, rfl, _, _, rfl, rfl, .inl ⟨by decide, by decide⟩, _, _, rfl, rfl, _, rfl, (1 : Int), rfl, a, _, rfl, ha, fun p1 hp1 => ⟨p1, ns.take 1, rfl, SqL.of (by rw [upd_same, ecut]), _, _, rfl, rfl, by show (0 : Int) < 1000003; decide, _, _, rfl, rfl, ?_⟩⟩
  have s1 : Same H (upd H p1 (.lst (cutV (ns.map V.int) none (some 1)))) := same_new hp1
  -- if _law_k < len(_law_script): ..
  refine ⟨fun σ' H' => ∃ c : Int, σ' = [some (.ref a), some (.int 0), some (.int c), none] ∧ Same H H', ?_, ?_⟩
  · refine ⟨_, rfl, _, rfl, a, _, rfl, .inl (s1.seq ha), _, _, rfl, rfl, _, rfl, ?_⟩
    by_cases h0 : (0 : Int) < ((ns.map V.int).length : Int)
    · refine ifT (decide_eq_true h0) ?_
      obtain ⟨n0, hn0⟩ := get_some (show 0 < ns.length by rw [List.length_map] at h0; omega)
      exact ⟨_, rfl, _, rfl, a, _, _, _, rfl, rfl, s1.seq ha, atI_nat (j := 0) (by rw [List.getElem?_map, hn0]; rfl), _, rfl, _, rfl, s1⟩
    · exact ifF (decide_eq_false h0) ⟨_, rfl, s1⟩
  rintro σ' H2 ⟨c, rfl, s2⟩
  -- _law_mixed = ..
  obtain ⟨z, ez, z1, z2⟩ : ∃ z, c % 2147483549 = z ∧ 0 ≤ z ∧ z < 2147483549 := ⟨_, rfl, Int.emod_nonneg _ (by decide), Int.emod_lt_of_pos _ (by decide)⟩
  refine ⟨_, rfl, .inl ⟨_, rfl, _, _, rfl, rfl, by show (0 : Int) < 2147483549; decide, _, _, rfl, rfl, .inl ⟨_, rfl, _, rfl, _, _, rfl, rfl, .inl ⟨by decide, by decide⟩, _, _, rfl, rfl, _, _, rfl, rfl, ⟨by decide, by decide, by decide⟩, _, _, rfl, rfl, .inl ⟨by rw [ez]; omega, by rw [ez]; omega⟩, _, _, rfl, rfl, by show (0 : Int) < 2147483477; decide, _, _, rfl, rfl, ?_⟩⟩⟩
  -- return [max(0, ..), _law_mixed]
  refine ⟨_, rfl, _, _, rfl, rfl, ⟨by decide, by decide, by decide⟩, _, _, rfl, rfl, _, _, rfl, _, rfl, by show 2 ≤ sizeLine; decide, fun p hp => ?_⟩
  refine k _ p (Same.trans s2 (same_new hp)) (Same.free s2 hp) ⟨_, _, upd_same, ?_, ?_, ?_⟩
  · split <;> omega
  · have := Int.emod_nonneg ((c % 2147483549 + 17683) * (2 * 0 + 7) ^ (3 : Int).toNat) (show (2147483477 : Int) ≠ 0 by decide)
    show (0 : Int) ≤ (c % 2147483549 + 17683) * (2 * 0 + 7) ^ (3 : Int).toNat % 2147483477 + 1
    omega
  · have := Int.emod_lt_of_pos ((c % 2147483549 + 17683) * (2 * 0 + 7) ^ (3 : Int).toNat) (show (0 : Int) < 2147483477 by decide)
    show (c % 2147483549 + 17683) * (2 * 0 + 7) ^ (3 : Int).toNat % 2147483477 + 1 < 2147483648
    omega
def spDraw : Sp := fun vs H Q _ => ∃ (p : Addr) (n : Nat), vs = [.ref p, vN n] ∧ Pot p H ∧ 0 < n ∧ n ≤ 100 ∧ ∀ (H' : Hp) (d : Nat), Same (Wo [p] H) (Wo [p] H') → Pot p H' → d < n → Q (vN d) H'
abbrev s__law_draw : Stmt := top 75
abbrev N__law_draw : List Str := ["_law_pot_here", "_law_many", "_law_digit"]
theorem sc__law_draw : FnScope N__law_draw ["_law_pot_here", "_law_many"] (defScope s__law_draw) := ⟨rfl, rfl, rfl, by decide +kernel, rfl, by decide +kernel, by decide +kernel⟩
theorem ok__law_draw (T : Tx K mg CM CT) (D : DefAt K mg "_law_draw" s__law_draw)  : Cal P w K mg base 1 "_law_draw" ["_law_pot_here", "_law_many"] spDraw := by
  refine cal_of D sc__law_draw (fun _ _ _ _ _ _ us hl => match us, hl with | [_, _], _ => rfl) (fun vs H Q E h => ?_) (fun f cdv A outer s H vs Q E hr h => ?_)
  · obtain ⟨_, _, rfl, _⟩ := h
    rfl
  have hu := hu_of hr
  obtain ⟨p, n, rfl, ⟨x, y, hp, hx, hy, hy2⟩, hn, hn2, k⟩ := h
  refine ⟨_, (pss_cons (ps_if (pt_cmpR op_gt (pe_ix (ix_listK K) (pv 0) pe_int (fun _ _ => rfl)) pe_int (nomark _)) (pss_cons (ps_asg (pe_callB call_divmodW (by rfl) T.divmod (by decide +kernel) (pa_cons (pe_ix (ix_listK K) (pv 0) pe_int (fun _ _ => rfl)) (pa_cons (pv 1) pa_nil))) (pg_tupK K (n := 2) rfl (pgs_cons (pg_sub (pv 0) pe_int set_list) (pgs_cons (pg_name (i := 2) sc__law_draw.nd rfl (Or.inl rfl)) pgs_nil))))
    (pss_one (ps_ret (pv 2)))) pss_nil)
  (pss_cons (ps_asg (pe_op op_mod (pe_callTy call_int1 (by rfl) T.int (by decide +kernel) (pa_cons (pe_op op_add (pe_op op_mul (pe_ix (ix_listK K) (pv 0) pe_int (fun _ _ => rfl)) pe_int) pe_int) pa_nil)) pe_int) (pg_sub (pv 0) pe_int set_list))
  (pss_one (ps_ret (pe_op op_mod (pe_callTy call_int1 (by rfl) T.int (by decide +kernel) (pa_cons (pe_op op_fdiv (pe_op op_mod (pe_callTy call_int1 (by rfl) T.int (by decide +kernel) (pa_cons (pe_op op_mul (pe_ix (ix_listK K) (pv 0) pe_int (fun _ _ => rfl)) (pe_ix (ix_listK K) (pv 0) pe_int (fun _ _ => rfl))) pa_nil)) pe_int) pe_int) pa_nil)) (pv 1)))))), ?_⟩
  have emod : ∀ i : Int, ∃ d : Nat, i % (n : Int) = d ∧ d < n := fun i => by
    have h1 := Int.emod_nonneg i (show (n : Int) ≠ 0 by omega)
    have h2 := Int.emod_lt_of_pos i (show (0 : Int) < n by omega)
    exact ⟨(i % (n : Int)).toNat, by omega, by omega⟩
  have at0 : atI [V.int x, V.int y] (0 : Int) = some (.int x) := atI_nat (j := 0) rfl
  have at1 : atI [V.int x, V.int y] (1 : Int) = some (.int y) := atI_nat (j := 1) rfl
  refine ⟨_, rfl, p, _, _, _, rfl, rfl, SqL.of hp, at0, _, _, rfl, rfl, _, rfl, ?_⟩
  by_cases h0 : x > 0
  · refine ifT (decide_eq_true h0) ?_
    refine ⟨_, rfl, p, _, _, _, rfl, rfl, SqL.of hp, at0, _, rfl, _, _, rfl, ⟨by omega, PyProof.noPylong_small (by omega)⟩, fun t ht => ?_⟩
    have pt : p ≠ t := ne_of_none hp ht
    obtain ⟨d, ed, hd⟩ := emod x
    refine ⟨t, _, rfl, SqT.of upd_same, rfl, _, _, rfl, _, rfl, p, _, 0, 0, rfl, rfl, (upd_ne pt).trans hp, rfl, _, _, rfl, rfl, _, rfl, ?_⟩
    have e : V.int (x % (n : Int)) = vN d := by rw [ed]
    show Q (V.int (x % (n : Int))) _
    rw [e]
    refine k _ d ?_ ⟨x / n, y, upd_same, Int.ediv_nonneg hx (by omega), hy, hy2⟩ hd
    rw [wo_upd in1]
    exact wo_new ht
  · refine ifF (decide_eq_false h0) ?_
    refine ⟨_, rfl, p, _, _, _, rfl, rfl, SqL.of hp, at1, _, _, rfl, rfl, .inl ⟨by omega, by omega⟩, _, _, rfl, rfl, .inl ⟨_, rfl, _, _, rfl, rfl, by show (0 : Int) < 2147483587; decide, _, rfl, p, _, 1, 1, rfl, rfl, hp, rfl, ?_⟩⟩
    obtain ⟨z, ez, h1, h2⟩ : ∃ z, (y * 48271 + 17683) % 2147483587 = z ∧ 0 ≤ z ∧ z < 2147483587 := ⟨_, rfl, Int.emod_nonneg _ (by decide), Int.emod_lt_of_pos _ (by decide)⟩
    have at1' : atI [V.int x, V.int z] (1 : Int) = some (.int z) := atI_nat (j := 1) rfl
    have hpz : upd H p (.lst ([V.int x, V.int y].set 1 (.int ((y * 48271 + 17683) % 2147483587)))) p = some (.lst [.int x, .int z]) := by rw [ez]; exact upd_same
    refine ⟨_, rfl, p, _, _, _, rfl, rfl, SqL.of hpz, at1', _, rfl, p, _, _, _, rfl, rfl, SqL.of hpz, at1', _, _, rfl, rfl, .inl ⟨by omega, by omega⟩, .inl ⟨_, rfl, _, _, rfl, rfl, by show (0 : Int) < 2147483549; decide, _, _, rfl, rfl, ⟨by decide, by decide⟩, .inl ⟨_, rfl, _, rfl, _, _, rfl, rfl, by show (0 : Int) < n; omega, ?_⟩⟩⟩
    obtain ⟨d, ed, hd⟩ := emod (z * z % 2147483549 / 13)
    have e : V.int (z * z % 2147483549 / 13 % (n : Int)) = vN d := by rw [ed]
    show Q (V.int (z * z % 2147483549 / 13 % (n : Int))) _
    rw [e]
    refine k _ d ?_ ⟨x, z, hpz, hx, h1, by omega⟩ hd
    rw [wo_upd in1]
    exact fun _ _ q => q
def spFil (K : PySem.W.Frag) : Sp := fun vs H Q _ => ∃ (p : Addr) (L : Nat), vs = [.ref p, vN L] ∧ Pot p H ∧ 0 < L ∧ L ≤ 2 ∧ ∀ (H' : Hp) (q : Addr) (a b : V) (S : Steps) (E : List Nat), Same (Wo [p] H) (Wo [p] H') → Pot p H' → H q = none → H' q = some (.tup [a, b]) →
  Dp K (Wo [p] H') a (dLL S) → Dp K (Wo [p] H') b (dL E) → Whole L S → S.length ≤ 3 → E.Nodup → (∀ e ∈ E, e < S.length) → Q (.ref q) H'
theorem pot_none {p q : Addr} {H H' : Hp} (w : Same (Wo [p] H) (Wo [p] H')) (h : Pot p H) (h' : Pot p H') (hq : H' q = none) : H q = none := by
  obtain ⟨_, _, e, _⟩ := h
  obtain ⟨_, _, e', _⟩ := h'
  exact none_back w e (by rw [e']; exact fun z => nomatch z) hq
theorem pot_ne {p q : Addr} {H : Hp} (h : Pot p H) (hq : H q = none) : q ≠ p := by
  obtain ⟨_, _, e, _⟩ := h
  exact fun z => by rw [z, e] at hq; cases hq
theorem Pot.same {p : Addr} {H H' : Hp} (h : Pot p H) (s : Same H H') : Pot p H' := by
  obtain ⟨x, y, e, r⟩ := h
  exact ⟨x, y, s _ _ e, r⟩
theorem Pot.upd {p q : Addr} {H : Hp} {o : HO} (h : Pot p H) (n : q ≠ p) : Pot p (L2.upd H q o) := by
  obtain ⟨x, y, e, r⟩ := h
  exact ⟨x, y, (upd_ne n.symm).trans e, r⟩
theorem add2 {d : Nat} : V.int (2 + (d : Int)) = vN (2 + d) := by
  show V.int (2 + (d : Int)) = V.int ((2 + d : Nat) : Int)
  rw [Int.natCast_add]
  rfl
/-- a new list of numbers, some left out -/
theorem dp_new_l {D p ls : Addr} {H : Hp} {ns : List Nat} (h : H D = some (.lst (ns.map vN))) (n1 : D ≠ ls) (n2 : D ≠ p) : Dp K (Wo [ls] (Wo [p] H)) (.ref D) (dL ns) :=
  dp_l (SqL.of (by rw [wo_out (fun z => n1 (List.mem_singleton.mp z)), wo_out (fun z => n2 (List.mem_singleton.mp z))]; exact h))
abbrev s__law_counting : Stmt := top 76
abbrev N__law_counting : List Str := ["_law_pot_here", "_law_letters", "_law_many", "_law_at", "_law_steps", "_law_state", "_law_letter"]
theorem sc__law_counting : FnScope N__law_counting ["_law_pot_here", "_law_letters"] (defScope s__law_counting) := ⟨rfl, rfl, rfl, by decide +kernel, rfl, by decide +kernel, by decide +kernel⟩
theorem ok__law_counting (T : Tx K mg CM CT) (D : DefAt K mg "_law_counting" s__law_counting) (c__law_draw : Cal P w K mg base 1 "_law_draw" ["_law_pot_here", "_law_many"] spDraw) : Cal P w K mg base 2 "_law_counting" ["_law_pot_here", "_law_letters"] (spFil K) := by
  refine cal_of D sc__law_counting (fun _ _ _ _ _ _ us hl => match us, hl with | [_, _], _ => rfl) (fun vs H Q E h => ?_) (fun f cdv A outer s H vs Q E hr h => ?_)
  · obtain ⟨_, _, rfl, _⟩ := h
    rfl
  have hu := hu_of hr
  obtain ⟨p, L, rfl, hp, hL, hL2, k⟩ := h
  refine ⟨_, (pss_cons (ps_asg (pe_tup (pa_cons (pe_op op_add pe_int (pe_c c__law_draw hr (by decide) rfl (pa_cons (pv 0) (pa_cons pe_int pa_nil)))) (pa_cons (pe_c c__law_draw hr (by decide) rfl (pa_cons (pv 0) (pa_cons (pv 1) pa_nil))) pa_nil))) (pg_tupK K (n := 2) rfl (pgs_cons (pg_name (i := 2) sc__law_counting.nd rfl (Or.inr rfl)) (pgs_cons (pg_name (i := 3) sc__law_counting.nd rfl (Or.inr rfl)) pgs_nil))))
  (pss_cons (ps_set (i := 4) sc__law_counting.nd rfl (Or.inl rfl) (pe_lst pa_nil))
  (pss_cons (ps_for PassesOwn.never rfl (pi_range1 rfl T.range (pa_cons (pv 2) pa_nil)) (pg_name (i := 5) sc__law_counting.nd rfl (Or.inr rfl)) (pss_one (ps_expr (pe_bmK K PySem.F.plainAttrs_list PySem.F.slot_list_append PySem.F.type_list_append mt_append (pv 4) (pa_cons (pe_lc (own := [("_law_letter", 6)]) (tt := tYes) rfl sc__law_counting.nd (pi_range1 rfl T.range (pa_cons (pv 1) pa_nil)) (blkOk_by (N := N__law_counting) (sc := (defScope s__law_counting)) (by decide +kernel)) (fun _ _ _ _ _ => (pg_name (i := 6) sc__law_counting.nd rfl (Or.inl rfl))) (fun _ _ _ _ _ => pts_nil) (fun _ _ _ _ _ => (pe_op op_mod (pe_op op_add (pv 5) (pe_callTy call_int1 (by rfl) T.int (by decide +kernel) (pa_cons (pe_cmpR op_eq (pv 6) (pv 3) (nomark _)) pa_nil))) (pv 2)))) pa_nil)))))
  (pss_one (ps_ret (pe_tup (pa_cons (pv 4) (pa_cons (pe_lst (pa_cons (pe_c c__law_draw hr (by decide) rfl (pa_cons (pv 0) (pa_cons (pv 2) pa_nil))) pa_nil)) pa_nil)))))))), ?_⟩
  refine ⟨_, rfl, p, 2, rfl, hp, by decide, by decide, fun H1 d1 w1 p1 hd1 => ⟨_, _, rfl, rfl, _, rfl, _, rfl, p, L, rfl, p1, hL, by omega, fun H2 d2 w2 p2 hd2 => ⟨by show 2 ≤ sizeLine; decide, fun t ht => ⟨t, [vN (2 + d1), vN d2], rfl, SqT.of (by rw [← add2]; exact upd_same), rfl, _, _, rfl, _, _, rfl, rfl, ?_⟩⟩⟩⟩
  have w02 := Same.trans w1 w2
  have w03 : Same (Wo [p] H) (Wo [p] (upd H2 t (.tup [V.int (2 + (d1 : Int)), vN d2]))) := Same.trans w02 (wo_new ht)
  have p3 : Pot p (upd H2 t (.tup [V.int (2 + (d1 : Int)), vN d2])) := p2.same (same_new ht)
  refine ⟨by show 0 ≤ sizeLine; decide, fun ls hls => ?_⟩
  generalize upd H2 t (.tup [V.int (2 + (d1 : Int)), vN d2]) = H3 at w03 p3 hls ⊢
  have lsp : ls ≠ p := pot_ne p3 hls
  have lsN : ¬ ls ∈ [p] := fun z => lsp (List.mem_singleton.mp z)
  let S : Steps := (List.range (2 + d1)).map fun s => (List.range L).map fun l => (s + (if l = d2 then 1 else 0)) % (2 + d1)
  refine ⟨_, rfl, ((2 + d1 : Nat) : Int), rfl, by omega, by omega, for_it (walk_range (lo := 0) (n := ((2 + d1 : Nat) : Int).toNat)) (fun i σ Hx => ∃ x5, σ = [some (.ref p), some (vN L), some (vN (2 + d1)), some (vN d2), some (.ref ls), x5, none] ∧ Same H3 (Wo [ls] Hx) ∧ LcP K ls (Wo [p] H3) (fun i => (S.take i).map dL) i (Wo [p] Hx))
    ⟨none, rfl, ?_, LcP.zeroN lsN hls rfl⟩ (fun _ _ _ _ _ => True.intro) ?_ ?_⟩
  · rw [wo_upd in1]
    intro b o e
    rw [wo_out fun z => by rw [List.mem_singleton.mp z, hls] at e; cases e]
    exact e
  · rintro i x σ Ha Hb hi ⟨x5, rfl, sa, pa⟩ ⟨rfl, ex⟩
    have ex : x = vN i := ex.trans item_nat
    subst ex
    obtain ⟨acc, ha, _⟩ := pa.atN lsN
    refine ⟨_, rfl, .inl ⟨rfl, _, SqL.of ha⟩, _, rfl, (L : Int), rfl, by omega, by omega, fun D hD => lc_d (K := K) (walk_range (lo := 0) (n := (L : Int).toNat)) (fun j => ((List.range L).take j).map fun l => dN ((i + (if l = d2 then 1 else 0)) % (2 + d1))) hD rfl (fun _ _ => True.intro) (fun j x Hc Hd hj pc y => ?_) fun acc2 Hc h1 h2 h3 => ?_⟩
    · obtain ⟨rfl, ex⟩ := y
      have ex : x = vN j := ex.trans item_nat
      subst ex
      refine ⟨rfl, _, rfl, _, rfl, _, rfl, rfl, .inr ⟨_, rfl, _, _, rfl, rfl, _, rfl, _, _, rfl, rfl, by show (0 : Int) < ((2 + d1 : Nat) : Int); omega, ?_⟩⟩
      refine pc.put0 (d := dN ((i + (if j = d2 then 1 else 0)) % (2 + d1))) (line_lt (by omega)) ?_ (take_map _ (List.range L) (range_get (by omega)))
      have e : ((i : Int) + (if decide (vN j = vN d2) = true then 1 else 0)) % ((2 + d1 : Nat) : Int) = (((i + (if j = d2 then 1 else 0)) % (2 + d1) : Nat) : Int) := by
        rw [Int.natCast_emod]
        congr 1
        by_cases q : j = d2
        · subst q; simp
        · have : ¬ vN j = vN d2 := fun z => q (by injection z with z; omega)
          simp [q, this]
      show Dp K _ (.int (((i : Int) + (if decide (vN j = vN d2) = true then 1 else 0)) % ((2 + d1 : Nat) : Int))) _
      rw [e]
      exact .int _
    · have hlen : (List.range L).take (L : Int).toNat = List.range L := List.take_of_length_le (by rw [List.length_range]; omega)
      rw [hlen] at h3
      have eacc : acc2 = ((List.range L).map fun l => (i + (if l = d2 then 1 else 0)) % (2 + d1)).map vN := nums_of (by rw [List.map_map]; exact h3)
      subst eacc
      have sac : Same Hb Hc := Same.trans h2 (wo_same _ _)
      have pb : Pot p Hb := p3.same (Same.trans sa (wo_same _ _))
      obtain ⟨acc3, a1, a2, a3⟩ := pa.putN (H4 := Hc) (y := .ref D) (d := dL ((List.range L).map fun l => (i + (if l = d2 then 1 else 0)) % (2 + d1))) lsN (line_lt (by omega)) ((sac _ _ ha).trans ha.symm) (wo2_mono sac)
        (dp_new_l h1 (fun e => by rw [e, ha] at hD; cases hD) (pot_ne pb hD)) (take_map dL S (x := (List.range L).map fun l => (i + (if l = d2 then 1 else 0)) % (2 + d1)) (by show (List.map _ _)[i]? = _; rw [List.getElem?_map, range_get (by omega)]; rfl))
      refine ⟨ls, acc3, .ref D, rfl, rfl, a1, a2, _, rfl, ?_, a3⟩
      rw [wo_upd in1]
      exact Same.trans sa (wo_mono sac)
  rintro σ H4 ⟨x5, rfl, s4, acc, h4l, h4s, d4, _⟩
  have p4 : Pot p H4 := p3.same (Same.trans s4 (wo_same _ _))
  have w04 : Same (Wo [p] H) (Wo [p] H4) := Same.trans w03 (wo_mono (Same.trans s4 (wo_same _ _)))
  have hlenS : S.length = 2 + d1 := by show (List.map _ _).length = _; rw [List.length_map, List.length_range]
  have htk : S.take ((2 + d1 : Nat) : Int).toNat = S := List.take_of_length_le (by omega)
  have d4 : DpAll K (Wo [ls] (Wo [p] H4)) acc ((S.take ((2 + d1 : Nat) : Int).toNat).map dL) := d4
  rw [htk] at d4
  rw [wo_out lsN] at h4l
  refine ⟨_, rfl, _, rfl, _, rfl, p, 2 + d1, rfl, p4, by omega, by omega, fun H5 d3 w5 p5 hd3 => ⟨by show 1 ≤ sizeLine; decide, fun le hle => ⟨by show 2 ≤ sizeLine; decide, fun q hq => ?_⟩⟩⟩
  have s56 : Same H5 (upd (upd H5 le (.lst [vN d3])) q (.tup [.ref ls, .ref le])) := Same.trans (same_new hle) (same_new hq)
  have w06 := Same.trans w04 (Same.trans w5 (wo_mono (M := [p]) s56))
  have dS : Dp K (Wo [p] H4) (.ref ls) (dLL S) := .lst (SqL.of (by rw [wo_out lsN]; exact h4l)) (dpAll_mono (wo_same _ _) d4)
  have lep : le ≠ p := pot_ne p5 hle
  refine k _ q (.ref ls) (.ref le) S [d3] w06 (p5.same s56) (pot_none (Same.trans w04 w5) hp p5 (Same.free (same_new hle) hq)) upd_same (dp_mono (Same.trans w5 (wo_mono s56)) dS) (dp_l (ns := [d3]) (SqL.of ?_)) ⟨by omega, fun r hr => ?_⟩ (by omega) (List.nodup_cons.mpr ⟨List.not_mem_nil, List.nodup_nil⟩) fun e he => ?_
  · rw [wo_out fun z => lep (List.mem_singleton.mp z)]
    exact same_new hq _ _ upd_same
  · obtain ⟨s0, _, rfl⟩ := List.mem_map.mp hr
    refine ⟨by rw [List.length_map, List.length_range], fun x hx => ?_⟩
    obtain ⟨l, _, rfl⟩ := List.mem_map.mp hx
    rw [hlenS]
    exact Nat.mod_lt _ (by omega)
  · rw [List.mem_singleton.mp he]; omega
end
end M22

set_option maxRecDepth 100000
set_option maxHeartbeats 4000000
namespace M22
open PySem PySem.Spec PyProof.Rows L2
section
variable {P : Program} {w : World} {K : PySem.W.Frag} {mg : Str → Option Value} {base : Heap} {CM CT : Addr}
/-- the end of a filter -/
theorem fil_ret {H Ha : Hp} {p q ls le : Addr} {L : Nat} {S : Steps} {E : List Nat} {Q : V → Hp → Prop}
    (k : ∀ (H' : Hp) (q : Addr) (a b : V) (S : Steps) (E : List Nat), Same (Wo [p] H) (Wo [p] H') → Pot p H' → H q = none → H' q = some (.tup [a, b]) → Dp K (Wo [p] H') a (dLL S) → Dp K (Wo [p] H') b (dL E) → Whole L S → S.length ≤ 3 → E.Nodup → (∀ e ∈ E, e < S.length) → Q (.ref q) H')
    (hp : Pot p H) (w1 : Same (Wo [p] H) (Wo [p] Ha)) (p5 : Pot p Ha) (dS : Dp K (Wo [p] Ha) (.ref ls) (dLL S)) (hle : Ha le = none) {ev : List V} (eE : ev = E.map vN) (hq : upd Ha le (.lst ev) q = none)
    (hw : Whole L S) (h3 : S.length ≤ 3) (nd : E.Nodup) (lt : ∀ e ∈ E, e < S.length) : Q (.ref q) (upd (upd Ha le (.lst ev)) q (.tup [.ref ls, .ref le])) := by
  have s56 : Same Ha (upd (upd Ha le (.lst ev)) q (.tup [.ref ls, .ref le])) := Same.trans (same_new hle) (same_new hq)
  have lep : le ≠ p := pot_ne p5 hle
  refine k _ q (.ref ls) (.ref le) S E (Same.trans w1 (wo_mono s56)) (p5.same s56) (pot_none w1 hp p5 (Same.free (same_new hle) hq)) upd_same (dp_mono (wo_mono s56) dS) (dp_l (SqL.of ?_)) hw h3 nd lt
  rw [wo_out fun z => lep (List.mem_singleton.mp z), ← eE]
  exact same_new hq _ _ upd_same
theorem pot_out0 {p a : Addr} {H : Hp} {o : HO} (n : a ≠ p) (e : H a = some o) : Wo [p] H a = some o := by
  rw [wo_out fun z => n (List.mem_singleton.mp z)]; exact e
theorem dp_pl {p D : Addr} {H : Hp} {ns : List Nat} (n : D ≠ p) (h : H D = some (.lst (ns.map vN))) : Dp K (Wo [p] H) (.ref D) (dL ns) := dp_l (SqL.of (pot_out0 n h))
theorem int_if10 {j a : Nat} : 1 + (if (!decide (vN j = vN a)) = true then (1 : Int) else 0) = ((1 + (if j = a then 0 else 1) : Nat) : Int) := by
  by_cases q : j = a
  · subst q; simp
  · have : ¬ vN j = vN a := fun z => q (by injection z with z; omega)
    simp [q, this]
theorem rep_flat (x : Nat) : ∀ L : Nat, (List.replicate L [vN x]).flatten = (List.replicate L x).map vN
  | 0 => rfl
  | L + 1 => by
    rw [List.replicate_succ, List.replicate_succ, List.flatten_cons, rep_flat x L]
    rfl
theorem int_if01 {j a : Nat} : (if decide (vN j = vN a) = true then (1 : Int) else 0) = ((if j = a then 1 else 0 : Nat) : Int) := by
  by_cases q : j = a
  · subst q; simp
  · have : ¬ vN j = vN a := fun z => q (by injection z with z; omega)
    simp [q, this]
abbrev s__law_lately : Stmt := top 77
abbrev N__law_lately : List Str := ["_law_pot_here", "_law_letters", "_law_at", "_law_way", "_law_ends", "_law_has", "_law_letter"]
theorem sc__law_lately : FnScope N__law_lately ["_law_pot_here", "_law_letters"] (defScope s__law_lately) := ⟨rfl, rfl, rfl, by decide +kernel, rfl, by decide +kernel, by decide +kernel⟩
theorem ok__law_lately (T : Tx K mg CM CT) (D : DefAt K mg "_law_lately" s__law_lately) (c__law_draw : Cal P w K mg base 1 "_law_draw" ["_law_pot_here", "_law_many"] spDraw) : Cal P w K mg base 2 "_law_lately" ["_law_pot_here", "_law_letters"] (spFil K) := by
  refine cal_of D sc__law_lately (fun _ _ _ _ _ _ us hl => match us, hl with | [_, _], _ => rfl) (fun vs H Q E h => ?_) (fun f cdv A outer s H vs Q E hr h => ?_)
  · obtain ⟨_, _, rfl, _⟩ := h
    rfl
  have hu := hu_of hr
  obtain ⟨p, L, rfl, hp, hL, hL2, k⟩ := h
  refine ⟨_, (pss_cons (ps_asg (pe_tup (pa_cons (pe_c c__law_draw hr (by decide) rfl (pa_cons (pv 0) (pa_cons (pv 1) pa_nil))) (pa_cons (pe_c c__law_draw hr (by decide) rfl (pa_cons (pv 0) (pa_cons pe_int pa_nil))) pa_nil))) (pg_tupK K (n := 2) rfl (pgs_cons (pg_name (i := 2) sc__law_lately.nd rfl (Or.inr rfl)) (pgs_cons (pg_name (i := 3) sc__law_lately.nd rfl (Or.inl rfl)) pgs_nil))))
  (pss_cons (ps_par (i := 4) (j := 5) rfl sc__law_lately.nd rfl rfl (by decide) rfl rfl (pa_cons (pe_lc (own := [("_law_letter", 6)]) (tt := tYes) rfl sc__law_lately.nd (pi_range1 rfl T.range (pa_cons (pv 1) pa_nil)) (blkOk_by (N := N__law_lately) (sc := (defScope s__law_lately)) (by decide +kernel)) (fun _ _ _ _ _ => (pg_name (i := 6) sc__law_lately.nd rfl (Or.inl rfl))) (fun _ _ _ _ _ => pts_nil) (fun _ _ _ _ _ => (pe_callTy call_int1 (by rfl) T.int (by decide +kernel) (pa_cons (pe_cmpR op_eq (pv 6) (pv 2) (nomark _)) pa_nil)))) (pa_cons (pe_op op_rep (pe_lst (pa_cons pe_int pa_nil)) (pv 1)) pa_nil)) (by rfl))
  (pss_cons (ps_if (pt_cmpR op_eq (pv 3) pe_int (nomark _)) (pss_one (ps_ret (pe_tup (pa_cons (pe_lst (pa_cons (pv 4) (pa_cons (pe_callTy (call_lstK K) (by rfl) T.list (by decide +kernel) (pa_cons (pv 4) pa_nil)) pa_nil))) (pa_cons (pe_lst (pa_cons pe_int pa_nil)) pa_nil))))) pss_nil)
  (pss_cons (ps_if (pt_cmpR op_eq (pv 3) pe_int (nomark _)) (pss_one (ps_ret (pe_tup (pa_cons (pe_lst (pa_cons (pv 4) (pa_cons (pv 5) pa_nil))) (pa_cons (pe_lst (pa_cons (pe_c c__law_draw hr (by decide) rfl (pa_cons (pv 0) (pa_cons pe_int pa_nil))) pa_nil)) pa_nil))))) pss_nil)
  (pss_one (ps_ret (pe_tup (pa_cons (pe_lst (pa_cons (pe_lc (own := [("_law_letter", 6)]) (tt := tYes) rfl sc__law_lately.nd (pi_range1 rfl T.range (pa_cons (pv 1) pa_nil)) (blkOk_by (N := N__law_lately) (sc := (defScope s__law_lately)) (by decide +kernel)) (fun _ _ _ _ _ => (pg_name (i := 6) sc__law_lately.nd rfl (Or.inl rfl))) (fun _ _ _ _ _ => pts_nil) (fun _ _ _ _ _ => (pe_op op_add pe_int (pe_callTy call_int1 (by rfl) T.int (by decide +kernel) (pa_cons (pe_cmpR op_ne (pv 6) (pv 2) (nomark _)) pa_nil))))) (pa_cons (pe_op op_rep (pe_lst (pa_cons pe_int pa_nil)) (pv 1)) (pa_cons (pe_op op_rep (pe_lst (pa_cons pe_int pa_nil)) (pv 1)) pa_nil)))) (pa_cons (pe_lst (pa_cons pe_int pa_nil)) pa_nil))))))))), ?_⟩
  refine ⟨_, rfl, _, rfl, p, L, rfl, hp, hL, by omega, fun H1 at_ w1 p1 h1 => ⟨_, rfl, p, 3, rfl, p1, by decide, by decide, fun H2 way w2 p2 h2 => ⟨by show 2 ≤ sizeLine; decide, fun t ht => ⟨t, [vN at_, vN way], rfl, SqT.of upd_same, rfl, _, _, rfl, _, _, rfl, rfl, ?_⟩⟩⟩⟩
  have w03 : Same (Wo [p] H) (Wo [p] (upd H2 t (.tup [vN at_, vN way]))) := Same.trans (Same.trans w1 w2) (wo_new ht)
  have p3 : Pot p (upd H2 t (.tup [vN at_, vN way])) := p2.same (same_new ht)
  generalize upd H2 t (.tup [vN at_, vN way]) = H3 at w03 p3 ⊢
  refine ⟨_, rfl, (L : Int), rfl, by omega, by omega, fun D hD => lc_d (K := K) (walk_range (lo := 0) (n := (L : Int).toNat)) (fun j => ((List.range L).take j).map fun l => dN (if l = at_ then 1 else 0)) hD rfl (fun _ _ => True.intro) (fun j x Hc Hd hj pc y => ?_) fun acc Hc g1 g2 g3 => ?_⟩
  · obtain ⟨rfl, ex⟩ := y
    have ex : x = vN j := ex.trans item_nat
    subst ex
    refine ⟨rfl, _, rfl, _, rfl, rfl, .inr ⟨_, rfl, ?_⟩⟩
    refine pc.put0 (d := dN (if j = at_ then 1 else 0)) (line_lt (by omega)) ?_ (take_map _ (List.range L) (range_get (by omega)))
    show Dp K _ (.int (if decide (vN j = vN at_) = true then 1 else 0)) _
    rw [int_if01]
    exact .int _
  have hlen : (List.range L).take (L : Int).toNat = List.range L := List.take_of_length_le (by rw [List.length_range]; omega)
  rw [hlen] at g3
  obtain ⟨S0, hS0⟩ : ∃ S0, S0 = (List.range L).map fun l => if l = at_ then 1 else 0 := ⟨_, rfl⟩
  have eacc : acc = S0.map vN := nums_of (by rw [hS0, List.map_map]; exact g3)
  subst eacc
  have lS0 : S0.length = L := by rw [hS0, List.length_map, List.length_range]
  have bS0 : ∀ x ∈ S0, x < 2 := fun x hx => by
    rw [hS0] at hx
    obtain ⟨l, _, rfl⟩ := List.mem_map.mp hx
    split <;> omega
  have s3c : Same H3 Hc := Same.trans g2 (wo_same _ _)
  have pc : Pot p Hc := p3.same s3c
  have Dp1 : D ≠ p := pot_ne p3 hD
  refine ⟨line_le (Nat.le_of_ble_eq_true rfl), fun l1 hl1 => ⟨_, rfl, l1, (L : Int), _, rfl, rfl, upd_same, by omega, by omega, by show 1 * (L : Int).toNat ≤ sizeLine; exact line_le (by omega), fun rh hrh => ⟨_, _, rfl, ?_⟩⟩⟩
  have s3d : Same Hc (upd (upd Hc l1 (.lst [V.int 1])) rh (.lst (List.replicate (L : Int).toNat [V.int 1]).flatten)) := Same.trans (same_new hl1) (same_new hrh)
  have hrh2 : (upd (upd Hc l1 (.lst [V.int 1])) rh (.lst (List.replicate (L : Int).toNat [V.int 1]).flatten)) rh = some (.lst ((List.replicate L 1).map vN)) := by
    rw [upd_same]; exact congrArg some (congrArg HO.lst (rep_flat 1 L))
  have rhp : rh ≠ p := pot_ne (pc.same (same_new hl1)) hrh
  generalize upd (upd Hc l1 (.lst [V.int 1])) rh (.lst (List.replicate (L : Int).toNat [V.int 1]).flatten) = H4 at s3d hrh2 ⊢
  have p4 : Pot p H4 := pc.same s3d
  have hD4 := s3d _ _ g1
  have w04 : Same (Wo [p] H) (Wo [p] H4) := Same.trans w03 (wo_mono (Same.trans s3c s3d))
  have w1L : Whole L [S0, S0] := ⟨by show 0 < 2; decide, fun r hr => by
    have : r = S0 := by simpa using hr
    subst this; exact ⟨lS0, bS0⟩⟩
  refine ⟨_, rfl, rfl, _, rfl, ?_⟩
  by_cases q0 : way = 0
  · subst q0
    refine ifT (decide_eq_true rfl) ?_
    refine ⟨_, rfl, _, rfl, D, _, rfl, .inl (.of hD4), fun l2 hl2 => ⟨line_le (Nat.le_of_ble_eq_true rfl), fun ls hls => ⟨line_le (Nat.le_of_ble_eq_true rfl), fun le hle => ⟨line_le (Nat.le_of_ble_eq_true rfl), fun q hq => ?_⟩⟩⟩⟩
    have sx : Same H4 (upd (upd H4 l2 (.lst (S0.map vN))) ls (.lst [.ref D, .ref l2])) := Same.trans (same_new hl2) (same_new hls)
    have p5 : Pot p (upd H4 l2 (.lst (S0.map vN))) := p4.same (same_new hl2)
    refine fil_ret (E := [1]) k hp (Same.trans w04 (wo_mono sx)) (p4.same sx) (.lst (SqL.of (pot_out0 (pot_ne p5 hls) upd_same)) (.cons (dp_pl Dp1 (sx _ _ hD4)) (.cons (dp_pl (pot_ne p4 hl2) (same_new hls _ _ upd_same)) .nil))) hle rfl hq w1L (Nat.le_of_ble_eq_true rfl) (List.nodup_cons.mpr ⟨List.not_mem_nil, List.nodup_nil⟩) fun e he => ?_
    rw [List.mem_singleton.mp he]; exact Nat.le_of_ble_eq_true rfl
  have nq : ∀ a : Nat, way ≠ a → decide (vN way = vN a) = false := fun a h => decide_eq_false fun z => h (by injection z with z; omega)
  refine ifF (nq 0 q0) ⟨_, rfl, rfl, _, rfl, ?_⟩
  by_cases q1 : way = 1
  · subst q1
    refine ifT (decide_eq_true rfl) ?_
    refine ⟨_, rfl, _, rfl, line_le (Nat.le_of_ble_eq_true rfl), fun ls hls => ⟨_, rfl, p, 2, rfl, p4.same (same_new hls), by decide, by decide, fun H5 d w5 p5 hd => ⟨line_le (Nat.le_of_ble_eq_true rfl), fun le hle => ⟨line_le (Nat.le_of_ble_eq_true rfl), fun q hq => ?_⟩⟩⟩⟩
    have w1R : Whole L [S0, List.replicate L 1] := ⟨by show 0 < 2; decide, fun r hr => by
      rcases List.mem_cons.mp hr with e | hr
      · subst e; exact ⟨lS0, bS0⟩
      · rw [List.mem_singleton.mp hr]; exact ⟨List.length_replicate, fun x hx => by rw [(List.mem_replicate.mp hx).2]; show 1 < 2; decide⟩⟩
    have sx : Same H4 (upd H4 ls (.lst [.ref D, .ref rh])) := same_new hls
    have dS : Dp K (Wo [p] (upd H4 ls (.lst [.ref D, .ref rh]))) (.ref ls) (dLL [S0, List.replicate L 1]) := .lst (SqL.of (pot_out0 (pot_ne p4 hls) upd_same)) (.cons (dp_pl Dp1 (sx _ _ hD4)) (.cons (dp_pl rhp (sx _ _ hrh2)) .nil))
    refine fil_ret (E := [d]) k hp (Same.trans w04 (Same.trans (wo_mono sx) w5)) p5 (dp_mono w5 dS) hle rfl hq w1R (Nat.le_of_ble_eq_true rfl) (List.nodup_cons.mpr ⟨List.not_mem_nil, List.nodup_nil⟩) fun e he => ?_
    rw [List.mem_singleton.mp he]; exact hd
  refine ifF (nq 1 q1) ?_
  refine ⟨_, rfl, (L : Int), rfl, by omega, by omega, fun D1 hD1 => lc_d (K := K) (walk_range (lo := 0) (n := (L : Int).toNat)) (fun j => ((List.range L).take j).map fun l => dN (1 + (if l = at_ then 0 else 1))) hD1 rfl (fun _ _ => True.intro) (fun j x Hx Hd hj px y => ?_) fun acc Hx g1' g2' g3' => ?_⟩
  · obtain ⟨rfl, ex⟩ := y
    have ex : x = vN j := ex.trans item_nat
    subst ex
    refine ⟨rfl, _, rfl, _, rfl, rfl, .inr ⟨_, rfl, _, _, rfl, rfl, ?_⟩⟩
    refine px.put0 (d := dN (1 + (if j = at_ then 0 else 1))) (line_lt (by omega)) ?_ (take_map _ (List.range L) (range_get (by omega)))
    show Dp K _ (.int (1 + (if (!decide (vN j = vN at_)) = true then 1 else 0))) _
    rw [int_if10]
    exact .int _
  rw [hlen] at g3'
  obtain ⟨S1, hS1⟩ : ∃ S1, S1 = (List.range L).map fun l => 1 + (if l = at_ then 0 else 1) := ⟨_, rfl⟩
  have eacc : acc = S1.map vN := nums_of (by rw [hS1, List.map_map]; exact g3')
  subst eacc
  have lS1 : S1.length = L := by rw [hS1, List.length_map, List.length_range]
  have bS1 : ∀ x ∈ S1, x < 3 := fun x hx => by
    rw [hS1] at hx
    obtain ⟨l, _, rfl⟩ := List.mem_map.mp hx
    split <;> omega
  have s4c : Same H4 Hx := Same.trans g2' (wo_same _ _)
  have px : Pot p Hx := p4.same s4c
  have D1p : D1 ≠ p := pot_ne p4 hD1
  refine ⟨line_le (Nat.le_of_ble_eq_true rfl), fun l1 hl1 => ⟨_, rfl, l1, (L : Int), _, rfl, rfl, upd_same, by omega, by omega, by show 1 * (L : Int).toNat ≤ sizeLine; exact line_le (by omega), fun r1 hr1 => ⟨line_le (Nat.le_of_ble_eq_true rfl), fun l2 hl2 => ⟨_, rfl, l2, (L : Int), _, rfl, rfl, upd_same, by omega, by omega, by show 1 * (L : Int).toNat ≤ sizeLine; exact line_le (by omega), fun r2 hr2 => ⟨line_le (Nat.le_of_ble_eq_true rfl), fun ls hls => ⟨line_le (Nat.le_of_ble_eq_true rfl), fun le hle => ⟨line_le (Nat.le_of_ble_eq_true rfl), fun q hq => ?_⟩⟩⟩⟩⟩⟩⟩
  obtain ⟨Ha, eHa⟩ : ∃ Ha, Ha = upd (upd Hx l1 (.lst [V.int 1])) r1 (.lst (List.replicate (L : Int).toNat [V.int 1]).flatten) := ⟨_, rfl⟩
  rw [← eHa] at hl2 hr2 hls hle hq ⊢
  have sa : Same Hx Ha := by rw [eHa]; exact Same.trans (same_new hl1) (same_new hr1)
  have hr1' : Ha r1 = some (.lst ((List.replicate L 1).map vN)) := by rw [eHa, upd_same]; exact congrArg some (congrArg HO.lst (rep_flat 1 L))
  have r1p : r1 ≠ p := pot_ne (px.same (same_new hl1)) hr1
  have pa : Pot p Ha := px.same sa
  obtain ⟨Hb, eHb⟩ : ∃ Hb, Hb = upd (upd Ha l2 (.lst [V.int 2])) r2 (.lst (List.replicate (L : Int).toNat [V.int 2]).flatten) := ⟨_, rfl⟩
  rw [← eHb] at hls hle hq ⊢
  have sb : Same Ha Hb := by rw [eHb]; exact Same.trans (same_new hl2) (same_new hr2)
  have hr2' : Hb r2 = some (.lst ((List.replicate L 2).map vN)) := by rw [eHb, upd_same]; exact congrArg some (congrArg HO.lst (rep_flat 2 L))
  have r2p : r2 ≠ p := pot_ne (pa.same (same_new hl2)) hr2
  have pb : Pot p Hb := pa.same sb
  have sc : Same Hb (upd Hb ls (.lst [.ref D1, .ref r1, .ref r2])) := same_new hls
  have w3R : Whole L [S1, List.replicate L 1, List.replicate L 2] := ⟨by show 0 < 3; decide, fun r hr => by
    rcases List.mem_cons.mp hr with e | hr
    · subst e; exact ⟨lS1, bS1⟩
    rcases List.mem_cons.mp hr with e | hr
    · rw [e]; exact ⟨List.length_replicate, fun x hx => by rw [(List.mem_replicate.mp hx).2]; show 1 < 3; decide⟩
    · rw [List.mem_singleton.mp hr]; exact ⟨List.length_replicate, fun x hx => by rw [(List.mem_replicate.mp hx).2]; show 2 < 3; decide⟩⟩
  refine fil_ret (E := [1]) k hp (Same.trans w04 (wo_mono (Same.trans s4c (Same.trans sa (Same.trans sb sc))))) (pb.same sc) (.lst (SqL.of (pot_out0 (pot_ne pb hls) upd_same)) (.cons (dp_pl D1p (sc _ _ (sb _ _ (sa _ _ g1')))) (.cons (dp_pl r1p (sc _ _ (sb _ _ hr1'))) (.cons (dp_pl r2p (sc _ _ hr2')) .nil)))) hle rfl hq w3R (Nat.le_of_ble_eq_true rfl) (List.nodup_cons.mpr ⟨List.not_mem_nil, List.nodup_nil⟩) fun e he => ?_
  rw [List.mem_singleton.mp he]; exact Nat.le_of_ble_eq_true rfl
end
end M22

set_option maxRecDepth 100000
set_option maxHeartbeats 4000000
namespace M22
open PySem PySem.Spec PyProof.Rows L2
section
variable {P : Program} {w : World} {K : PySem.W.Frag} {mg : Str → Option Value} {base : Heap} {CM CT : Addr}
/-- a list under making, of drawn numbers -/
def DrP (p D : Addr) (H0 : Hp) (G : List Nat → Prop) (H : Hp) : Prop := ∃ ns : List Nat, G ns ∧ H D = some (.lst (ns.map vN)) ∧ Same (Wo [p] H0) (Wo [D] (Wo [p] H)) ∧ Pot p H
theorem DrP.zero {p D : Addr} {H0 : Hp} {G : List Nat → Prop} (hp : Pot p H0) (hD : H0 D = none) (g : G []) : DrP p D H0 G (upd H0 D (.lst [])) := by
  have n : D ≠ p := pot_ne hp hD
  refine ⟨[], g, upd_same, ?_, hp.upd n⟩
  rw [wo2_upd]
  intro b o e
  rw [wo_out fun z => by rw [List.mem_singleton.mp z, wo_out fun z => n (List.mem_singleton.mp z), hD] at e; cases e]
  exact e
/-- drawn meanwhile -/
theorem DrP.drawn {p D : Addr} {H0 H H4 : Hp} {G G' : List Nat → Prop} (n : D ≠ p) (d : DrP p D H0 G H) (s : Same (Wo [p] H) (Wo [p] H4)) (p4 : Pot p H4) (g : ∀ ns, G ns → G' ns) : DrP p D H0 G' H4 := by
  obtain ⟨ns, a, b, c, _⟩ := d
  exact ⟨ns, g _ a, wo_at s b fun z => n (List.mem_singleton.mp z), Same.trans c (wo_mono s), p4⟩
theorem DrP.put {p D : Addr} {H0 H : Hp} {G G' : List Nat → Prop} (n : D ≠ p) (d : DrP p D H0 G H) {x : Nat} (g : ∀ ns, G ns → G' (ns ++ [x])) (l : ∀ ns, G ns → ns.length < sizeLine) :
    ∃ acc, H D = some (.lst acc) ∧ acc.length < sizeLine ∧ DrP p D H0 G' (upd H D (.lst (acc ++ [vN x]))) := by
  obtain ⟨ns, a, b, c, e⟩ := d
  refine ⟨_, b, by rw [List.length_map]; exact l _ a, ns ++ [x], g _ a, by rw [upd_same, List.map_append]; rfl, ?_, e.upd n⟩
  rw [wo2_upd]; exact c
abbrev s__law_wild : Stmt := top 78
abbrev N__law_wild : List Str := ["_law_pot_here", "_law_letters", "_law_many", "_law_steps", "_law_state", "_law_letter"]
theorem sc__law_wild : FnScope N__law_wild ["_law_pot_here", "_law_letters"] (defScope s__law_wild) := ⟨rfl, rfl, rfl, by decide +kernel, rfl, by decide +kernel, by decide +kernel⟩
theorem ok__law_wild (T : Tx K mg CM CT) (D : DefAt K mg "_law_wild" s__law_wild) (c__law_draw : Cal P w K mg base 1 "_law_draw" ["_law_pot_here", "_law_many"] spDraw) : Cal P w K mg base 2 "_law_wild" ["_law_pot_here", "_law_letters"] (spFil K) := by
  refine cal_of D sc__law_wild (fun _ _ _ _ _ _ us hl => match us, hl with | [_, _], _ => rfl) (fun vs H Q E h => ?_) (fun f cdv A outer s H vs Q E hr h => ?_)
  · obtain ⟨_, _, rfl, _⟩ := h
    rfl
  have hu := hu_of hr
  obtain ⟨p, L, rfl, hp, hL, hL2, k⟩ := h
  refine ⟨_, (pss_cons (ps_asg (pe_tup (pa_cons (pe_op op_add pe_int (pe_c c__law_draw hr (by decide) rfl (pa_cons (pv 0) (pa_cons pe_int pa_nil)))) (pa_cons (pe_lst pa_nil) pa_nil))) (pg_tupK K (n := 2) rfl (pgs_cons (pg_name (i := 2) sc__law_wild.nd rfl (Or.inr rfl)) (pgs_cons (pg_name (i := 3) sc__law_wild.nd rfl (Or.inl rfl)) pgs_nil))))
  (pss_cons (ps_for PassesOwn.never rfl (pi_range1 rfl T.range (pa_cons (pv 2) pa_nil)) (pg_name (i := 4) sc__law_wild.nd rfl (Or.inl rfl)) (pss_one (ps_expr (pe_bmK K PySem.F.plainAttrs_list PySem.F.slot_list_append PySem.F.type_list_append mt_append (pv 3) (pa_cons (pe_lc (own := [("_law_letter", 5)]) (tt := tYes) rfl sc__law_wild.nd (pi_range1 rfl T.range (pa_cons (pv 1) pa_nil)) (blkOk_by (N := N__law_wild) (sc := (defScope s__law_wild)) (by decide +kernel)) (fun _ _ _ _ _ => (pg_name (i := 5) sc__law_wild.nd rfl (Or.inl rfl))) (fun _ _ _ _ _ => pts_nil) (fun _ _ _ _ _ => (pe_c c__law_draw hr (by decide) rfl (pa_cons (pv 0) (pa_cons (pv 2) pa_nil))))) pa_nil)))))
  (pss_one (ps_ret (pe_tup (pa_cons (pv 3) (pa_cons (pe_lc (own := [("_law_state", 4)]) rfl sc__law_wild.nd (pi_range1 rfl T.range (pa_cons (pv 2) pa_nil)) (blkOk_by (N := N__law_wild) (sc := (defScope s__law_wild)) (by decide +kernel)) (fun _ _ _ _ _ => (pg_name (i := 4) sc__law_wild.nd rfl (Or.inl rfl))) (fun _ _ _ _ _ => (pts_one (pt_cmpR op_eq (pe_c c__law_draw hr (by decide) rfl (pa_cons (pv 0) (pa_cons pe_int pa_nil))) pe_int (nomark _)))) (fun _ _ _ _ _ => (pv 4))) pa_nil))))))), ?_⟩
  refine ⟨_, rfl, p, 2, rfl, hp, by decide, by decide, fun H1 d1 w1 p1 hd1 => ⟨_, _, rfl, rfl, line_le (Nat.zero_le _), fun ls hls => ⟨line_le (Nat.le_of_ble_eq_true rfl), fun t ht => ⟨t, [vN (2 + d1), .ref ls], rfl, SqT.of (by rw [← add2]; exact upd_same), rfl, _, _, rfl, _, _, rfl, rfl, ?_⟩⟩⟩⟩
  obtain ⟨m, hm⟩ : ∃ m, m = 2 + d1 := ⟨_, rfl⟩
  rw [← hm]
  have m4 : m ≤ 3 := by omega
  have m0 : 2 ≤ m := by omega
  have lsp : ls ≠ p := pot_ne p1 hls
  have lsN : ¬ ls ∈ [p] := fun z => lsp (List.mem_singleton.mp z)
  obtain ⟨H3, eH3⟩ : ∃ H3, H3 = upd (upd H1 ls (.lst [])) t (.tup [V.int (2 + (d1 : Int)), .ref ls]) := ⟨_, rfl⟩
  rw [← eH3]
  have s13 : Same H1 H3 := by rw [eH3]; exact Same.trans (same_new hls) (same_new ht)
  have h3l : H3 ls = some (.lst []) := by rw [eH3]; exact same_new ht _ _ upd_same
  have p3 : Pot p H3 := p1.same s13
  -- the rows
  refine ⟨_, rfl, (m : Int), rfl, by omega, by omega, for_it (walk_range (lo := 0) (n := (m : Int).toNat)) (fun i σ Hx => ∃ x4, σ = [some (.ref p), some (vN L), some (vN m), some (.ref ls), x4, none] ∧ Pot p Hx ∧ Same (Wo [p] H1) (Wo [ls] (Wo [p] Hx)) ∧ ∃ (acc : List V) (S : Steps), Hx ls = some (.lst acc) ∧ DpAll K (Wo [ls] (Wo [p] Hx)) acc (S.map dL) ∧ acc.length = i ∧ S.length = i ∧ ∀ r ∈ S, r.length = L ∧ ∀ x ∈ r, x < m)
    ⟨none, rfl, p3, ?_, [], [], h3l, .nil, rfl, rfl, fun r hr => absurd hr List.not_mem_nil⟩ (fun _ _ _ _ _ => True.intro) ?_ ?_⟩
  · intro b o e
    have q : b ≠ ls := fun z => by rw [z, wo_out lsN, hls] at e; cases e
    rw [wo_out fun z => q (List.mem_singleton.mp z)]
    exact wo_mono s13 _ _ e
  · rintro i x σ Hq Hb hi ⟨x4, rfl, pa, sa, acc, S, ha, da, la, lS, hS⟩ ⟨rfl, ex⟩
    have ex : x = vN i := ex.trans item_nat
    subst ex
    refine ⟨_, rfl, .inl ⟨rfl, _, SqL.of ha⟩, _, rfl, (L : Int), rfl, by omega, by omega, fun D hD => lc_it (walk_range (lo := 0) (n := (L : Int).toNat)) (fun j Hx => DrP p D Hb (fun ns => ns.length = j ∧ ∀ x ∈ ns, x < m) Hx) (DrP.zero pa hD ⟨rfl, fun x hx => absurd hx List.not_mem_nil⟩) (fun _ _ _ _ => True.intro) (fun j x Hc Hd hj pc y => ?_) fun Hc pc => ?_⟩
    · obtain ⟨rfl, ex⟩ := y
      have ex : x = vN j := ex.trans item_nat
      subst ex
      have Dp1 : D ≠ p := pot_ne pa hD
      refine ⟨rfl, _, rfl, _, rfl, p, m, rfl, pc.choose_spec.2.2.2, by omega, by omega, fun H4 d w4 p4 hd => ?_⟩
      exact (pc.drawn Dp1 w4 p4 (fun _ z => z)).put Dp1 (fun ns h => ⟨by rw [List.length_append, h.1]; rfl, fun x hx => (List.mem_append.mp hx).elim (h.2 x) fun z => by rw [List.mem_singleton.mp z]; exact hd⟩) (fun ns h => line_lt (by rw [h.1]; omega))
    · obtain ⟨ns, ⟨n1, n2⟩, n3, n4, n5⟩ := pc
      have Dp1 : D ≠ p := pot_ne pa hD
      have lsD : ls ≠ D := fun z => by rw [← z, ha] at hD; cases hD
      have hls' : Hc ls = some (.lst acc) := (wo_some (wo_some (n4 _ _ (by rw [wo_out lsN]; exact ha))).1).1
      have sac : Same (Wo [p] Hb) (Wo [p] Hc) := Same.trans n4 (wo_same _ _)
      refine ⟨ls, acc, .ref D, rfl, rfl, hls', line_lt (by omega), _, rfl, n5.upd lsp, ?_, acc ++ [.ref D], S ++ [ns], upd_same, ?_, by rw [List.length_append, la]; rfl, by rw [List.length_append, lS]; rfl, fun r hr => ?_⟩
      · rw [wo2_upd]; exact Same.trans sa (wo_mono sac)
      · rw [wo2_upd, List.map_append]
        refine (dpAll_mono (wo_mono sac) da).snoc (dp_l (SqL.of ?_))
        rw [wo_out fun z => lsD (List.mem_singleton.mp z).symm, wo_out fun z => Dp1 (List.mem_singleton.mp z)]
        exact n3
      · rcases List.mem_append.mp hr with z | z
        · exact hS r z
        · rw [List.mem_singleton.mp z]; exact ⟨by rw [n1]; rfl, n2⟩
  rintro σ H4 ⟨x4, rfl, p4, s4, acc, S, h4, d4, l4, lS, hS⟩
  have lS : S.length = m := lS
  have w04 : Same (Wo [p] H) (Wo [p] H4) := Same.trans w1 (Same.trans s4 (wo_same _ _))
  -- the ends
  refine ⟨_, rfl, _, rfl, (m : Int), rfl, by omega, by omega, fun D hD => lc_it (walk_range (lo := 0) (n := (m : Int).toNat)) (fun j Hx => DrP p D H4 (fun ns => ns.Nodup ∧ ns.length ≤ j ∧ ∀ x ∈ ns, x < j) Hx) (DrP.zero p4 hD ⟨List.nodup_nil, Nat.le_refl _, fun x hx => absurd hx List.not_mem_nil⟩) (fun _ _ _ _ => True.intro) (fun j x Hc Hd hj pc y => ?_) fun Hc pc => ⟨line_le (Nat.le_of_ble_eq_true rfl), fun q hq => ?_⟩⟩
  · obtain ⟨rfl, ex⟩ := y
    have ex : x = vN j := ex.trans item_nat
    subst ex
    have Dp1 : D ≠ p := pot_ne p4 hD
    refine ⟨rfl, _, rfl, p, 2, rfl, pc.choose_spec.2.2.2, by decide, by decide, fun H5 d w5 p5 hd => ⟨rfl, _, rfl, ?_⟩⟩
    by_cases q : d = 0
    · subst q
      refine ifT (decide_eq_true rfl) ⟨_, rfl, ?_⟩
      exact (pc.drawn Dp1 w5 p5 (fun _ z => z)).put Dp1 (fun ns h => ⟨List.nodup_append.mpr ⟨h.1, List.nodup_cons.mpr ⟨List.not_mem_nil, List.nodup_nil⟩, fun a ha b hb => by rw [List.mem_singleton.mp hb]; have := h.2.2 a ha; omega⟩, by rw [List.length_append]; have := h.2.1; show _ + 1 ≤ _; omega, fun x hx => (List.mem_append.mp hx).elim (fun z => by have := h.2.2 x z; omega) fun z => by rw [List.mem_singleton.mp z]; omega⟩) (fun ns h => line_lt (by have := h.2.1; omega))
    · refine ifF (decide_eq_false fun z => q (by injection z with z; omega)) ?_
      exact pc.drawn Dp1 w5 p5 fun ns h => ⟨h.1, by have := h.2.1; omega, fun x hx => by have := h.2.2 x hx; omega⟩
  · obtain ⟨E, ⟨e1, e2, e3⟩, e4, e5, e6⟩ := pc
    have s4c : Same (Wo [p] H4) (Wo [p] Hc) := Same.trans e5 (wo_same _ _)
    have hqp : q ≠ p := pot_ne e6 hq
    have sq : Same Hc (upd Hc q (.tup [.ref ls, .ref D])) := same_new hq
    refine k _ q (.ref ls) (.ref D) S E (Same.trans w04 (Same.trans s4c (wo_mono sq))) (e6.same sq) (pot_none (Same.trans w04 s4c) hp e6 hq) upd_same (dp_mono (Same.trans s4c (wo_mono sq)) (.lst (SqL.of (pot_out0 lsp h4)) (dpAll_mono (wo_same _ _) d4))) (dp_pl (pot_ne p4 hD) (sq _ _ e4)) ⟨by omega, fun r hr => ?_⟩ (by omega) e1 fun e he => ?_
    · rw [lS]; exact hS r hr
    · rw [lS]; exact e3 e he
abbrev s__law_filter : Stmt := top 79
abbrev N__law_filter : List Str := ["_law_pot_here", "_law_letters", "_law_way"]
theorem sc__law_filter : FnScope N__law_filter ["_law_pot_here", "_law_letters"] (defScope s__law_filter) := ⟨rfl, rfl, rfl, by decide +kernel, rfl, by decide +kernel, by decide +kernel⟩
theorem ok__law_filter (T : Tx K mg CM CT) (D : DefAt K mg "_law_filter" s__law_filter) (c__law_draw : Cal P w K mg base 1 "_law_draw" ["_law_pot_here", "_law_many"] spDraw) (c__law_counting : Cal P w K mg base 2 "_law_counting" ["_law_pot_here", "_law_letters"] (spFil K)) (c__law_lately : Cal P w K mg base 2 "_law_lately" ["_law_pot_here", "_law_letters"] (spFil K)) (c__law_wild : Cal P w K mg base 2 "_law_wild" ["_law_pot_here", "_law_letters"] (spFil K)) : Cal P w K mg base 3 "_law_filter" ["_law_pot_here", "_law_letters"] (spFil K) := by
  refine cal_of D sc__law_filter (fun _ _ _ _ _ _ us hl => match us, hl with | [_, _], _ => rfl) (fun vs H Q E h => ?_) (fun f cdv A outer s H vs Q E hr h => ?_)
  · obtain ⟨_, _, rfl, _⟩ := h
    rfl
  have hu := hu_of hr
  obtain ⟨p, L, rfl, hp, hL, hL2, k⟩ := h
  refine ⟨_, (pss_cons (ps_set (i := 2) sc__law_filter.nd rfl (Or.inl rfl) (pe_c c__law_draw hr (by decide) rfl (pa_cons (pv 0) (pa_cons pe_int pa_nil))))
  (pss_cons (ps_if (pt_cmpR op_eq (pv 2) pe_int (nomark _)) (pss_one (ps_ret (pe_c c__law_counting hr (by decide) rfl (pa_cons (pv 0) (pa_cons (pv 1) pa_nil))))) pss_nil)
  (pss_one (ps_ret (pe_ifExp (pt_cmpR op_eq (pv 2) pe_int (nomark _)) (pe_c c__law_lately hr (by decide) rfl (pa_cons (pv 0) (pa_cons (pv 1) pa_nil))) (pe_c c__law_wild hr (by decide) rfl (pa_cons (pv 0) (pa_cons (pv 1) pa_nil)))))))), ?_⟩
  refine ⟨_, rfl, p, 4, rfl, hp, by decide, by decide, fun H1 way w1 p1 h1 => ⟨_, rfl, rfl, _, rfl, ?_⟩⟩
  have kk : ∀ (H' : Hp) (q : Addr) (a b : V) (S : Steps) (E : List Nat), Same (Wo [p] H1) (Wo [p] H') → Pot p H' → H1 q = none → H' q = some (.tup [a, b]) →
    Dp K (Wo [p] H') a (dLL S) → Dp K (Wo [p] H') b (dL E) → Whole L S → S.length ≤ 3 → E.Nodup → (∀ e ∈ E, e < S.length) → Q (.ref q) H' :=
    fun H' q a b S E s2 p2 hq e1 e2 e3 e4 e5 e6 e7 => k H' q a b S E (Same.trans w1 s2) p2 (pot_none w1 hp p1 hq) e1 e2 e3 e4 e5 e6 e7
  have nq : ∀ a : Nat, way ≠ a → decide (vN way = vN a) = false := fun a h => decide_eq_false fun z => h (by injection z with z; omega)
  by_cases q0 : way = 0
  · subst q0
    exact ifT (decide_eq_true rfl) ⟨_, rfl, _, rfl, p, L, rfl, p1, hL, hL2, kk⟩
  refine ifF (nq 0 q0) ⟨_, rfl, rfl, _, rfl, ?_⟩
  by_cases q1 : way = 1
  · subst q1
    exact ifT (decide_eq_true rfl) ⟨_, rfl, _, rfl, p, L, rfl, p1, hL, hL2, kk⟩
  · exact ifF (nq 1 q1) ⟨_, rfl, _, rfl, p, L, rfl, p1, hL, hL2, kk⟩
end
end M22

set_option maxRecDepth 100000
set_option maxHeartbeats 4000000
namespace M22
open PySem PySem.Spec PyProof.Rows L2
abbrev dM (M : Mach) : PyData := .tuple [dLL M.1, dL M.2]
section
variable {P : Program} {w : World} {K : PySem.W.Frag} {mg : Str → Option Value} {base : Heap} {CM CT : Addr}
theorem pair_of {H : Hp} {u : V} {M : Mach} (h : Dp K H u (dM M)) : ∃ t a b, u = .ref t ∧ SqT K H t [a, b] ∧ Dp K H a (dLL M.1) ∧ Dp K H b (dL M.2) := by
  obtain ⟨t, xs, e, q, d⟩ := tup_of h
  cases d with
  | cons da d =>
    cases d with
    | cons db d =>
      cases d
      exact ⟨t, _, _, e, q, da, db⟩
def spLChg (K : PySem.W.Frag) : Sp := fun vs H Q _ => ∃ (v vc : V) (l L : Nat) (Ms : List Mach) (c : Change), vs = [v, vc, vN l] ∧ Dp K H v (.list (Ms.map dM)) ∧ Ms.length ≤ 3 ∧ (∀ m ∈ Ms, Whole L m.1) ∧ (∀ m ∈ Ms, m.1.length ≤ 60) ∧ Dp K H vc (dTT c) ∧ IsCh Ms c ∧ l < L ∧
  ∀ (H' : Hp) (p : Addr), Same H H' → H p = none → Dp K H' (.ref p) (dTT (changed Ms c l)) → Q (.ref p) H'
abbrev s__law_changed : Stmt := top 82
abbrev N__law_changed : List Str := ["_law_machines", "_law_change", "_law_letter", "_law_found", "_law_steps", "_law_ends", "_law_states", "_law_state"]
theorem sc__law_changed : FnScope N__law_changed ["_law_machines", "_law_change", "_law_letter"] (defScope s__law_changed) := ⟨rfl, rfl, rfl, by decide +kernel, rfl, by decide +kernel, by decide +kernel⟩
theorem ok__law_changed (T : Tx K mg CM CT) (D : DefAt K mg "_law_changed" s__law_changed)  : Cal P w K mg base 1 "_law_changed" ["_law_machines", "_law_change", "_law_letter"] (spLChg K) := by
  refine cal_of D sc__law_changed (fun _ _ _ _ _ _ us hl => match us, hl with | [_, _, _], _ => rfl) (fun vs H Q E h => ?_) (fun f cdv A outer s H vs Q E hr h => ?_)
  · obtain ⟨_, _, _, _, _, _, rfl, _⟩ := h
    rfl
  have hu := hu_of hr
  obtain ⟨v, vc, l, L, Ms, c, rfl, hv, hMl, hW, hT, hc, hch, hlL, k⟩ := h
  refine ⟨_, (pss_cons (ps_set (i := 3) sc__law_changed.nd rfl (Or.inl rfl) (pe_lst pa_nil))
  (pss_cons (ps_for PassesOwn.never rfl (pi_zipMK K (by rfl) T.zip (pa_cons (pv 0) (pa_cons (pv 1) pa_nil))) (pg_tupK K (n := 2) rfl (pgs_cons (pg_tupK K (n := 2) rfl (pgs_cons (pg_name (i := 4) sc__law_changed.nd rfl (Or.inr rfl)) (pgs_cons (pg_name (i := 5) sc__law_changed.nd rfl (Or.inl rfl)) pgs_nil))) (pgs_cons (pg_name (i := 6) sc__law_changed.nd rfl (Or.inl rfl)) pgs_nil))) (pss_one (ps_expr (pe_bmK K PySem.F.plainAttrs_list PySem.F.slot_list_append PySem.F.type_list_append mt_append (pv 3) (pa_cons (pe_callTy (call_tupK K) (by rfl) T.tuple (by decide +kernel) (pa_cons (pe_lc (own := [("_law_state", 7)]) (tt := tYes) rfl sc__law_changed.nd (pi_tupK K (pv 6)) (blkOk_by (N := N__law_changed) (sc := (defScope s__law_changed)) (by decide +kernel)) (fun _ _ _ _ _ => (pg_name (i := 7) sc__law_changed.nd rfl (Or.inl rfl))) (fun _ _ _ _ _ => pts_nil) (fun _ _ _ _ _ => (pe_ix (ix_listK K) (pe_ix (ix_listK K) (pv 4) (pv 7) (fun _ _ => rfl)) (pv 2) (fun _ _ => rfl)))) pa_nil)) pa_nil)))))
  (pss_one (ps_ret (pe_callTy (call_tupK K) (by rfl) T.tuple (by decide +kernel) (pa_cons (pv 3) pa_nil)))))), ?_⟩
  obtain ⟨lm, ms, rfl, hl, lm_, dm⟩ := dp_len_l hv
  obtain ⟨tc, cs, rfl, qc, lc, dc⟩ := dp_len_t hc
  refine ⟨by show 0 ≤ sizeLine; decide, fun fd hfd => ?_⟩
  refine ⟨_, rfl, _, rfl, lm, tc, _, _, rfl, (same_new hfd).seq hl, Same.seqT (same_new hfd) qc, for_it (walk_zipM (K := K) (a := lm) (b := tc) (xs := ms) (ys := cs) (n := Ms.length) lm_ (by rw [lc, hch.1]))
    (fun i σ H1 => ∃ x4 x5 x6, σ = [some (.ref lm), some (.ref tc), some (vN l), some (.ref fd), x4, x5, x6, none] ∧ LcP K fd H (fun i => ((changed Ms c l).take i).map dT) i H1) ⟨none, none, none, rfl, LcP.zero hfd rfl⟩ (fun i σ H1 _ ⟨_, _, _, _, p⟩ => ⟨p.same.seq hl, Same.seqT p.same qc⟩) ?_ ?_⟩
  · rintro i x σ Ha Hb hi ⟨x4, x5, x6, rfl, p⟩ ⟨T9, u1, u2, rfl, hT9, rfl, e1, e2⟩
    obtain ⟨M, hMi⟩ := get_some hi
    obtain ⟨dm0, hdm0, du1⟩ := dm.get' e1
    rw [List.getElem?_map, hMi] at hdm0
    cases hdm0
    obtain ⟨t1, a1, b1, rfl, q1, da1, db1⟩ := pair_of du1
    obtain ⟨d0, hd0, du⟩ := dc.get' e2
    rw [List.getElem?_map] at hd0
    obtain ⟨r, hr, rfl⟩ := Option.map_eq_some_iff.mp hd0
    obtain ⟨tr, rfl, qr⟩ := t_of du
    obtain ⟨hrl, hrs⟩ := hch.2 i M r hMi hr
    have hMl60 := hT M (List.mem_of_getElem? hMi)
    have sb : Same Ha (upd Ha T9 (.tup [.ref t1, .ref tr])) := same_new hT9
    have s0b := Same.trans p.same sb
    obtain ⟨k1, k2⟩ := new_keeps (o := .tup [.ref t1, .ref tr]) hT9 p.some
    obtain ⟨acc0, g0, _⟩ := id p
    refine ⟨T9, _, rfl, SqT.of upd_same, rfl, _, _, rfl, t1, _, rfl, Same.seqT s0b q1, rfl, _, _, rfl, _, _, rfl, rfl, _, _, rfl, rfl, _, rfl, .inl ⟨rfl, _, SqL.of (k1.trans g0)⟩, _, rfl, tr, rfl, ⟨_, Same.seqT s0b qr⟩, fun D2 hD2 => lc_d (K := K) walk_tup (fun j => (r.take j).map fun s => dN (nx M.1 s l)) hD2 rfl (fun H' sm => Same.seqT (Same.trans s0b sm) qr) (fun j x Hc Hd hj p2 y => ?_) fun acc Hc h1 h2 h3 => ?_⟩
    · obtain ⟨rfl, hx⟩ := y
      obtain ⟨s0, hs0, rfl⟩ := get_vN hx
      have hsl := hrs s0 (List.mem_of_getElem? hs0)
      have da := dp_mono (Same.trans s0b p2.same) da1
      obtain ⟨r', hr1, hr2, hr3⟩ := (hW M (List.mem_of_getElem? hMi)).at hsl
      obtain ⟨n, hn⟩ := get_some (show l < r'.length by omega)
      obtain ⟨a', xs, cc, rfl, q1, q2, q3⟩ := row_l da hr1
      refine ⟨rfl, _, rfl, _, rfl, a', xs, _, _, rfl, rfl, q1, q2, _, rfl, cc, _, _, _, rfl, rfl, q3, at_num hn, ?_⟩
      refine p2.put0 (d := dN (nx M.1 s0 l)) (line_lt (by have := lt_of_get hs0; omega)) ?_ (take_map _ r hs0)
      unfold nx
      rw [getD_of hr1, getD_of hn]
      exact .int _
    · have eacc : acc = (r.map fun s => nx M.1 s l).map vN := nums_of (by
        rw [List.length_map, List.take_length] at h3
        rw [List.map_map]
        exact h3)
      subst eacc
      have sbc : Same (upd Ha T9 (.tup [.ref t1, .ref tr])) Hc := Same.trans h2 (wo_same _ _)
      refine ⟨D2, _, rfl, .inl ⟨SqL.of h1, fun t ht => ?_⟩⟩
      have hcf : Hc fd = some (.lst acc0) := sbc _ _ (k1.trans g0)
      have hN : LcN K fd H (fun i => ((changed Ms c l).take i).map dT) i (.ref t) (upd Hc t (.tup ((r.map fun s => nx M.1 s l).map vN))) :=
        p.put (d := dT (r.map fun s => nx M.1 s l)) (line_lt (by omega)) ((same_new ht _ _ hcf).trans g0.symm) (Same.trans k2 (wo_mono (Same.trans sbc (same_new ht)))) (dp_new_t ht (by rw [hcf]; exact fun z => nomatch z)) (take_map dT (changed Ms c l) (changed_get hMi hr))
      obtain ⟨acc1, z1, z2, z3⟩ := hN
      exact ⟨fd, acc1, _, rfl, rfl, z1, z2, _, _, _, rfl, z3⟩
  · rintro σ H1 ⟨x4, x5, x6, rfl, acc, h1, h2, h3, _⟩
    have hlen : (changed Ms c l).length = Ms.length := changed_len hch.1
    have h3 : DpAll K (Wo [fd] H1) acc (((changed Ms c l).take Ms.length).map dT) := h3
    rw [← hlen, List.take_length] at h3
    have s1 : Same H H1 := Same.trans h2 (wo_same _ _)
    exact ⟨_, rfl, fd, _, rfl, .inl ⟨SqL.of h1, fun t ht => k _ t (Same.trans s1 (same_new ht)) (Same.free s1 ht) (.tup (SqT.of upd_same) (dpAll_mono (Same.trans (wo_same _ _) (same_new ht)) h3))⟩⟩
end
end M22

set_option maxRecDepth 100000
set_option maxHeartbeats 4000000
namespace M22
open PySem PySem.Spec PyProof.Rows L2
theorem any_C {f : List Change} {c : Change} : ((f.map dTT).any fun z => PyData.eqv z (dTT c)) = decide (c ∈ f) := by
  rw [Bool.eq_iff_iff, List.any_eq_true, decide_eq_true_iff]
  constructor
  · rintro ⟨z, hz, e⟩
    obtain ⟨d, hd, rfl⟩ := List.mem_map.mp hz
    rw [eqv_dec eq_dTT] at e
    rw [← of_decide_eq_true e]; exact hd
  · intro h
    exact ⟨_, List.mem_map.mpr ⟨c, h, rfl⟩, (eq_dTT _ _).mpr rfl⟩
theorem bfs_word {L n : Nat} {Ms : List Mach} {f : List Change} (b : Bfs (nextC L Ms) (idle Ms) f n) : ∀ c ∈ f, ∃ w, Wd L w ∧ c = wc Ms w := by
  refine b.ind (P := fun c => ∃ w, Wd L w ∧ c = wc Ms w) ⟨[], Wd.nil, (wc_nil Ms).symm⟩ ?_
  rintro _ d ⟨w, hw, rfl⟩ hd
  obtain ⟨l, hl, rfl⟩ := List.mem_map.mp hd
  exact ⟨w ++ [l], hw.snoc (List.mem_range.mp hl), wc_snoc w l Ms⟩
theorem abc3_at {i : Nat} (h : i < 3) : ∃ c, atI (Str.ofString "abc").cps.toList (i : Int) = some c := by
  rcases i with _ | _ | _ | i
  · exact ⟨97, by decide +kernel⟩
  · exact ⟨98, by decide +kernel⟩
  · exact ⟨99, by decide +kernel⟩
  · omega
section
variable {P : Program} {w : World} {K : PySem.W.Frag} {mg : Str → Option Value} {base : Heap} {CM CT : Addr}
/-- between two turns of the law's search -/
def CI (K : PySem.W.Frag) (aw ac : Addr) (Hi : Hp) (f : List Change) (H : Hp) : Prop := ∃ (ts : List Str) (cs : List V), Same Hi (Wo [aw, ac] H) ∧ H aw = some (.lst (ts.map V.str)) ∧ ts.length = f.length ∧ (∀ t ∈ ts, t.length ≤ ts.length) ∧
  H ac = some (.lst cs) ∧ DpAll K (Wo [aw, ac] H) cs (f.map dTT)
def spLCls (K : PySem.W.Frag) : Sp := fun vs H Q _ => ∃ (v : V) (L most : Nat) (Ms : List Mach), vs = [vN L, v, vN most] ∧ Dp K H v (.list (Ms.map dM)) ∧ Ms.length ≤ 3 ∧ (∀ m ∈ Ms, Whole L m.1) ∧ (∀ m ∈ Ms, m.1.length ≤ 60) ∧ L ≤ 3 ∧ most ≤ 100 ∧
  ∀ (H' : Hp) (p aw ac : Addr) (ts : List Str) (f : List Change) (n : Nat), Same H H' → H p = none → H' p = some (.tup [.ref aw, .ref ac]) → H' aw = some (.lst (ts.map V.str)) → ts.length = f.length → f.length ≤ 103 → H ac = none → (∃ cs, H' ac = some (.lst cs) ∧ DpAll K H' cs (f.map dTT)) →
    Bfs (nextC L Ms) (idle Ms) f n → (f.length ≤ n ∨ most < f.length) → Q (.ref p) H'
abbrev s__law_classes : Stmt := top 81
abbrev N__law_classes : List Str := ["_law_letters", "_law_machines", "_law_most", "_law_idle", "_law_words", "_law_changes", "_law_at", "_law_letter", "_law_late", "_law_steps", "_law_ends"]
theorem sc__law_classes : FnScope N__law_classes ["_law_letters", "_law_machines", "_law_most"] (defScope s__law_classes) := ⟨rfl, rfl, rfl, by decide +kernel, rfl, by decide +kernel, by decide +kernel⟩
theorem ok__law_classes (T : Tx K mg CM CT) (D : DefAt K mg "_law_classes" s__law_classes) (c__law_changed : Cal P w K mg base 1 "_law_changed" ["_law_machines", "_law_change", "_law_letter"] (spLChg K)) : Cal P w K mg base 2 "_law_classes" ["_law_letters", "_law_machines", "_law_most"] (spLCls K) := by
  refine cal_of D sc__law_classes (fun _ _ _ _ _ _ us hl => match us, hl with | [_, _, _], _ => rfl) (fun vs H Q E h => ?_) (fun f cdv A outer s H vs Q E hr h => ?_)
  · obtain ⟨_, _, _, _, rfl, _⟩ := h
    rfl
  have hu := hu_of hr
  obtain ⟨v, L, most, Ms, rfl, hv, hMl, hW, hT, hL3, hmost, k⟩ := h
  refine ⟨_, (pss_cons (ps_set (i := 3) sc__law_classes.nd rfl (Or.inl rfl) (pe_callTy (call_tupK K) (by rfl) T.tuple (by decide +kernel) (pa_cons (pe_lc (own := [("_law_steps", 9), ("_law_ends", 10)]) (tt := tYes) rfl sc__law_classes.nd (pi_listK K (pv 1)) (blkOk_by (N := N__law_classes) (sc := (defScope s__law_classes)) (by decide +kernel)) (fun _ _ _ _ _ => (pg_tupK K (n := 2) rfl (pgs_cons (pg_name (i := 9) sc__law_classes.nd rfl (Or.inl rfl)) (pgs_cons (pg_name (i := 10) sc__law_classes.nd rfl (Or.inl rfl)) pgs_nil)))) (fun _ _ _ _ _ => pts_nil) (fun _ _ _ _ _ => (pe_tupRg rfl (by rfl) T.tuple (prg_1 (by rfl) T.range (pe_callB (call_lenK K) (by rfl) T.len PySem.boot_len (pa_cons (pv 9) pa_nil)))))) pa_nil)))
  (pss_cons (ps_par3 (i := 4) (j := 5) (l := 6) rfl sc__law_classes.nd rfl rfl rfl (by decide) (by decide) (by decide) rfl rfl rfl (pa_cons (pe_lst (pa_cons pe_str pa_nil)) (pa_cons (pe_lst (pa_cons (pv 3) pa_nil)) (pa_cons pe_int pa_nil))) (by rfl))
  (pss_cons (ps_while PassesOwn.never (PW.pt (pw_and (pt_cmpR op_lt (pv 6) (pe_callB (call_lenK K) (by rfl) T.len PySem.boot_len (pa_cons (pv 4) pa_nil)) (nomark _)) (pw_and1 (pt_cmpR op_le (pe_callB (call_lenK K) (by rfl) T.len PySem.boot_len (pa_cons (pv 4) pa_nil)) (pv 2) (nomark _))))) (pss_cons (ps_for PassesOwn.never rfl (pi_range1 rfl T.range (pa_cons (pv 0) pa_nil)) (pg_name (i := 7) sc__law_classes.nd rfl (Or.inl rfl)) (pss_cons (ps_set (i := 8) sc__law_classes.nd rfl (Or.inl rfl) (pe_c c__law_changed hr (by decide) rfl (pa_cons (pv 1) (pa_cons (pe_ix (ix_listK K) (pv 5) (pv 6) (fun _ _ => rfl)) (pa_cons (pv 7) pa_nil)))))
      (pss_one (ps_if (pt_cmpR (op_notInDK K (hu_65 hr)) (pv 8) (pv 5) (by rfl)) (pss_cons (ps_expr (pe_bmK K PySem.F.plainAttrs_list PySem.F.slot_list_append PySem.F.type_list_append mt_append (pv 5) (pa_cons (pv 8) pa_nil)))
        (pss_one (ps_expr (pe_bmK K PySem.F.plainAttrs_list PySem.F.slot_list_append PySem.F.type_list_append mt_append (pv 4) (pa_cons (pe_op op_add_str (pe_ix (ix_listK K) (pv 4) (pv 6) (fun _ _ => rfl)) (pe_ix ix_str pe_str (pv 7) (fun _ _ => rfl))) pa_nil))))) pss_nil))))
    (pss_one (ps_set (i := 6) sc__law_classes.nd rfl (Or.inl rfl) (pe_op op_add (pv 6) pe_int)))))
  (pss_one (ps_ret (pe_tup (pa_cons (pv 4) (pa_cons (pv 5) pa_nil)))))))), ?_⟩
  obtain ⟨lm, ms, rfl, hl, lm_, dm⟩ := dp_len_l hv
  refine ⟨_, rfl, lm, rfl, ⟨_, hl⟩, fun D hD => lc_d (K := K) walk_list (fun i => ((idle Ms).take i).map dT) hD rfl (fun H' sm => sm.seq hl) (fun i x Ha Hb hi p y => ?_) fun acc Ha h1 h2 h3 => ?_⟩
  · obtain ⟨rfl, hx⟩ := y
    obtain ⟨M, hMi⟩ := get_some (show i < Ms.length by rw [← lm_]; exact hi)
    obtain ⟨d0, hd0, du⟩ := dm.get' hx
    rw [List.getElem?_map, hMi] at hd0
    cases hd0
    obtain ⟨t1, a1, b1, rfl, q1, da1, db1⟩ := pair_of du
    have hMl60 := hT M (List.mem_of_getElem? hMi)
    obtain ⟨ta, xs, rfl, qa, la, _⟩ := dp_len_l da1
    refine ⟨t1, _, rfl, Same.seqT p.same q1, rfl, _, _, rfl, _, _, rfl, rfl, rfl, _, rfl, ta, xs, rfl, .inl (p.same.seq qa), _, rfl, by rw [la]; exact rgOk_nat (by omega), fun q hq => ?_⟩
    rw [la, rgV_nat]
    obtain ⟨k1, k2⟩ := new_keeps (o := .tup ((List.range M.1.length).map vN)) hq p.some
    refine p.put (d := dT (List.range M.1.length)) (line_lt (by omega)) k1 k2 (dp_new_t hq p.some) (take_map dT (idle Ms) ?_)
    unfold idle
    rw [List.getElem?_map, hMi]
    rfl
  have hlen : (idle Ms).length = ms.length := by unfold idle; rw [List.length_map, lm_]
  rw [← hlen, List.take_length] at h3
  refine ⟨D, _, rfl, .inl ⟨SqL.of h1, fun pi hpi => ?_⟩⟩
  have s1 : Same H (upd Ha pi (.tup acc)) := Same.trans h2 (Same.trans (wo_same _ _) (same_new hpi))
  have di : Dp K (upd Ha pi (.tup acc)) (.ref pi) (dTT (idle Ms)) := .tup (SqT.of upd_same) (dpAll_mono (Same.trans (wo_same _ _) (same_new hpi)) h3)
  generalize upd Ha pi (.tup acc) = H1 at s1 di
  -- words, changes, at = ([''], [idle], 0)
  refine ⟨line_le (Nat.le_of_ble_eq_true rfl), fun aw haw => ⟨_, rfl, line_le (Nat.le_of_ble_eq_true rfl), fun ac hac => ⟨_, _, _, rfl, ?_⟩⟩⟩
  have nwc : aw ≠ ac := fun e => by rw [← e, upd_same] at hac; cases hac
  have hac' : H1 ac = none := by rw [upd_ne nwc.symm] at hac; exact hac
  have sii : Same H1 (Wo [aw, ac] H1) := fun b o e => by
    rw [wo_out fun z => ?_]
    · exact e
    · rcases List.mem_cons.mp z with z | z
      · rw [z, haw] at e; cases e
      · rw [List.mem_singleton.mp z, hac'] at e; cases e
  refine ⟨fun m σ H3 => ∃ (f : List Change) (n : Nat) (x7 x8 : Option V), σ = [some (vN L), some (.ref lm), some (vN most), some (.ref pi), some (.ref aw), some (.ref ac), some (vN n), x7, x8, none, none] ∧ m = most + 1 - n ∧ CI K aw ac H1 f H3 ∧ Bfs (nextC L Ms) (idle Ms) f n ∧ f.length ≤ most + 3,
    ⟨_, [idle Ms], 0, none, none, rfl, rfl, ⟨[""], [.ref pi], ?_, ?_, rfl, fun t ht => ?_, upd_same, ?_⟩, .start, by show 1 ≤ _; omega⟩, ?_⟩
  · rw [wo_upd (by simp), wo_upd (by simp)]; exact sii
  · rw [upd_ne nwc, upd_same]; rfl
  · rw [List.mem_singleton.mp ht]; exact Nat.zero_le _
  · rw [wo_upd (by simp), wo_upd (by simp)]
    exact .cons (dp_mono sii di) .nil
  rintro m σ H3 ⟨f, n, x7, x8, rfl, rfl, ⟨ts, cs, s3, h3w, lw, tsl, h3c, dcs⟩, b, hfm⟩
  refine ⟨_, rfl, _, rfl, aw, _, rfl, .inl (SqL.of h3w), _, _, rfl, rfl, _, rfl, ?_⟩
  have sHi := fun (H' : Hp) (z : Same H1 H') => Same.trans s1 z
  have fin : ∀ (hx : f.length ≤ n ∨ most < f.length) (p : Addr), H3 p = none → Q (.ref p) (upd H3 p (.tup [.ref aw, .ref ac])) := fun hx p hp => by
    have s03 : Same H H3 := Same.trans s1 (Same.trans s3 (wo_same _ _))
    have sn : Same H3 (upd H3 p (.tup [.ref aw, .ref ac])) := same_new hp
    exact k _ p aw ac ts f n (Same.trans s03 sn) (Same.free s03 hp) upd_same (sn _ _ h3w) lw (by omega) (Same.free s1 hac') ⟨cs, sn _ _ h3c, dpAll_mono (Same.trans (wo_same _ _) sn) dcs⟩ b hx
  have lts : (ts.map V.str).length = f.length := by rw [List.length_map, lw]
  rcases (Nat.lt_or_ge n f.length).symm with hn | hn
  · refine ifF (decide_eq_false (by omega)) (ifF rfl ?_)
    exact ⟨_, rfl, _, rfl, line_le (Nat.le_of_ble_eq_true rfl), fun p hp => fin (.inl (by omega)) p hp⟩
  refine ifT (decide_eq_true (by omega)) ⟨_, rfl, aw, _, rfl, .inl (SqL.of h3w), _, rfl, _, _, rfl, rfl, _, rfl, ?_⟩
  rcases Nat.lt_or_ge most f.length with hm | hm
  · refine ifF (decide_eq_false (by omega)) ?_
    exact ⟨_, rfl, _, rfl, line_le (Nat.le_of_ble_eq_true rfl), fun p hp => fin (.inr (by omega)) p hp⟩
  refine ifT (decide_eq_true (by omega)) ⟨_, fun _ _ z => z, ?_⟩
  clear fin
  obtain ⟨c, hc⟩ := get_some hn
  obtain ⟨wd, hwd, ecw⟩ := bfs_word b c (List.mem_of_getElem? hc)
  have hch : IsCh Ms c := by rw [ecw]; exact IsCh.wc hW hwd
  refine ⟨_, rfl, (L : Int), rfl, by omega, by omega, for_it (walk_range (lo := 0) (n := (L : Int).toNat)) (fun i σ H4 => ∃ x7 x8, σ = [some (vN L), some (.ref lm), some (vN most), some (.ref pi), some (.ref aw), some (.ref ac), some (vN n), x7, x8, none, none] ∧ CI K aw ac H1 (addAll f ((List.range i).map (changed Ms c))) H4)
    ⟨x7, x8, rfl, ts, cs, s3, h3w, lw, tsl, h3c, dcs⟩ (fun _ _ _ _ _ => True.intro) ?_ ?_⟩
  · clear lts ts cs s3 h3w lw tsl h3c dcs
    rintro i x σ Hq H4 hi ⟨x7, x8, rfl, ts, cs, s4, h4w, lw, tsl, h4c, dcs⟩ ⟨rfl, ex⟩
    have ex : x = vN i := ex.trans item_nat
    subst ex
    have hiL : i < L := by omega
    have hpi : f <+: addAll f ((List.range i).map (changed Ms c)) := addAll_prefix _ _
    have hci : (addAll f ((List.range i).map (changed Ms c)))[n]? = some c := by
      obtain ⟨t, e⟩ := hpi
      rw [← e, List.getElem?_append_left hn]
      exact hc
    have hlen := addAll_length_le f ((List.range i).map (changed Ms c))
    rw [List.length_map, List.length_range] at hlen
    obtain ⟨u, hu, du⟩ := dcs.get (i := n) (d := dTT c) (by rw [List.getElem?_map, hci]; rfl)
    have s14 := Same.trans s4 (wo_same [aw, ac] H4)
    have esn : addAll f ((List.range (i + 1)).map (changed Ms c)) = addAll f ((List.range i).map (changed Ms c) ++ [changed Ms c i]) := by
      rw [List.range_succ, List.map_append]
      rfl
    have fiT : changed Ms c i ∈ addAll f ((List.range i).map (changed Ms c)) → addAll f ((List.range (i + 1)).map (changed Ms c)) = addAll f ((List.range i).map (changed Ms c)) := fun z => by
      rw [esn, addAll_snoc, if_pos z]
    have fiF : ¬ changed Ms c i ∈ addAll f ((List.range i).map (changed Ms c)) → addAll f ((List.range (i + 1)).map (changed Ms c)) = addAll f ((List.range i).map (changed Ms c)) ++ [changed Ms c i] := fun z => by
      rw [esn, addAll_snoc, if_neg z]
    clear esn
    generalize addAll f ((List.range (i + 1)).map (changed Ms c)) = f1 at fiT fiF ⊢
    generalize addAll f ((List.range i).map (changed Ms c)) = f0 at hpi hci hlen fiT fiF lw dcs
    refine ⟨_, rfl, _, rfl, _, rfl, ac, cs, _, _, rfl, rfl, SqL.of h4c, atI_nat hu, _, rfl, .ref lm, u, i, L, Ms, c, rfl, dp_mono (Same.trans s1 s14) hv, hMl, hW, hT, dp_mono (wo_same _ _) du, hch, hiL, fun H5 pl s45 hpl dl0 => ?_⟩
    have h5w := s45 _ _ h4w
    have h5c := s45 _ _ h4c
    have w45 := wo_mono (M := [aw, ac]) s45
    have s5 := Same.trans s4 w45
    have nt : NoTup [aw, ac] H5 := fun b hb => by
      rcases List.mem_cons.mp hb with e | hb
      · rw [e]; exact noTup_of h5w (fun _ z => nomatch z) (fun _ _ z => nomatch z)
      · rw [List.mem_singleton.mp hb]; exact noTup_of h5c (fun _ z => nomatch z) (fun _ _ z => nomatch z)
    have dl := dpTT_outM nt dl0
    have dcs := dpAll_mono w45 dcs
    clear s4 h4w h4c du hu w45
    refine ⟨_, rfl, _, rfl, dTT (changed Ms c i), f0.map dTT, dl0, .lst (SqL.of h5c) (dpAll_mono (wo_same _ _) dcs), (flat_dTT _).shaped (by decide), (flat_C f0).shaped (by decide), _, rfl, ?_⟩
    rw [any_C]
    by_cases hin : changed Ms c i ∈ f0
    · have fi := fiT hin
      refine ifF (by simp [hin]) ⟨_, _, rfl, ts, cs, s5, h5w, by rw [fi]; exact lw, tsl, h5c, by rw [fi]; exact dcs⟩
    have fi1 : f1 = f0 ++ [changed Ms c i] := fiF hin
    have lcs : cs.length = f0.length := by rw [dcs.length, List.length_map]
    obtain ⟨tw, htw⟩ := get_some (show n < ts.length by have := lt_of_get hci; omega)
    obtain ⟨sg, hsg⟩ := abc3_at (show i < 3 by omega)
    have twl := tsl tw (List.mem_of_getElem? htw)
    have h6w : (upd H5 ac (.lst (cs ++ [.ref pl]))) aw = some (.lst (ts.map V.str)) := (upd_ne nwc).trans h5w
    refine ifT (by simp [hin]) ⟨_, rfl, .inl ⟨rfl, _, SqL.of h5c⟩, _, rfl, ac, cs, _, rfl, rfl, h5c, line_lt (by omega), _, rfl, .inl ⟨rfl, _, SqL.of h6w⟩, _, rfl, _, rfl, aw, _, _, _, rfl, rfl, SqL.of h6w, atI_nat (j := n) (by rw [List.getElem?_map, htw]; rfl), _, rfl, _, _, _, rfl, rfl, line_le (by show 3 ≤ 1000; decide), hsg, _, _, rfl, rfl, line_le (by show tw.length + 1 ≤ 1000; omega), aw, _, _, rfl, rfl, h6w, line_lt (by rw [List.length_map]; omega), _, _, rfl, ts ++ [tw ++ ⟨#[sg]⟩], cs ++ [.ref pl], ?_, ?_, ?_, fun t ht => ?_, ?_, ?_⟩
    · rw [wo_upd (by simp), wo_upd (by simp)]; exact s5
    · rw [upd_same, List.map_append]; rfl
    · rw [fi1, List.length_append, List.length_append, lw]; rfl
    · rw [List.length_append]
      rcases List.mem_append.mp ht with z | z
      · have := tsl t z; omega
      · rw [List.mem_singleton.mp z]
        have e : (tw ++ (⟨#[sg]⟩ : Str)).length = tw.length + 1 := by
          show (tw.cps ++ #[sg]).size = tw.cps.size + 1
          rw [Array.size_append]
          rfl
        rw [e]
        show _ ≤ ts.length + 1
        omega
    · exact (upd_ne nwc.symm).trans upd_same
    · rw [wo_upd (by simp), wo_upd (by simp), fi1, List.map_append]
      exact dcs.snoc dl
  rintro σ H4 ⟨x7, x8, rfl, ci⟩
  have hb := addAll_length_le f (nextC L Ms c)
  have el : (nextC L Ms c).length = L := by unfold nextC; rw [List.length_map, List.length_range]
  refine ⟨_, rfl, _, _, rfl, rfl, _, by show most + 1 - (n + 1) < most + 1 - n; omega, _, n + 1, x7, x8, rfl, rfl, ci, .turn b hc, by show (addAll f (nextC L Ms c)).length ≤ _; omega⟩
end
end M22

set_option maxRecDepth 100000
set_option maxHeartbeats 4000000
namespace M22
open PySem PySem.Spec PyProof.Rows L2
theorem ch_step {L l : Nat} {Ms : List Mach} {c : Change} (hW : ∀ m ∈ Ms, Whole L m.1) (hl : l < L) {wd : List Nat} (hw : Wd L wd) (e : c = wc Ms wd) : IsCh Ms c ∧ changed Ms c l = wc Ms (wd ++ [l]) := by
  subst e
  exact ⟨IsCh.wc hW hw, wc_snoc wd l Ms⟩
theorem wd_take {L : Nat} {wd : List Nat} (h : Wd L wd) (i : Nat) : Wd L (wd.take i) := fun k hk => h k (List.mem_of_mem_take hk)
section
variable {P : Program} {w : World} {K : PySem.W.Frag} {mg : Str → Option Value} {base : Heap} {CM CT : Addr}
def spLClass (K : PySem.W.Frag) : Sp := fun vs H Q _ => ∃ (v vf : V) (wd : List Nat) (L : Nat) (Ms : List Mach) (C : List Change), vs = [v, vf, .str (sW wd)] ∧ Dp K H v (.list (Ms.map dM)) ∧ Ms.length ≤ 3 ∧ (∀ m ∈ Ms, m.1.length ≤ 60) ∧ Dp K H vf (.list (C.map dTT)) ∧ Classes L Ms C ∧ L ≤ 3 ∧ Wd L wd ∧
  ∀ H', Same H H' → Q (vN (clsOf Ms C wd)) H'
abbrev s__law_class : Stmt := top 83
abbrev N__law_class : List Str := ["_law_machines", "_law_changes", "_law_word", "_law_change", "_law_sign"]
theorem sc__law_class : FnScope N__law_class ["_law_machines", "_law_changes", "_law_word"] (defScope s__law_class) := ⟨rfl, rfl, rfl, by decide +kernel, rfl, by decide +kernel, by decide +kernel⟩
theorem ok__law_class (T : Tx K mg CM CT) (D : DefAt K mg "_law_class" s__law_class) (c__law_changed : Cal P w K mg base 1 "_law_changed" ["_law_machines", "_law_change", "_law_letter"] (spLChg K)) : Cal P w K mg base 2 "_law_class" ["_law_machines", "_law_changes", "_law_word"] (spLClass K) := by
  refine cal_of D sc__law_class (fun _ _ _ _ _ _ us hl => match us, hl with | [_, _, _], _ => rfl) (fun vs H Q E h => ?_) (fun f cdv A outer s H vs Q E hr h => ?_)
  · obtain ⟨_, _, _, _, _, _, rfl, _⟩ := h
    rfl
  have hu := hu_of hr
  obtain ⟨v, vf, wd, L, Ms, C, rfl, hv, hMl, hT, hf, Z, hL3, hwd, k⟩ := h
  refine ⟨_, (pss_cons (ps_set (i := 3) sc__law_class.nd rfl (Or.inl rfl) (pe_ix (ix_listK K) (pv 1) pe_int (fun _ _ => rfl)))
  (pss_cons (ps_for PassesOwn.never rfl (pi_str (pv 2)) (pg_name (i := 4) sc__law_class.nd rfl (Or.inl rfl)) (pss_one (ps_set (i := 3) sc__law_class.nd rfl (Or.inl rfl) (pe_c c__law_changed hr (by decide) rfl (pa_cons (pv 0) (pa_cons (pv 3) (pa_cons (pe_bmK K PySem.F.plainAttrs_str PySem.F.slot_str_index PySem.F.type_str_index mt_sindex pe_str (pa_cons (pv 4) pa_nil)) pa_nil)))))))
  (pss_one (ps_ret (pe_bmK K PySem.F.plainAttrs_list PySem.F.slot_list_index PySem.F.type_list_index (mt_indexDK K (hu_65 hr)) (pv 1) (pa_cons (pv 3) pa_nil)))))), ?_⟩
  have hW : ∀ m ∈ Ms, Whole L m.1 := fun m hm => (Z.least m hm).whole
  obtain ⟨ac, cs, rfl, hac, lac, dcs⟩ := dp_len_l hf
  obtain ⟨u, hu, du⟩ := dcs.get (i := 0) (d := dTT (idle Ms)) (by rw [List.getElem?_map, Z.bfs.head]; rfl)
  refine ⟨_, rfl, ac, cs, _, _, rfl, rfl, hac, atI_nat (j := 0) hu, ?_⟩
  refine ⟨_, rfl, sW wd, rfl, for_it walk_str (fun i σ H1 => ∃ vc x4, σ = [some v, some (.ref ac), some (.str (sW wd)), some vc, x4] ∧ Same H H1 ∧ Dp K H1 vc (dTT (wc Ms (wd.take i)))) ⟨u, none, rfl, fun _ _ z => z, by rw [List.take_zero, wc_nil]; exact du⟩ (fun _ _ _ _ _ => True.intro) ?_ ?_⟩
  · rintro i x σ Ha Hb hi ⟨vc, x4, rfl, sa, dc⟩ ⟨rfl, c, hc, rfl⟩
    obtain ⟨l, hl1, rfl⟩ := sW_get hc
    have hll := hwd l (List.mem_of_getElem? hl1)
    obtain ⟨hch, est⟩ := ch_step hW hll (wd_take hwd i) rfl
    refine ⟨_, rfl, _, rfl, rfl, _, rfl, _, _, l, [], rfl, rfl, abc_at l (by omega), v, vc, l, L, Ms, _, rfl, dp_mono sa hv, hMl, hW, hT, dc, hch, hll, fun H2 p s2 hp d2 => ⟨_, _, rfl, Same.trans sa s2, ?_⟩⟩
    rw [est] at d2
    have e : wd.take (i + 1) = wd.take i ++ [l] := by rw [List.take_succ, hl1]; rfl
    rw [e]; exact d2
  rintro σ H1 ⟨vc, x4, rfl, s1, dc⟩
  have et : wd.take (sW wd).cps.size = wd := List.take_of_length_le (by have : (sW wd).cps.size = wd.length := sW_len wd; omega)
  rw [et] at dc
  have hin := Z.all wd hwd
  refine ⟨_, rfl, .inl ⟨rfl, _, s1.seq hac⟩, _, rfl, ac, vc, dTT (wc Ms wd), C.map dTT, C.idxOf (wc Ms wd), dTT (wc Ms wd), rfl, rfl, dp_mono s1 (.lst hac dcs), dc, (flat_C C).shaped (by decide), (flat_dTT _).shaped (by decide), ?_, (eq_dTT _ _).mpr rfl, fun m z hm hz => first_at Z.bfs.nodup m z hm hz, k H1 s1⟩
  rw [List.getElem?_map, get_idxOfA hin]
  rfl
end
end M22

set_option maxRecDepth 100000
set_option maxHeartbeats 4000000
namespace M22
open PySem PySem.Spec PyProof.Rows L2
theorem any_of {α : Type} [DecidableEq α] {f : α → PyData} (h : EqAs f) {l : List α} {c : α} : ((l.map f).any fun z => PyData.eqv z (f c)) = decide (c ∈ l) := by
  rw [Bool.eq_iff_iff, List.any_eq_true, decide_eq_true_iff]
  constructor
  · rintro ⟨z, hz, e⟩
    obtain ⟨d, hd, rfl⟩ := List.mem_map.mp hz
    rw [eqv_dec h] at e
    rw [← of_decide_eq_true e]; exact hd
  · intro h1
    exact ⟨_, List.mem_map.mpr ⟨c, h1, rfl⟩, (h _ _).mpr rfl⟩
theorem nx_rowsC {L i l : Nat} {Ms : List Mach} {C : List Change} {c : Change} (h : C[i]? = some c) (hl : l < L) : nx (rowsC L Ms C) i l = C.idxOf (changed Ms c l) := by
  show ((rowsC L Ms C).getD i []).getD l 0 = _
  rw [getD_of (x := (List.range L).map fun l => C.idxOf (changed Ms c l)) (by unfold rowsC; rw [List.getElem?_map, h]; rfl)]
  exact getD_of (by rw [List.getElem?_map, List.getElem?_range hl]; rfl)
section
variable {P : Program} {w : World} {K : PySem.W.Frag} {mg : Str → Option Value} {base : Heap} {CM CT : Addr}
def spLMet (K : PySem.W.Frag) : Sp := fun vs H Q _ => ∃ (v vf vS vE : V) (L : Nat) (Ms : List Mach) (C : List Change) (S : Steps) (E : List Nat), vs = [v, vN L, vf, vS, vE] ∧ Dp K H v (.list (Ms.map dM)) ∧ Ms.length ≤ 3 ∧ (∀ m ∈ Ms, m.1.length ≤ 60) ∧ Dp K H vf (.list (C.map dTT)) ∧ Classes L Ms C ∧ C.length ≤ 10 ∧ L ≤ 3 ∧
  Dp K H vS (dLL S) ∧ Whole L S ∧ S.length ≤ 60 ∧ Dp K H vE (dL E) ∧
  ∀ (H' : Hp) (p : Addr) (due : List Nat), Same H H' → H p = none → H' p = some (.lst (due.map vN)) → Wide L (rowsC L Ms C) S E due → Q (.ref p) H'
abbrev s__law_met : Stmt := top 86
abbrev N__law_met : List Str := ["_law_told", "_law_letters", "_law_changes", "_law_steps", "_law_ends", "_law_met_here", "_law_left", "_law_one", "_law_state", "_law_letter", "_law_late", "_law_pair"]
theorem sc__law_met : FnScope N__law_met ["_law_told", "_law_letters", "_law_changes", "_law_steps", "_law_ends"] (defScope s__law_met) := ⟨rfl, rfl, rfl, by decide +kernel, rfl, by decide +kernel, by decide +kernel⟩
theorem ok__law_met (T : Tx K mg CM CT) (D : DefAt K mg "_law_met" s__law_met) (c__law_changed : Cal P w K mg base 1 "_law_changed" ["_law_machines", "_law_change", "_law_letter"] (spLChg K)) : Cal P w K mg base 2 "_law_met" ["_law_told", "_law_letters", "_law_changes", "_law_steps", "_law_ends"] (spLMet K) := by
  refine cal_of D sc__law_met (fun _ _ _ _ _ _ us hl => match us, hl with | [_, _, _, _, _], _ => rfl) (fun vs H Q E h => ?_) (fun f cdv A outer s H vs Q E hr h => ?_)
  · obtain ⟨_, _, _, _, _, _, _, _, _, rfl, _⟩ := h
    rfl
  have hu := hu_of hr
  obtain ⟨v, vf, vS, vE, L, Ms, C, S, E, rfl, hv, hMl, hT, hf, Z, hC10, hL3, hS, WS, hSl, hE, k⟩ := h
  refine ⟨_, (pss_cons (ps_par (i := 5) (j := 6) rfl sc__law_met.nd rfl rfl (by decide) rfl rfl (pa_cons (pe_lst (pa_cons (pe_tup (pa_cons pe_int (pa_cons pe_int pa_nil))) pa_nil)) (pa_cons (pe_lst (pa_cons (pe_tup (pa_cons pe_int (pa_cons pe_int pa_nil))) pa_nil)) pa_nil)) (by rfl))
  (pss_cons (ps_while PassesOwn.never (pt_cmpR (op_neDK K (hu_64 hr)) (pv 6) (pe_lst pa_nil) (nomark _)) (pss_cons (ps_asg (pe_bm0 PySem.F.plainAttrs_list PySem.F.slot_list_pop PySem.F.type_list_pop mt_pop (pv 6)) (pg_tupK K (n := 2) rfl (pgs_cons (pg_name (i := 7) sc__law_met.nd rfl (Or.inl rfl)) (pgs_cons (pg_name (i := 8) sc__law_met.nd rfl (Or.inl rfl)) pgs_nil))))
    (pss_one (ps_for PassesOwn.never rfl (pi_range1 rfl T.range (pa_cons (pv 1) pa_nil)) (pg_name (i := 9) sc__law_met.nd rfl (Or.inl rfl)) (pss_cons (ps_set (i := 10) sc__law_met.nd rfl (Or.inl rfl) (pe_bmK K PySem.F.plainAttrs_list PySem.F.slot_list_index PySem.F.type_list_index (mt_indexDK K (hu_65 hr)) (pv 2) (pa_cons (pe_c c__law_changed hr (by decide) rfl (pa_cons (pv 0) (pa_cons (pe_ix (ix_listK K) (pv 2) (pv 7) (fun _ _ => rfl)) (pa_cons (pv 9) pa_nil)))) pa_nil)))
      (pss_cons (ps_set (i := 11) sc__law_met.nd rfl (Or.inl rfl) (pe_tup (pa_cons (pv 10) (pa_cons (pe_ix (ix_listK K) (pe_ix (ix_listK K) (pv 3) (pv 8) (fun _ _ => rfl)) (pv 9) (fun _ _ => rfl)) pa_nil))))
      (pss_one (ps_if (pt_cmpR (op_notInDK K (hu_65 hr)) (pv 11) (pv 5) (by rfl)) (pss_cons (ps_expr (pe_bmK K PySem.F.plainAttrs_list PySem.F.slot_list_append PySem.F.type_list_append mt_append (pv 5) (pa_cons (pv 11) pa_nil)))
        (pss_one (ps_expr (pe_bmK K PySem.F.plainAttrs_list PySem.F.slot_list_append PySem.F.type_list_append mt_append (pv 6) (pa_cons (pv 11) pa_nil))))) pss_nil))))))))
  (pss_one (ps_ret (pe_callB (cr_sortedSet rfl) (by rfl) T.sorted (by decide +kernel) (pa_cons (pe_callTy (cr_setI rfl) (by rfl) T.set (by decide +kernel) (pa_cons (pe_lc (own := [("_law_one", 7), ("_law_state", 8)]) rfl sc__law_met.nd (pi_listK K (pv 5)) (blkOk_by (N := N__law_met) (sc := (defScope s__law_met)) (by decide +kernel)) (fun _ _ _ _ _ => (pg_tupK K (n := 2) rfl (pgs_cons (pg_name (i := 7) sc__law_met.nd rfl (Or.inl rfl)) (pgs_cons (pg_name (i := 8) sc__law_met.nd rfl (Or.inl rfl)) pgs_nil)))) (fun _ _ _ _ _ => (pts_one (pt_cmpR (op_inK K) (pv 8) (pv 4) (by rfl)))) (fun _ _ _ _ _ => (pv 7))) pa_nil)) pa_nil)))))), ?_⟩
  have hW : ∀ m ∈ Ms, Whole L m.1 := fun m hm => (Z.least m hm).whole
  obtain ⟨ac, cs, rfl, hac, lac, dcs⟩ := dp_len_l hf
  obtain ⟨ae, rfl, qe⟩ := l_of hE
  have WR : Whole L (rowsC L Ms C) := Z.whole
  have hRl : (rowsC L Ms C).length = C.length := rowsC_length
  have hnR : ∀ {i l : Nat} {c : Change}, C[i]? = some c → l < L → nx (rowsC L Ms C) i l = C.idxOf (changed Ms c l) := nx_rowsC
  generalize rowsC L Ms C = R at *
  -- met, left
  refine ⟨line_le (Nat.le_of_ble_eq_true rfl), fun z1 hz1 => ⟨line_le (Nat.le_of_ble_eq_true rfl), fun am ham => ⟨line_le (Nat.le_of_ble_eq_true rfl), fun z2 hz2 => ⟨line_le (Nat.le_of_ble_eq_true rfl), fun al hal => ⟨_, _, rfl, ?_⟩⟩⟩⟩⟩
  have z1m : z1 ≠ am := ne_of_none upd_same ham
  have amz2 : am ≠ z2 := ne_of_none (o := .lst [.ref z1]) upd_same hz2
  have aml : am ≠ al := ne_of_none (o := .lst [.ref z1]) ((upd_ne amz2).trans upd_same) hal
  have z2l : z2 ≠ al := ne_of_none (o := .tup [.int 0, .int 0]) upd_same hal
  have s1 : Same H (upd H z1 (.tup [.int 0, .int 0])) := same_new hz1
  have s12 : Same H (upd (upd (upd H z1 (.tup [.int 0, .int 0])) am (.lst [.ref z1])) z2 (.tup [.int 0, .int 0])) := Same.trans s1 (Same.trans (same_new ham) (same_new hz2))
  have amH : H am = none := Same.free s1 ham
  have alH : H al = none := Same.free s12 hal
  have z12 : z1 ≠ z2 := ne_of_none (o := .tup [.int 0, .int 0]) ((upd_ne z1m).trans upd_same) hz2
  have z1l : z1 ≠ al := ne_of_none (o := .tup [.int 0, .int 0]) ((upd_ne z12).trans ((upd_ne z1m).trans upd_same)) hal
  have nM : ∀ b ∈ [am, al], H b = none := fun b hb => by
    rcases List.mem_cons.mp hb with e | hb
    · rw [e]; exact amH
    · rw [List.mem_singleton.mp hb]; exact alH
  have s1M : ∀ {Hx : Hp}, Same H Hx → Same H (Wo [am, al] Hx) := fun s b o e => by
    rw [wo_out fun z => by rw [nM b z] at e; cases e]
    exact s b o e
  let WI : List (Nat × Nat) → List (Nat × Nat) → Hp → Prop := fun mt lf Hx => ∃ (es ls : List V), Same H (Wo [am, al] Hx) ∧ Hx am = some (.lst es) ∧ Hx al = some (.lst ls) ∧ DpAll K (Wo [am, al] Hx) es (mt.map dP) ∧ DpAll K (Wo [am, al] Hx) ls (lf.map dP)
  refine ⟨fun mm σ Hx => ∃ (mt lf : List (Nat × Nat)) (x7 x8 x9 x10 x11 : Option V), σ = [some v, some (vN L), some (.ref ac), some vS, some (.ref ae), some (.ref am), some (.ref al), x7, x8, x9, x10, x11] ∧ mm = 2 * (R.length * S.length - mt.length) + lf.length ∧ WI mt lf Hx ∧ Dfs (nxP L R S) (0, 0) mt lf,
    ⟨_, [(0, 0)], [(0, 0)], none, none, none, none, none, rfl, rfl, ⟨[.ref z1], [.ref z2], ?_, (upd_ne aml).trans ((upd_ne amz2).trans upd_same), upd_same, ?_, ?_⟩, .start⟩, ?_⟩
  · rw [wo_upd (by simp)]
    exact s1M s12
  · rw [wo_upd (by simp)]
    refine .cons (dp_t (ns := [0, 0]) (SqT.of ?_)) .nil
    rw [wo_out (by simp [z1m, z1l])]
    exact (upd_ne z12).trans ((upd_ne z1m).trans upd_same)
  · rw [wo_upd (by simp)]
    refine .cons (dp_t (ns := [0, 0]) (SqT.of ?_)) .nil
    rw [wo_out (by simp [amz2.symm, z2l])]
    exact upd_same
  clear s12 s1 hal hz2 ham hz1 z1m amz2 z2l z12 z1l
  rintro mm σ H3 ⟨mt, lf, x7, x8, x9, x10, x11, rfl, rfl, ⟨es, ls, s3, h3a, h3l, des, dls⟩, D⟩
  have hMet : ∀ x ∈ mt, Met L R S x := D.ind .zero fun x y hx hy => hx.next hy
  have hB : ∀ {l : List (Nat × Nat)}, l.Nodup → (∀ x ∈ l, Met L R S x) → l.length ≤ R.length * S.length := fun nd hm => pairs_few nd fun p hp => (hm p hp).lt WR WS
  have hB600 : R.length * S.length ≤ 600 := Nat.le_trans (Nat.mul_le_mul (show R.length ≤ 10 by omega) hSl) (by decide)
  refine ⟨_, rfl, by show 0 ≤ sizeLine; decide, fun z3 hz3 => ⟨.list (lf.map dP), .list [], .lst (SqL.of (same_new hz3 _ _ h3l)) (dpAll_mono (Same.trans (wo_same _ _) (same_new hz3)) dls), .lst (SqL.of upd_same) .nil, (flat_list (flat_map flat_dP lf)).shaped (by decide), by decide +kernel, _, rfl, ?_⟩⟩
  rw [ne_nil eq_dP]
  have s33 : Same H3 (upd H3 z3 (.lst [])) := same_new hz3
  have s3 := Same.trans s3 (wo_mono (M := [am, al]) s33)
  have h3a := s33 _ _ h3a
  have h3l := s33 _ _ h3l
  have des := dpAll_mono (wo_mono (M := [am, al]) s33) des
  have dls := dpAll_mono (wo_mono (M := [am, al]) s33) dls
  generalize upd H3 z3 (.lst []) = H3 at s3 h3a h3l des dls ⊢
  clear s33 hz3
  have s03 : Same H H3 := Same.trans s3 (wo_same _ _)
  by_cases hlf : lf = []
  · refine ifF (by rw [decide_eq_true hlf]; rfl) ?_
    subst hlf
    refine ⟨_, rfl, am, rfl, ⟨_, SqL.of h3a⟩, fun Dl hDl => lc_d (K := K) walk_list (fun i => ((mt.take i).filter fun p => decide (p.2 ∈ E)).map fun p => dN p.1) hDl rfl (fun H' sm => SqL.of (sm _ _ h3a)) (fun i y Ha Hb hi p z => ?_) fun acc He h1e h2e h3e => ?_⟩
    · obtain ⟨rfl, hx⟩ := z
      obtain ⟨d0, hd0, du⟩ := des.get' hx
      rw [List.getElem?_map] at hd0
      obtain ⟨k1, hq, rfl⟩ := Option.map_eq_some_iff.mp hd0
      obtain ⟨b1, rfl, qb⟩ := t_of du
      have sp := p.same
      refine ⟨b1, _, rfl, Same.seqT (Same.trans (wo_same _ _) sp) qb, rfl, _, _, rfl, _, _, rfl, rfl, rfl, _, rfl, _, rfl, ae, _, rfl, .inl ((Same.trans s03 sp).seq qe), rfl, flat_nums _, _, rfl, ?_⟩
      rw [inV_num]
      by_cases q : k1.2 ∈ E
      · refine ifT (by rw [decide_eq_true q]; rfl) ⟨_, rfl, p.put0 (d := dN k1.1) (line_lt (by have := lt_of_get hq; have := hB D.nodup hMet; omega)) (.int _) ?_⟩
        rw [take_keep _ mt hq, if_pos (decide_eq_true q), List.map_append]
        rfl
      · refine ifF (by rw [decide_eq_false q]; rfl) (p.skip0 ?_)
        rw [take_keep _ mt hq, if_neg (by simpa using q)]
    have lmt : mt.length = es.length := by rw [des.length, List.length_map]
    rw [← lmt, List.take_length] at h3e
    have eacc : acc = ((mt.filter fun p => decide (p.2 ∈ E)).map (·.1)).map vN := nums_of (by rw [List.map_map]; exact h3e)
    subst eacc
    have few : ∀ n ∈ (mt.filter fun p => decide (p.2 ∈ E)).map (·.1), n < R.length := fun n hn => by
      obtain ⟨p, hp, rfl⟩ := List.mem_map.mp hn
      exact ((hMet p (List.mem_filter.mp hp).1).lt WR WS).1
    have hmtl := hB D.nodup hMet
    refine ⟨Dl, ((mt.filter fun p => decide (p.2 ∈ E)).map (·.1)).map fun n : Nat => (n : Int), rfl, .inl (SqL.of (by rw [h1e, int_map])), ?_, fun a c Sb ha hSb hc => ?_⟩
    · rw [List.length_map, List.length_map]
      have := List.length_filter_le (fun p => decide (p.2 ∈ E)) mt
      omega
    have hc10 := few_of few hc
    refine ⟨a, _, c, rfl, upd_same, by omega, fun ns p pw mem hln hp => ?_⟩
    obtain ⟨due, rfl, up⟩ := rising_of pw fun k hk => by
      have := (mem k).mp hk
      rw [hSb] at this
      obtain ⟨n, _, e⟩ := List.mem_map.mp (of_decide_eq_true this)
      exact ⟨n, e.symm⟩
    have hdue : ∀ n, n ∈ due ↔ n ∈ (mt.filter fun p => decide (p.2 ∈ E)).map (·.1) := fun n => by
      rw [← mem_cast, mem, hSb, decide_eq_true_iff]
      exact mem_cast
    rw [← int_map]
    have s0a : Same H (upd He a (SetO w a Sb c)) := Same.trans s03 (Same.trans h2e (Same.trans (wo_same _ _) (same_new ha)))
    refine k _ p due (Same.trans s0a (same_new hp)) (Same.free s0a hp) upd_same (.of_met D.mem D.closed hMet up fun n => ?_)
    rw [hdue]
    constructor
    · intro h
      obtain ⟨q, hq, e⟩ := List.mem_map.mp h
      obtain ⟨h1, h2⟩ := List.mem_filter.mp hq
      exact ⟨q, h1, e, of_decide_eq_true h2⟩
    · rintro ⟨q, h1, e, h2⟩
      exact List.mem_map.mpr ⟨q, List.mem_filter.mpr ⟨h1, decide_eq_true h2⟩, e⟩
  refine ifT (by rw [decide_eq_false hlf]; rfl) ⟨_, fun _ _ z => z, ?_⟩
  obtain ⟨lf0, x, rfl⟩ : ∃ l0 x, lf = l0 ++ [x] := ⟨lf.dropLast, lf.getLast hlf, (List.dropLast_concat_getLast hlf).symm⟩
  rw [List.map_append] at dls
  obtain ⟨ls0, u, rfl, dls0, dux⟩ := dpAll_split dls
  have xmt : x ∈ mt := D.sub x (List.mem_append_right _ (List.mem_singleton.mpr rfl))
  obtain ⟨y1, y2⟩ := (hMet x xmt).lt WR WS
  obtain ⟨c, hc⟩ := get_some (show x.1 < C.length by omega)
  obtain ⟨r2, hr2, hl2, hb2⟩ := WS.at y2
  obtain ⟨tu, rfl, qu⟩ := t_of dux
  have hlf0 := hB D.left_nodup fun p hp => hMet p (D.sub p hp)
  rw [List.length_append] at hlf0
  have h4l : upd H3 al (.lst (ls0 ++ [V.ref tu]).dropLast) al = some (.lst ls0) := by rw [upd_same, List.dropLast_concat]
  have h4a : upd H3 al (.lst (ls0 ++ [V.ref tu]).dropLast) am = some (.lst es) := (upd_ne aml).trans h3a
  have w4 : Wo [am, al] (upd H3 al (.lst (ls0 ++ [V.ref tu]).dropLast)) = Wo [am, al] H3 := wo_upd (by simp)
  have qu4 : SqT K (upd H3 al (.lst (ls0 ++ [V.ref tu]).dropLast)) tu ([x.1, x.2].map vN) := by
    refine Same.seqT (wo_same [am, al] _) ?_
    rw [w4]; exact qu
  refine ⟨_, rfl, .inl ⟨rfl, _, SqL.of h3l⟩, al, ls0 ++ [.ref tu], .ref tu, rfl, rfl, h3l, by simp, tu, _, rfl, qu4, rfl, _, _, rfl, _, _, rfl, rfl, ?_⟩
  generalize upd H3 al (.lst (ls0 ++ [V.ref tu]).dropLast) = H4 at h4l h4a w4 qu4 ⊢
  rw [← w4] at s3 des dls0
  clear s03
  obtain ⟨wd, hwd, ecw⟩ := bfs_word Z.bfs c (List.mem_of_getElem? hc)
  refine ⟨_, rfl, (L : Int), rfl, by omega, by omega, for_it (walk_range (lo := 0) (n := (L : Int).toNat))
      (fun i σ Hx => ∃ x9 x10 x11, σ = [some v, some (vN L), some (.ref ac), some vS, some (.ref ae), some (.ref am), some (.ref al), some (vN x.1), some (vN x.2), x9, x10, x11] ∧ WI (addAll mt ((nxP L R S x).take i)) (lf0 ++ (addAll mt ((nxP L R S x).take i)).drop mt.length) Hx)
      ⟨x9, x10, x11, rfl, es, ls0, s3, h4a, h4l, by rw [List.take_zero]; exact des, by rw [List.take_zero, addAll_nil, List.drop_length, List.append_nil]; exact dls0⟩ (fun _ _ _ _ _ => True.intro) ?_ ?_⟩
  · clear s3 h4a h4l des dls0 w4 qu4 h3a h3l dls qu dux
    rintro i xv σ Hq H5 hi ⟨x9, x10, x11, rfl, es, ls, s5, h5a, h5l, des, dls⟩ ⟨rfl, ex⟩
    have ex : xv = vN i := ex.trans item_nat
    subst ex
    have hiL : i < L := by omega
    obtain ⟨hch, est⟩ := ch_step hW hiL hwd ecw
    obtain ⟨b, hxb⟩ := get_some (show i < r2.length by omega)
    have s05 : Same H H5 := Same.trans s5 (wo_same _ _)
    obtain ⟨u, hu, du⟩ := dcs.get (i := x.1) (d := dTT c) (by rw [List.getElem?_map, hc]; rfl)
    have hin : changed Ms c i ∈ C := by rw [est]; exact Z.all _ (hwd.snoc hiL)
    obtain ⟨a, ea⟩ : ∃ a, a = C.idxOf (changed Ms c i) := ⟨_, rfl⟩
    have hy : (nxP L R S x)[i]? = some (a, b) := by
      unfold nxP
      rw [List.getElem?_map, List.getElem?_range hiL, ea]
      show some (nx R x.1 i, nx S x.2 i) = _
      rw [hnR hc hiL]
      unfold nx
      rw [getD_of hr2, getD_of hxb]
    refine ⟨_, rfl, .inl ⟨rfl, _, s05.seq hac⟩, _, rfl, _, rfl, _, rfl, ac, cs, _, _, rfl, rfl, s05.seq hac, atI_nat hu, _, rfl, v, u, i, L, Ms, c, rfl, dp_mono s05 hv, hMl, hW, hT, dp_mono s05 du, hch, hiL, fun H6 pl s56 hpl dl => ⟨ac, .ref pl, dTT (changed Ms c i), C.map dTT, C.idxOf (changed Ms c i), dTT (changed Ms c i), rfl, rfl, dp_mono (Same.trans s05 s56) (.lst hac dcs), dl, (flat_C C).shaped (by decide), (flat_dTT _).shaped (by decide), ?_, (eq_dTT _ _).mpr rfl, fun m z hm hz => first_at Z.bfs.nodup m z hm hz, ?_⟩⟩
    · rw [List.getElem?_map, get_idxOfA hin]
      rfl
    show _
    rw [← ea]
    have s06 := Same.trans s05 s56
    obtain ⟨lt, xt, trow, rfl, o1, o2, o3⟩ := row_l hS hr2
    refine ⟨_, rfl, _, rfl, _, rfl, lt, xt, _, _, rfl, rfl, s06.seq o1, o2, _, rfl, trow, _, _, _, rfl, rfl, s06.seq o3, at_num hxb, line_le (Nat.le_of_ble_eq_true rfl), fun T9 hT9 => ?_⟩
    have s57 : Same H5 (upd H6 T9 (.tup [vN a, vN b])) := Same.trans s56 (same_new hT9)
    have h6a := s57 _ _ h5a
    have h6l := s57 _ _ h5l
    have w56 := wo_mono (M := [am, al]) s57
    have des6 := dpAll_mono w56 des
    have dls6 := dpAll_mono w56 dls
    have T9a : T9 ≠ am := (ne_of_none (s56 _ _ h5a) hT9).symm
    have T9l : T9 ≠ al := (ne_of_none (s56 _ _ h5l) hT9).symm
    have dk : Dp K (Wo [am, al] (upd H6 T9 (.tup [vN a, vN b]))) (.ref T9) (dP (a, b)) := dp_t (ns := [a, b]) (SqT.of (by rw [wo_out (by simp [T9a, T9l])]; exact upd_same))
    have htk : addAll mt ((nxP L R S x).take (i + 1)) = addAll mt ((nxP L R S x).take i ++ [(a, b)]) := by rw [take_snoc hy]
    have hmem : ∀ p ∈ addAll mt ((nxP L R S x).take (i + 1)), Met L R S p := fun p hp => by
      rcases mem_addAll.mp hp with hp | hp
      · exact hMet p hp
      · exact (hMet x xmt).next (List.mem_of_mem_take hp)
    have hle := hB (addAll_nodup D.nodup) hmem
    have hpre := (addAll_prefix mt ((nxP L R S x).take i)).length_le
    have hle0 := hB (addAll_nodup (xs := (nxP L R S x).take i) D.nodup) fun p hp => by
      rcases mem_addAll.mp hp with hp | hp
      · exact hMet p hp
      · exact (hMet x xmt).next (List.mem_of_mem_take hp)
    have les : es.length = (addAll mt ((nxP L R S x).take i)).length := by rw [des.length, List.length_map]
    have lls : ls.length = lf0.length + ((addAll mt ((nxP L R S x).take i)).length - mt.length) := by rw [dls.length, List.length_map, List.length_append, List.length_drop]
    refine ⟨_, rfl, _, rfl, dP (a, b), _, dp_mono (wo_same _ _) dk, .lst (SqL.of h6a) (dpAll_mono (wo_same _ _) des6), (flat_dP _).shaped (by decide), (flat_list (flat_map flat_dP _)).shaped (by decide), _, rfl, ?_⟩
    rw [any_of eq_dP]
    by_cases hin2 : (a, b) ∈ addAll mt ((nxP L R S x).take i)
    · refine ifF (by simp [hin2]) ⟨_, _, _, rfl, ?_⟩
      rw [htk, addAll_snoc, if_pos hin2]
      exact ⟨es, ls, Same.trans s5 w56, h6a, h6l, des6, dls6⟩
    · refine ifT (by simp [hin2]) ⟨_, rfl, .inl ⟨rfl, _, SqL.of h6a⟩, _, rfl, am, es, _, rfl, rfl, h6a, Nat.lt_of_le_of_lt (show es.length ≤ 600 by omega) (by decide), ?_⟩
      refine ⟨_, rfl, .inl ⟨rfl, _, SqL.of ((upd_ne aml.symm).trans h6l)⟩, _, rfl, al, ls, _, rfl, rfl, (upd_ne aml.symm).trans h6l, Nat.lt_of_le_of_lt (show ls.length ≤ 1200 by omega) (by decide), _, _, _, rfl, ?_⟩
      rw [htk, addAll_snoc, if_neg hin2]
      refine ⟨es ++ [.ref T9], ls ++ [.ref T9], ?_, (upd_ne aml).trans upd_same, upd_same, ?_, ?_⟩
      · rw [wo_upd (by simp), wo_upd (by simp)]; exact Same.trans s5 w56
      · rw [wo_upd (by simp), wo_upd (by simp), List.map_append]; exact des6.snoc dk
      · rw [wo_upd (by simp), wo_upd (by simp), List.drop_append_of_le_length hpre, ← List.append_assoc, List.map_append]
        exact dls6.snoc dk
  · rintro σ H5 ⟨x9, x10, x11, rfl, hWI⟩
    have e : (nxP L R S x).take (L : Int).toNat = nxP L R S x := List.take_of_length_le (Nat.le_of_eq nxP_len)
    rw [e] at hWI
    have hmem : ∀ p ∈ addAll mt (nxP L R S x), Met L R S p := fun p hp => by
      rcases mem_addAll.mp hp with hp | hp
      · exact hMet p hp
      · exact (hMet x xmt).next hp
    have hle := hB (addAll_nodup (xs := nxP L R S x) D.nodup) hmem
    have hpre := (addAll_prefix mt (nxP L R S x)).length_le
    refine ⟨_, ?_, _, _, _, _, _, _, _, rfl, rfl, hWI, D.turn⟩
    rw [List.length_append, List.length_append, List.length_drop, List.length_singleton]
    omega
end
end M22

set_option maxRecDepth 100000
set_option maxHeartbeats 4000000
namespace M22
open PySem PySem.Spec PyProof.Rows L2
abbrev sv (wd : List Nat) : V := .str (sW wd)
theorem abc_cut : ∀ L : Nat, L < 4 → cutS "abc" none (some ((L : Nat) : Int)) = sW (List.range L) := by decide +kernel
theorem sW_snoc (wd : List Nat) (l : Nat) : sW wd ++ (⟨#[97 + l]⟩ : Str) = sW (wd ++ [l]) := by
  show (⟨(wd.map fun l => 97 + l).toArray ++ #[97 + l]⟩ : Str) = ⟨((wd ++ [l]).map fun l => 97 + l).toArray⟩
  congr 1
  simp
/-- words of up to n letters -/
def WsOk (L n : Nat) (ws : List (List Nat)) : Prop := ∀ wd ∈ ws, Wd L wd ∧ wd.length ≤ n
theorem WsOk.append {L n : Nat} {a b : List (List Nat)} (h : WsOk L n a) (h' : WsOk L n b) : WsOk L n (a ++ b) := fun wd hw => (List.mem_append.mp hw).elim (h wd) (h' wd)
theorem WsOk.more {L n m : Nat} {a : List (List Nat)} (h : WsOk L n a) (e : n ≤ m) : WsOk L m a := fun wd hw => ⟨(h wd hw).1, Nat.le_trans (h wd hw).2 e⟩
section
variable {P : Program} {w : World} {K : PySem.W.Frag} {mg : Str → Option Value} {base : Heap} {CM CT : Addr}
def spLAll (K : PySem.W.Frag) : Sp := fun vs H Q _ => ∃ (L : Nat), vs = [vN L, vN 4] ∧ L ≤ 2 ∧ ∀ (H' : Hp) (p : Addr) (ws : List (List Nat)), Same H H' → H' p = some (.lst (ws.map sv)) → WsOk L 4 ws → ws.length ≤ 100 → Q (.ref p) H'
abbrev s__law_all : Stmt := top 85
abbrev N__law_all : List Str := ["_law_letters", "_law_length", "_law_found", "_law_last", "_law_turn", "_law_late", "_law_word", "_law_sign"]
theorem sc__law_all : FnScope N__law_all ["_law_letters", "_law_length"] (defScope s__law_all) := ⟨rfl, rfl, rfl, by decide +kernel, rfl, by decide +kernel, by decide +kernel⟩
theorem ok__law_all (T : Tx K mg CM CT) (D : DefAt K mg "_law_all" s__law_all)  : Cal P w K mg base 1 "_law_all" ["_law_letters", "_law_length"] (spLAll K) := by
  refine cal_of D sc__law_all (fun _ _ _ _ _ _ us hl => match us, hl with | [_, _], _ => rfl) (fun vs H Q E h => ?_) (fun f cdv A outer s H vs Q E hr h => ?_)
  · obtain ⟨_, rfl, _⟩ := h
    rfl
  have hu := hu_of hr
  obtain ⟨L, rfl, hL, k⟩ := h
  refine ⟨_, (pss_cons (ps_par (i := 2) (j := 3) rfl sc__law_all.nd rfl rfl (by decide) rfl rfl (pa_cons (pe_lst (pa_cons pe_str pa_nil)) (pa_cons (pe_lst (pa_cons pe_str pa_nil)) pa_nil)) (by rfl))
  (pss_cons (ps_for PassesOwn.never rfl (pi_range1 rfl T.range (pa_cons (pv 1) pa_nil)) (pg_name (i := 4) sc__law_all.nd rfl (Or.inl rfl)) (pss_cons (ps_set (i := 5) sc__law_all.nd rfl (Or.inl rfl) (pe_lst pa_nil))
    (pss_cons (ps_for PassesOwn.never rfl (pi_listK K (pv 3)) (pg_name (i := 6) sc__law_all.nd rfl (Or.inr rfl)) (pss_one (ps_expr (pe_bmK K PySem.F.plainAttrs_list PySem.F.slot_list_extend PySem.F.type_list_extend mt_extend (pv 5) (pa_cons (pe_lc (own := [("_law_sign", 7)]) (tt := tYes) rfl sc__law_all.nd (pi_str (pe_slice sl_str pe_str po_none (po_some (pv 0)))) (blkOk_by (N := N__law_all) (sc := (defScope s__law_all)) (by decide +kernel)) (fun _ _ _ _ _ => (pg_name (i := 7) sc__law_all.nd rfl (Or.inl rfl))) (fun _ _ _ _ _ => pts_nil) (fun _ _ _ _ _ => (pe_op op_add_str (pv 6) (pv 7)))) pa_nil)))))
    (pss_one (ps_par (i := 2) (j := 3) rfl sc__law_all.nd rfl rfl (by decide) rfl rfl (pa_cons (pe_op op_cat (pv 2) (pv 5)) (pa_cons (pv 5) pa_nil)) (by rfl))))))
  (pss_one (ps_ret (pv 2))))), ?_⟩
  refine ⟨line_le (Nat.le_of_ble_eq_true rfl), fun fa hfa => ⟨line_le (Nat.le_of_ble_eq_true rfl), fun la hla => ⟨_, _, rfl, ?_⟩⟩⟩
  have s0 : Same H (upd (upd H fa (.lst [.str ""])) la (.lst [.str ""])) := Same.trans (same_new hfa) (same_new hla)
  have fl : fa ≠ la := ne_of_none upd_same hla
  have ok0 : WsOk L 0 [[]] := fun wd hw => by rw [List.mem_singleton.mp hw]; exact ⟨Wd.nil, Nat.le_refl _⟩
  refine ⟨_, rfl, (4 : Int), rfl, by decide, by decide, for_it (walk_range (lo := 0) (n := (4 : Int).toNat)) (fun i σ Hx => ∃ (fa la : Addr) (x4 x5 x6 : Option V) (fs ls : List (List Nat)), σ = [some (vN L), some (vN 4), some (.ref fa), some (.ref la), x4, x5, x6, none] ∧ Same H Hx ∧ Hx fa = some (.lst (fs.map sv)) ∧ Hx la = some (.lst (ls.map sv)) ∧ WsOk L i fs ∧ WsOk L i ls ∧ fs.length ≤ 2 ^ (i + 1) ∧ ls.length ≤ 2 ^ i)
    ⟨fa, la, none, none, none, [[]], [[]], rfl, s0, (upd_ne fl).trans upd_same, upd_same, ok0, ok0, by show 1 ≤ 2; decide, by show 1 ≤ 1; decide⟩ (fun _ _ _ _ _ => True.intro) ?_ ?_⟩
  · rintro i x σ Hq Ha hi ⟨fa, la, x4, x5, x6, fs, ls, rfl, sa, hfa, hla, okf, okl, lf, ll⟩ ⟨rfl, ex⟩
    have hi4 : i < 4 := hi
    have p2 : 2 ^ i ≤ 8 := by
      have : i ≤ 3 := by omega
      calc 2 ^ i ≤ 2 ^ 3 := Nat.pow_le_pow_right (by decide) this
        _ = 8 := rfl
    have p3 : 2 ^ (i + 1) = 2 * 2 ^ i := by rw [Nat.pow_succ, Nat.mul_comm]
    refine ⟨by show 0 ≤ sizeLine; decide, fun lt hlt => ?_⟩
    have slt : Same Ha (upd Ha lt (.lst [])) := same_new hlt
    have ltl : la ≠ lt := ne_of_none hla hlt
    have ltf : fa ≠ lt := ne_of_none hfa hlt
    refine ⟨_, rfl, la, rfl, ⟨_, SqL.of (slt _ _ hla)⟩, for_it walk_list (fun j σ Hx => ∃ (x6 : Option V) (ts : List (List Nat)), σ = [some (vN L), some (vN 4), some (.ref fa), some (.ref la), some x, some (.ref lt), x6, none] ∧ Same Ha (Wo [lt] Hx) ∧ Hx lt = some (.lst (ts.map sv)) ∧ WsOk L (i + 1) ts ∧ ts.length ≤ 2 * j)
      ⟨x6, [], rfl, ?_, upd_same, fun _ h => absurd h List.not_mem_nil, Nat.le_refl _⟩ (fun j σ Hx _ ⟨_, _, _, s, _⟩ => SqL.of (wo_same _ _ _ _ (s _ _ hla))) ?_ ?_⟩
    · rw [wo_upd in1]
      intro b o e
      rw [wo_out fun z => by rw [List.mem_singleton.mp z, hlt] at e; cases e]
      exact e
    · rintro j y σ Hb Hc hj ⟨x6, ts, rfl, sb, hts, okt, lt2⟩ ⟨rfl, hy⟩
      rw [List.getElem?_map] at hy
      obtain ⟨wd, hwd, rfl⟩ := Option.map_eq_some_iff.mp hy
      obtain ⟨wd1, wd2⟩ := okl wd (List.mem_of_getElem? hwd)
      have hjl : j < ls.length := lt_of_get hwd
      have hcl : Hc lt = some (.lst (ts.map sv)) := hts
      refine ⟨_, rfl, .inl ⟨rfl, _, SqL.of hts⟩, _, rfl, _, rfl, _, rfl, line_le (Nat.le_of_ble_eq_true rfl), sW (List.range L), congrArg V.str (abc_cut L (by omega)), fun D hD => lc_it walk_str (fun m Hx => ∃ us : List (List Nat), Same Hc (Wo [D] Hx) ∧ Hx D = some (.lst (us.map sv)) ∧ WsOk L (i + 1) us ∧ us.length ≤ m) ?_ (fun _ _ _ _ => True.intro) (fun m y Hd He hm pd q => ?_) fun Hd pd => ?_⟩
      · refine ⟨[], ?_, upd_same, fun _ h => absurd h List.not_mem_nil, Nat.le_refl _⟩
        rw [wo_upd in1]
        intro b o e
        rw [wo_out fun z => by rw [List.mem_singleton.mp z, hD] at e; cases e]
        exact e
      · obtain ⟨us, sd, hus, oku, lu⟩ := pd
        obtain ⟨rfl, c, hc, rfl⟩ := q
        obtain ⟨l, hl1, rfl⟩ := sW_get hc
        have hlL : l < L := List.mem_range.mp (List.mem_of_getElem? hl1)
        have hm3 := lt_of_get hl1
        rw [List.length_range] at hm3
        refine ⟨rfl, _, rfl, _, rfl, _, _, rfl, rfl, line_le (by rw [sW_len]; show wd.length + 1 ≤ 1000; omega), us.map sv, hus, line_lt (by rw [List.length_map]; omega), us ++ [wd ++ [l]], ?_, ?_, oku.append ?_, ?_⟩
        · rw [wo_upd in1]; exact sd
        · rw [upd_same, List.map_append, sW_snoc]; rfl
        · intro v hv
          rw [List.mem_singleton.mp hv]
          exact ⟨wd1.snoc hlL, by rw [List.length_append]; show wd.length + 1 ≤ _; omega⟩
        · rw [List.length_append]; show us.length + 1 ≤ _; omega
      · obtain ⟨us, sd, hus, oku, lu⟩ := pd
        have lu : us.length ≤ (sW (List.range L)).cps.size := lu
        have e2 : (sW (List.range L)).cps.size = L := (sW_len _).trans List.length_range
        rw [e2] at lu
        have scd : Same Hc Hd := Same.trans sd (wo_same _ _)
        refine ⟨lt, D, ts.map sv, us.map sv, rfl, rfl, scd _ _ hcl, hus, line_le (by rw [List.length_map, List.length_map]; omega), _, ts ++ us, rfl, ?_, by rw [upd_same, List.map_append], okt.append oku, by rw [List.length_append]; omega⟩
        rw [wo_upd in1]
        exact Same.trans sb (wo_mono scd)
    · rintro σ Hb ⟨x6, ts, rfl, sb, hts, okt, lt2⟩
      have sab : Same Ha Hb := Same.trans sb (wo_same _ _)
      have lt2 : ts.length ≤ 2 * (ls.map sv).length := lt2
      rw [List.length_map] at lt2
      refine ⟨_, rfl, _, rfl, fa, lt, fs.map sv, ts.map sv, rfl, rfl, sab _ _ hfa, hts, line_le (by rw [List.length_map, List.length_map]; omega), fun p hp => ⟨_, rfl, _, _, rfl, p, lt, _, _, _, fs ++ ts, ts, rfl, Same.trans sa (Same.trans sab (same_new hp)), by rw [upd_same, List.map_append], same_new hp _ _ hts, (okf.more (by omega)).append okt, okt, ?_, ?_⟩⟩
      · rw [List.length_append, Nat.pow_succ]; omega
      · rw [Nat.pow_succ]; omega
  · rintro σ Hx ⟨fa, la, x4, x5, x6, fs, ls, rfl, sx, hfa, hla, okf, okl, lf, ll⟩
    exact ⟨_, rfl, k Hx fa fs sx hfa okf (Nat.le_trans lf (by decide))⟩
end
end M22

set_option maxRecDepth 100000
set_option maxHeartbeats 4000000
namespace M22
open PySem PySem.Spec PyProof.Rows L2
/-- the two machines that few falls back on -/
theorem two_least {l t : Nat} (hl : l + 1 ≤ 2) (ht : t < 2) : Least (l + 1) [1 :: List.replicate l 0, 0 :: List.replicate l 1] [t] where
  whole := by
    refine ⟨by show 0 < 2; decide, fun r hr => ?_⟩
    rcases List.mem_cons.mp hr with e | hr
    · subst e
      refine ⟨by rw [List.length_cons, List.length_replicate], fun x hx => ?_⟩
      rcases List.mem_cons.mp hx with e | hx
      · rw [e]; show 1 < 2; decide
      · rw [(List.mem_replicate.mp hx).2]; show 0 < 2; decide
    · rw [List.mem_singleton.mp hr]
      refine ⟨by rw [List.length_cons, List.length_replicate], fun x hx => ?_⟩
      rcases List.mem_cons.mp hx with e | hx
      · rw [e]; show 0 < 2; decide
      · rw [(List.mem_replicate.mp hx).2]; show 1 < 2; decide
  order := by
    have h : l = 0 ∨ l = 1 := by omega
    rcases h with rfl | rfl
    · exact .turn (found := [0, 1]) (n := 1) (x := 1) (.turn (found := [0]) (n := 0) (x := 0) .start rfl) rfl
    · exact .turn (found := [0, 1]) (n := 1) (x := 1) (.turn (found := [0]) (n := 0) (x := 0) .start rfl) rfl
  apart := fun i j hi hj h => by
    have h0 := h [] Wd.nil
    rw [run_nil, run_nil, List.mem_singleton, List.mem_singleton] at h0
    have hi : i < 2 := hi
    have hj : j < 2 := hj
    omega
  ends := by
    have h : t = 0 ∨ t = 1 := by omega
    rcases h with rfl | rfl
    · show [0] = (List.range 2).filter fun i => decide (i ∈ [0]); decide
    · show [1] = (List.range 2).filter fun i => decide (i ∈ [1]); decide
theorem few_classes (l m : Nat) (hl : l + 1 ≤ 2) (hm : 0 < m) (hm2 : m ≤ 2) : ∃ C, Classes (l + 1) ((List.range m).map fun t => ([1 :: List.replicate l 0, 0 :: List.replicate l 1], [t % 2])) C ∧ C.length ≤ 10 := by
  have lst : ∀ M ∈ ((List.range m).map fun t => (([1 :: List.replicate l 0, 0 :: List.replicate l 1], [t % 2]) : Mach)), Least (l + 1) M.1 M.2 := fun M hM => by
    obtain ⟨t, _, rfl⟩ := List.mem_map.mp hM
    exact two_least hl (Nat.mod_lt _ (by decide))
  have h : l = 0 ∨ l = 1 := by omega
  have h' : m = 1 ∨ m = 2 := by omega
  rcases h with rfl | rfl
  · rcases h' with rfl | rfl
    · exact ⟨[[[0, 1]], [[1, 0]]], ⟨lst, .turn (found := [[[0, 1]], [[1, 0]]]) (n := 1) (x := [[1, 0]]) (.turn (found := [[[0, 1]]]) (n := 0) (x := [[0, 1]]) .start rfl) rfl⟩, by decide⟩
    · exact ⟨[[[0, 1], [0, 1]], [[1, 0], [1, 0]]], ⟨lst, .turn (found := [[[0, 1], [0, 1]], [[1, 0], [1, 0]]]) (n := 1) (x := [[1, 0], [1, 0]]) (.turn (found := [[[0, 1], [0, 1]]]) (n := 0) (x := [[0, 1], [0, 1]]) .start rfl) rfl⟩, by decide⟩
  · rcases h' with rfl | rfl
    · exact ⟨[[[0, 1]], [[1, 0]]], ⟨lst, .turn (found := [[[0, 1]], [[1, 0]]]) (n := 1) (x := [[1, 0]]) (.turn (found := [[[0, 1]]]) (n := 0) (x := [[0, 1]]) .start rfl) rfl⟩, by decide⟩
    · exact ⟨[[[0, 1], [0, 1]], [[1, 0], [1, 0]]], ⟨lst, .turn (found := [[[0, 1], [0, 1]], [[1, 0], [1, 0]]]) (n := 1) (x := [[1, 0], [1, 0]]) (.turn (found := [[[0, 1], [0, 1]]]) (n := 0) (x := [[0, 1], [0, 1]]) .start rfl) rfl⟩, by decide⟩
section
variable {P : Program} {w : World} {K : PySem.W.Frag} {mg : Str → Option Value} {base : Heap} {CM CT : Addr}
def spLLeast (K : PySem.W.Frag) : Sp := fun vs H Q _ => ∃ (v ve : V) (N : List Addr) (L : Nat) (S : Steps) (E : List Nat), vs = [v, ve] ∧ (∀ b ∈ N, H b ≠ none) ∧ Dp K H v (dLL S) ∧ Dp K H ve (dL E) ∧ Whole L S ∧ 0 < L ∧ L ≤ 2 ∧ S.length ≤ 3 ∧ E.Nodup ∧ (∀ e ∈ E, e < S.length) ∧
  ∀ (H' : Hp) (q : Addr) (M : Mach), Same H H' → H q = none → Dp K (Wo N H') (.ref q) (dM M) → Least L M.1 M.2 → M.1.length ≤ S.length → Q (.ref q) H'
def spLFew (K : PySem.W.Frag) : Sp := fun vs H Q _ => ∃ (p : Addr) (L m : Nat), vs = [.ref p, vN L, vN m, vN 10] ∧ Pot p H ∧ 0 < L ∧ L ≤ 2 ∧ 0 < m ∧ m ≤ 2 ∧
  ∀ (H' : Hp) (q : Addr) (Ms : List Mach) (C : List Change), Same (Wo [p] H) (Wo [p] H') → Pot p H' → Dp K (Wo [p] H') (.ref q) (.list (Ms.map dM)) → Ms.length = m → (∀ M ∈ Ms, M.1.length ≤ 3) → Classes L Ms C → C.length ≤ 10 → Q (.ref q) H'
abbrev s__law_few : Stmt := top 84
abbrev N__law_few : List Str := ["_law_pot_here", "_law_letters", "_law_many", "_law_most", "_law_machines", "_law_turn", "_law_steps", "_law_ends"]
theorem sc__law_few : FnScope N__law_few ["_law_pot_here", "_law_letters", "_law_many", "_law_most"] (defScope s__law_few) := ⟨rfl, rfl, rfl, by decide +kernel, rfl, by decide +kernel, by decide +kernel⟩
theorem ok__law_few (T : Tx K mg CM CT) (D : DefAt K mg "_law_few" s__law_few) (c__law_filter : Cal P w K mg base 3 "_law_filter" ["_law_pot_here", "_law_letters"] (spFil K)) (c__law_least : Cal P w K mg base 3 "_law_least" ["_law_steps", "_law_ends"] (spLLeast K)) (c__law_classes : Cal P w K mg base 2 "_law_classes" ["_law_letters", "_law_machines", "_law_most"] (spLCls K)) : Cal P w K mg base 4 "_law_few" ["_law_pot_here", "_law_letters", "_law_many", "_law_most"] (spLFew K) := by
  refine cal_of D sc__law_few (fun _ _ _ _ _ _ us hl => match us, hl with | [_, _, _, _], _ => rfl) (fun vs H Q E h => ?_) (fun f cdv A outer s H vs Q E hr h => ?_)
  · obtain ⟨_, _, _, rfl, _⟩ := h
    rfl
  have hu := hu_of hr
  obtain ⟨p, L, m, rfl, hp, hL, hL2, hm, hm2, k⟩ := h
  refine ⟨_, (pss_cons (ps_set (i := 4) sc__law_few.nd rfl (Or.inl rfl) (pe_lst pa_nil))
  (pss_cons (ps_for PassesOwn.never rfl (pi_range1 rfl T.range (pa_cons (pv 2) pa_nil)) (pg_name (i := 5) sc__law_few.nd rfl (Or.inl rfl)) (pss_cons (ps_asg (pe_c c__law_filter hr (by decide) rfl (pa_cons (pv 0) (pa_cons (pv 1) pa_nil))) (pg_tupK K (n := 2) rfl (pgs_cons (pg_name (i := 6) sc__law_few.nd rfl (Or.inr rfl)) (pgs_cons (pg_name (i := 7) sc__law_few.nd rfl (Or.inl rfl)) pgs_nil))))
    (pss_one (ps_expr (pe_bmK K PySem.F.plainAttrs_list PySem.F.slot_list_append PySem.F.type_list_append mt_append (pv 4) (pa_cons (pe_c c__law_least hr (by decide) rfl (pa_cons (pv 6) (pa_cons (pv 7) pa_nil))) pa_nil))))))
  (pss_cons (ps_if (pt_cmpR op_le (pe_callB (call_lenK K) (by rfl) T.len PySem.boot_len (pa_cons (pe_ix (ix_tupK K) (pe_c c__law_classes hr (by decide) rfl (pa_cons (pv 1) (pa_cons (pv 4) (pa_cons (pv 3) pa_nil)))) pe_int (fun _ _ => rfl)) pa_nil)) (pv 3) (nomark _)) (pss_one (ps_ret (pv 4))) pss_nil)
  (pss_cons (ps_set (i := 6) sc__law_few.nd rfl (Or.inr rfl) (pe_lst (pa_cons (pe_op op_cat (pe_lst (pa_cons pe_int pa_nil)) (pe_op op_rep (pe_lst (pa_cons pe_int pa_nil)) (pe_op op_sub (pv 1) pe_int))) (pa_cons (pe_op op_cat (pe_lst (pa_cons pe_int pa_nil)) (pe_op op_rep (pe_lst (pa_cons pe_int pa_nil)) (pe_op op_sub (pv 1) pe_int))) pa_nil))))
  (pss_one (ps_ret (pe_lc (own := [("_law_turn", 5)]) (tt := tYes) rfl sc__law_few.nd (pi_range1 rfl T.range (pa_cons (pv 2) pa_nil)) (blkOk_by (N := N__law_few) (sc := (defScope s__law_few)) (by decide +kernel)) (fun _ _ _ _ _ => (pg_name (i := 5) sc__law_few.nd rfl (Or.inl rfl))) (fun _ _ _ _ _ => pts_nil) (fun _ _ _ _ _ => (pe_tup (pa_cons (pv 6) (pa_cons (pe_lst (pa_cons (pe_op op_mod (pv 5) pe_int) pa_nil)) pa_nil))))))))))), ?_⟩
  refine ⟨line_le (Nat.zero_le _), fun lm hlm => ?_⟩
  have lp : lm ≠ p := pot_ne hp hlm
  have lN : ¬ lm ∈ [p] := fun z => lp (List.mem_singleton.mp z)
  refine ⟨_, rfl, (m : Int), rfl, by omega, by omega, for_it (walk_range (lo := 0) (n := (m : Int).toNat)) (fun i σ Hx => ∃ (x5 x6 x7 : Option V) (ms : List V) (Ms : List Mach), σ = [some (.ref p), some (vN L), some (vN m), some (vN 10), some (.ref lm), x5, x6, x7] ∧ Pot p Hx ∧ Same (Wo [p] H) (Wo [lm] (Wo [p] Hx)) ∧ Hx lm = some (.lst ms) ∧ DpAll K (Wo [lm] (Wo [p] Hx)) ms (Ms.map dM) ∧ Ms.length = i ∧ ∀ M ∈ Ms, Least L M.1 M.2 ∧ M.1.length ≤ 3)
    ⟨none, none, none, [], [], rfl, hp.upd lp, ?_, upd_same, .nil, rfl, fun _ h => absurd h List.not_mem_nil⟩ (fun _ _ _ _ _ => True.intro) ?_ ?_⟩
  · rw [wo2_upd]
    intro b o e
    rw [wo_out fun z => by rw [List.mem_singleton.mp z, wo_out lN, hlm] at e; cases e]
    exact e
  · rintro i x σ Hq Ha hi ⟨x5, x6, x7, ms, Ms, rfl, pa, sa, hms, dms, lMs, hMs⟩ ⟨rfl, ex⟩
    refine ⟨_, rfl, _, rfl, p, L, rfl, pa, hL, hL2, fun H1 q a b S E w1 p1 hq h1q da db W hS nd hE => ⟨q, _, rfl, SqT.of h1q, rfl, _, _, rfl, _, _, rfl, rfl, ?_⟩⟩
    have h1l : H1 lm = some (.lst ms) := wo_at w1 hms lN
    have dms1 := dpAll_mono (wo_mono (M := [lm]) w1) dms
    have s1 := Same.trans sa (wo_mono (M := [lm]) w1)
    refine ⟨_, rfl, .inl ⟨rfl, _, SqL.of h1l⟩, _, rfl, _, rfl, a, b, [lm, p], L, S, E, rfl, fun c hc => ?_, dp_mono (wo_same _ _) da, dp_mono (wo_same _ _) db, W, hL, hL2, hS, nd, hE, fun H2 r M s2 hr dr lst hlen => ?_⟩
    · rcases List.mem_cons.mp hc with z | z
      · rw [z, h1l]; exact fun z => nomatch z
      · obtain ⟨_, _, e, _⟩ := p1
        rw [List.mem_singleton.mp z, e]; exact fun z => nomatch z
    · have lms : ms.length = i := by rw [dms.length, List.length_map, lMs]
      refine ⟨lm, ms, .ref r, rfl, rfl, s2 _ _ h1l, line_lt (by omega), _, _, _, ms ++ [.ref r], Ms ++ [M], rfl, (p1.same s2).upd lp, ?_, upd_same, ?_, by rw [List.length_append, lMs]; rfl, fun M' hM => ?_⟩
      · rw [wo2_upd]; exact Same.trans s1 (wo2_mono s2)
      · rw [wo2_upd, List.map_append]
        refine (dpAll_mono (wo2_mono s2) dms1).snoc ?_
        rw [wo_wo]; exact dr
      · rcases List.mem_append.mp hM with z | z
        · exact hMs M' z
        · rw [List.mem_singleton.mp z]; exact ⟨lst, by omega⟩
  rintro σ H4 ⟨x5, x6, x7, ms, Ms, rfl, p4, s4, h4, dms, lMs, hMs⟩
  have lMs : Ms.length = m := lMs
  have w04 : Same (Wo [p] H) (Wo [p] H4) := Same.trans s4 (wo_same _ _)
  have d4 : Dp K H4 (.ref lm) (.list (Ms.map dM)) := .lst (SqL.of h4) (dpAll_mono wo2_same dms)
  refine ⟨_, rfl, _, rfl, _, rfl, .ref lm, L, 10, Ms, rfl, d4, by omega, fun M hM => (hMs M hM).1.whole, fun M hM => by have := (hMs M hM).2; omega, by omega, by decide, fun H5 q aw ac ts f n s5 hq h5q h5w lw hf hac dac b hx => ?_⟩
  refine ⟨q, _, _, _, rfl, rfl, SqT.of h5q, atI_nat (j := 0) rfl, aw, _, rfl, .inl (SqL.of h5w), _, rfl, _, _, rfl, rfl, _, rfl, ?_⟩
  have p5 : Pot p H5 := p4.same s5
  have w05 : Same (Wo [p] H) (Wo [p] H5) := Same.trans w04 (wo_mono s5)
  have lts : (ts.map V.str).length = f.length := by rw [List.length_map, lw]
  rcases (Nat.lt_or_ge 10 f.length).symm with h10 | h10
  · refine ifT (decide_eq_true (by omega)) ⟨_, rfl, ?_⟩
    have en : n = f.length := by have := b.le; omega
    subst en
    exact k H5 lm Ms f w05 p5 (.lst (SqL.of (pot_out0 lp (s5 _ _ h4))) (dpAll_mono (Same.trans (wo_same _ _) (wo_mono s5)) dms)) lMs (fun M hM => (hMs M hM).2) ⟨fun M hM => (hMs M hM).1, b⟩ h10
  refine ifF (decide_eq_false (by omega)) ?_
  clear b hx dac hac h5w h5q hq lw hf lts
  obtain ⟨l, rfl⟩ : ∃ l, L = l + 1 := ⟨L - 1, by omega⟩
  have el : ((l + 1 : Nat) : Int) - 1 = (l : Int) := by omega
  have ef : ∀ x : Nat, (List.replicate (((l + 1 : Nat) : Int) - 1).toNat [vN x]).flatten = (List.replicate l x).map vN := fun x => by rw [el]; exact rep_flat x l
  have lf : ∀ x : Nat, (List.replicate (((l + 1 : Nat) : Int) - 1).toNat [vN x]).flatten.length = l := fun x => by rw [ef, List.length_map, List.length_replicate]
  -- the two rows
  refine ⟨line_le (Nat.le_of_ble_eq_true rfl), fun l1 hl1 => ⟨line_le (Nat.le_of_ble_eq_true rfl), fun l2 hl2 => ⟨_, rfl, _, _, rfl, rfl, l2, _, [vN 0], rfl, rfl, upd_same, by omega, by omega, line_le (by rw [el]; show 1 * l ≤ 1000; omega), fun r1 hr1 => ?_⟩⟩⟩
  have a1 : Same H5 (upd H5 l1 (.lst [V.int 1])) := same_new hl1
  have a2 : Same (upd H5 l1 (.lst [V.int 1])) (upd (upd H5 l1 (.lst [V.int 1])) l2 (.lst [V.int 0])) := same_new hl2
  have a3 := same_new (o := .lst (List.replicate (((l + 1 : Nat) : Int) - 1).toNat [vN 0]).flatten) hr1
  refine ⟨l1, r1, [vN 1], _, rfl, rfl, a3 _ _ (a2 _ _ upd_same), upd_same, line_le (by rw [lf]; show 1 + l ≤ 1000; omega), fun c1 hc1 => ?_⟩
  have a4 := same_new (o := .lst ([vN 1] ++ (List.replicate (((l + 1 : Nat) : Int) - 1).toNat [vN 0]).flatten)) hc1
  have hc1' : (upd (upd (upd (upd H5 l1 (.lst [V.int 1])) l2 (.lst [V.int 0])) r1 (.lst (List.replicate (((l + 1 : Nat) : Int) - 1).toNat [vN 0]).flatten)) c1 (.lst ([vN 1] ++ (List.replicate (((l + 1 : Nat) : Int) - 1).toNat [vN 0]).flatten))) c1 = some (.lst ((1 :: List.replicate l 0).map vN)) := by
    rw [upd_same, ef]; rfl
  have s56 := Same.trans a1 (Same.trans a2 (Same.trans a3 a4))
  have c1p : c1 ≠ p := pot_ne (p5.same (Same.trans a1 (Same.trans a2 a3))) hc1
  clear a1 a2 a3 a4
  generalize upd (upd (upd (upd H5 l1 (.lst [V.int 1])) l2 (.lst [V.int 0])) r1 (.lst (List.replicate (((l + 1 : Nat) : Int) - 1).toNat [vN 0]).flatten)) c1 (.lst ([vN 1] ++ (List.replicate (((l + 1 : Nat) : Int) - 1).toNat [vN 0]).flatten)) = H6 at s56 hc1' ⊢
  clear hc1 hr1 hl2 hl1
  refine ⟨line_le (Nat.le_of_ble_eq_true rfl), fun l1 hl1 => ⟨line_le (Nat.le_of_ble_eq_true rfl), fun l2 hl2 => ⟨_, rfl, _, _, rfl, rfl, l2, _, [vN 1], rfl, rfl, upd_same, by omega, by omega, line_le (by rw [el]; show 1 * l ≤ 1000; omega), fun r1 hr1 => ?_⟩⟩⟩
  have p6 : Pot p H6 := p5.same s56
  have a1 : Same H6 (upd H6 l1 (.lst [V.int 0])) := same_new hl1
  have a2 : Same (upd H6 l1 (.lst [V.int 0])) (upd (upd H6 l1 (.lst [V.int 0])) l2 (.lst [V.int 1])) := same_new hl2
  have a3 := same_new (o := .lst (List.replicate (((l + 1 : Nat) : Int) - 1).toNat [vN 1]).flatten) hr1
  refine ⟨l1, r1, [vN 0], _, rfl, rfl, a3 _ _ (a2 _ _ upd_same), upd_same, line_le (by rw [lf]; show 1 + l ≤ 1000; omega), fun c2 hc2 => ?_⟩
  have a4 := same_new (o := .lst ([vN 0] ++ (List.replicate (((l + 1 : Nat) : Int) - 1).toNat [vN 1]).flatten)) hc2
  have hc2' : (upd (upd (upd (upd H6 l1 (.lst [V.int 0])) l2 (.lst [V.int 1])) r1 (.lst (List.replicate (((l + 1 : Nat) : Int) - 1).toNat [vN 1]).flatten)) c2 (.lst ([vN 0] ++ (List.replicate (((l + 1 : Nat) : Int) - 1).toNat [vN 1]).flatten))) c2 = some (.lst ((0 :: List.replicate l 1).map vN)) := by
    rw [upd_same, ef]; rfl
  have s67 := Same.trans a1 (Same.trans a2 (Same.trans a3 a4))
  have c2p : c2 ≠ p := pot_ne (p6.same (Same.trans a1 (Same.trans a2 a3))) hc2
  clear a1 a2 a3 a4
  generalize upd (upd (upd (upd H6 l1 (.lst [V.int 0])) l2 (.lst [V.int 1])) r1 (.lst (List.replicate (((l + 1 : Nat) : Int) - 1).toNat [vN 1]).flatten)) c2 (.lst ([vN 0] ++ (List.replicate (((l + 1 : Nat) : Int) - 1).toNat [vN 1]).flatten)) = H7 at s67 hc2' ⊢
  clear hc2 hr1 hl2 hl1
  have p7 : Pot p H7 := p6.same s67
  refine ⟨line_le (Nat.le_of_ble_eq_true rfl), fun ls hls => ?_⟩
  have s78 : Same H7 (upd H7 ls (.lst [.ref c1, .ref c2])) := same_new hls
  have lsp : ls ≠ p := pot_ne p7 hls
  obtain ⟨S2, eS2⟩ : ∃ S2 : Steps, S2 = [1 :: List.replicate l 0, 0 :: List.replicate l 1] := ⟨_, rfl⟩
  have d8 : Dp K (Wo [p] (upd H7 ls (.lst [.ref c1, .ref c2]))) (.ref ls) (dLL S2) := by
    rw [eS2]
    exact .lst (SqL.of (pot_out0 lsp upd_same)) (.cons (dp_pl c1p (s78 _ _ (s67 _ _ hc1'))) (.cons (dp_pl c2p (s78 _ _ hc2')) .nil))
  have w08 : Same (Wo [p] H) (Wo [p] (upd H7 ls (.lst [.ref c1, .ref c2]))) := Same.trans w05 (wo_mono (Same.trans s56 (Same.trans s67 s78)))
  have p8 : Pot p (upd H7 ls (.lst [.ref c1, .ref c2])) := p7.same s78
  generalize upd H7 ls (.lst [.ref c1, .ref c2]) = H8 at d8 w08 p8 ⊢
  clear s56 s67 s78 hc1' hc2' w05 p5 p6 p7 s5 hls
  obtain ⟨Ms2, eMs⟩ : ∃ Ms2 : List Mach, Ms2 = (List.range m).map fun t => (S2, [t % 2]) := ⟨_, rfl⟩
  refine ⟨_, rfl, (m : Int), rfl, by omega, by omega, fun D hD => lc_it (walk_range (lo := 0) (n := (m : Int).toNat)) (fun i Hx => LcP K D (Wo [p] H8) (fun i => ((List.range m).take i).map fun t => dM (S2, [t % 2])) i (Wo [p] Hx) ∧ Same H8 (Wo [D] Hx)) ?_ (fun _ _ _ _ => True.intro) (fun i x Ha Hb hi pc y => ?_) fun Hc pc => ?_⟩
  · have Dp1 : D ≠ p := pot_ne p8 hD
    refine ⟨LcP.zeroN (fun z => Dp1 (List.mem_singleton.mp z)) hD rfl, ?_⟩
    rw [wo_upd in1]
    intro b o e
    rw [wo_out fun z => by rw [List.mem_singleton.mp z, hD] at e; cases e]
    exact e
  · obtain ⟨rfl, ex⟩ := y
    have ex : x = vN i := ex.trans item_nat
    subst ex
    obtain ⟨pc, sc⟩ := pc
    have Dp1 : D ≠ p := pot_ne p8 hD
    have hDb : Hb D ≠ none := by
      obtain ⟨acc, e, _⟩ := pc.atN (fun z => Dp1 (List.mem_singleton.mp z))
      rw [e]; exact fun z => nomatch z
    refine ⟨rfl, _, rfl, _, rfl, _, _, rfl, rfl, by show (0 : Int) < 2; decide, line_le (Nat.le_of_ble_eq_true rfl), fun le hle => ⟨line_le (Nat.le_of_ble_eq_true rfl), fun t ht => ?_⟩⟩
    have pb : Pot p Hb := p8.same (Same.trans sc (wo_same _ _))
    have lep : le ≠ p := pot_ne pb hle
    have tp : t ≠ p := pot_ne (pb.same (same_new hle)) ht
    have leD : le ≠ D := fun z => hDb (by rw [← z]; exact hle)
    have hle2 := same_new (o := .lst [V.int ((i : Int) % 2)]) hle
    have tD : t ≠ D := fun z => hDb (by rw [← z]; exact Same.free hle2 ht)
    have sbt : Same Hb (upd (upd Hb le (.lst [V.int ((i : Int) % 2)])) t (.tup [.ref ls, .ref le])) := Same.trans hle2 (same_new ht)
    have e2 : V.int ((i : Int) % 2) = vN (i % 2) := by
      show V.int ((i : Int) % 2) = V.int ((i % 2 : Nat) : Int)
      rw [Int.natCast_emod]; rfl
    have hx : ∀ b o, b ≠ p → b ≠ D → (upd (upd Hb le (.lst [V.int ((i : Int) % 2)])) t (.tup [.ref ls, .ref le])) b = some o → Wo [D] (Wo [p] (upd (upd Hb le (.lst [V.int ((i : Int) % 2)])) t (.tup [.ref ls, .ref le]))) b = some o := fun b o n1 n2 e => by
      rw [wo_out fun z => n2 (List.mem_singleton.mp z), wo_out fun z => n1 (List.mem_singleton.mp z)]; exact e
    have dy : Dp K (Wo [D] (Wo [p] (upd (upd Hb le (.lst [V.int ((i : Int) % 2)])) t (.tup [.ref ls, .ref le])))) (.ref t) (dM (S2, [i % 2])) := by
      refine .tup (SqT.of (hx _ _ tp tD upd_same)) (.cons ?_ (.cons (dp_l (ns := [i % 2]) (SqL.of (hx _ _ lep leD (same_new ht _ _ (upd_same.trans (congrArg (fun z => some (HO.lst [z])) e2)))))) .nil))
      refine dp_mono ?_ d8
      obtain ⟨_, _, sx, _⟩ := id pc
      exact Same.trans sx (wo_mono (wo_mono sbt))
    obtain ⟨acc, q1, q2, q3⟩ := pc.putN (H4 := upd (upd Hb le (.lst [V.int ((i : Int) % 2)])) t (.tup [.ref ls, .ref le])) (y := .ref t) (d := dM (S2, [i % 2])) (fun z => Dp1 (List.mem_singleton.mp z)) (line_lt (by omega)) ((upd_ne tD.symm).trans (upd_ne leD.symm)) (wo2_mono sbt) dy (take_map (fun t => dM (S2, [t % 2])) (List.range m) (range_get (by omega)))
    refine ⟨acc, q1, q2, q3, ?_⟩
    rw [wo_upd in1]
    exact Same.trans sc (wo_mono sbt)
  · obtain ⟨⟨acc, q1, q2, q3, _⟩, sc⟩ := pc
    have Dp1 : D ≠ p := pot_ne p8 hD
    have pcx : Pot p Hc := p8.same (Same.trans sc (wo_same _ _))
    have htk : (List.range m).take (m : Int).toNat = List.range m := List.take_of_length_le (by rw [List.length_range]; omega)
    have q3 : DpAll K (Wo [D] (Wo [p] Hc)) acc (((List.range m).take (m : Int).toNat).map fun t => dM (S2, [t % 2])) := q3
    rw [htk] at q3
    have q3 : DpAll K (Wo [D] (Wo [p] Hc)) acc (Ms2.map dM) := by rw [eMs, List.map_map]; exact q3
    obtain ⟨C, Z, hC⟩ := few_classes l m hL2 hm hm2
    rw [← eS2, ← eMs] at Z
    exact k Hc D Ms2 C (Same.trans w08 (Same.trans q2 (wo_same _ _))) pcx (.lst (SqL.of q1) (dpAll_mono (wo_same _ _) q3)) (by rw [eMs, List.length_map, List.length_range]) (fun M hM => by
      rw [eMs] at hM
      obtain ⟨t, _, rfl⟩ := List.mem_map.mp hM
      rw [eS2]
      show 2 ≤ 3; decide) Z hC
end
end M22

set_option maxRecDepth 100000
set_option maxHeartbeats 4000000
/-! k22: own rule: sorted(set(rows)), a row a number and a tuple of numbers, at most three rows. -/
namespace M22
open PySem PySem.Spec PyProof.Rows L2
abbrev Row := Nat × List Nat
abbrev rk (r : Row) : NestedKey := .tup [.num (r.1 : Int), .tup (nums r.2)]
theorem rk_inj {x y : Row} (e : rk x = rk y) : x = y := by
  injection e with e
  simp only [List.cons.injEq, NestedKey.num.injEq, NestedKey.tup.injEq, and_true] at e
  exact Prod.ext (by have := e.1; omega) (nums_inj e.2)
theorem rk_dep (r : Row) : (rk r).depth = 2 := by
  show max (NestedKey.depth (.num _)) (max (NestedKey.depthAll (nums r.2) + 1) 0) + 1 = 2
  rw [nums_dep]
  rfl
abbrev dR (r : Row) : PyData := .tuple [dN r.1, dT r.2]
theorem rk_data (r : Row) : (rk r).data = dR r := by
  show PyData.tuple [dN r.1, .tuple (NestedKey.datas (nums r.2))] = _
  rw [nums_data]

section
variable {P : Program} {w : World} {A : Around} {E : Value → Shared → Prop} {s : Shared}
/-! ### what a set asks of a row -/
/-- v is of no class of the text's -/
def NoCl (P : Program) (w : World) (n : Nat) (s : Shared) (v : Value) : Prop := ∀ (A : Around) (E : Value → Shared → Prop) (Q : Bool → Shared → Prop), Q false s → wpAny (model P w) A (ofAClassStatement n v) Q E s
/-- v's hash is its value's -/
def ByVal (P : Program) (w : World) (n : Nat) (s : Shared) (v : Value) : Prop := ∀ (A : Around) (E : Value → Shared → Prop) (Q : Bool → Shared → Prop), Q true s → wpAny (model P w) A (hashByValue n v) Q E s
theorem noCl_int {n : Nat} {i : Int} {v : Value} (h : NestedIs s.heap (.num i) v) : NoCl P w n s v := fun A E Q q => by
  cases h <;> (cases n <;> exact wpAny_pure q)
theorem byVal_int {n : Nat} {i : Int} {v : Value} (h : NestedIs s.heap (.num i) v) : ByVal P w n s v := fun A E Q q => by
  cases h <;> (cases n <;> exact wpAny_pure q)
theorem noCl_tup {n : Nat} {b : Addr} {o : Obj} {us : Array Value} {m : Nat} (g : s.heap.get? b = some o) (gc : o.cls = .type "tuple") (gd : o.data = .seq us m) (all : ∀ v ∈ us.toList, NoCl P w n s v) : NoCl P w (n + 1) s (.ref b) := fun A E Q q => by
  have ty : s.TypeIs (.ref b) "tuple" := ⟨o, g, gc⟩
  have e : (("tuple" : String) == "tuple") = true := by decide
  unfold ofAClassStatement
  refine wpAny_bind (wpAny_typeOf ty ?_)
  dsimp only
  simp only [e, if_true, Bool.not_true, Bool.false_eq_true, if_false]
  try refine wpAny_bind (wpAny_pure ?_)
  try simp only [Bool.not_true, Bool.false_eq_true, if_false]
  show wpAny _ _ (seqItems? (.ref b) >>= _) _ _ s
  refine wpAny_bind (wpAny_seqItems g gd (wpAny_bind ?_))
  show wpAny _ _ (forIn us _ _) _ _ s
  rw [← Array.forIn_toList]
  refine wpAny_forIn_list _ (fun l r z => r.1 = none ∧ z = s ∧ ∀ v ∈ l, NoCl P w n s v) _ (fun v l r z ⟨_, ez, h⟩ => ?_) (fun ⟨r1, r2⟩ z ⟨er, ez, _⟩ => ?_) _ _ ⟨rfl, rfl, all⟩
  · subst ez
    refine wpAny_bind (h v List.mem_cons_self _ _ _ ?_)
    simp only [Bool.false_eq_true, if_false]
    exact wpAny_pure ⟨rfl, rfl, fun u hu => h u (List.mem_cons_of_mem _ hu)⟩
  · subst ez
    simp only at er
    subst er
    exact wpAny_pure q
theorem byVal_tup {n : Nat} {b : Addr} {o : Obj} {us : Array Value} {m : Nat} (g : s.heap.get? b = some o) (gc : o.cls = .type "tuple") (gd : o.data = .seq us m) (all : ∀ v ∈ us.toList, ByVal P w n s v) : ByVal P w (n + 1) s (.ref b) := fun A E Q q => by
  have ty : s.TypeIs (.ref b) "tuple" := ⟨o, g, gc⟩
  unfold hashByValue
  refine wpAny_bind (wpAny_specialOf ty F.slot_tuple_hash.lookup ?_)
  show wpAny _ _ (seqItems? (.ref b) >>= _) _ _ s
  refine wpAny_bind (wpAny_seqItems g gd (wpAny_bind ?_))
  show wpAny _ _ (forIn us _ _) _ _ s
  rw [← Array.forIn_toList]
  refine wpAny_forIn_list _ (fun l r z => r.1 = none ∧ z = s ∧ ∀ v ∈ l, ByVal P w n s v) _ (fun v l r z ⟨_, ez, h⟩ => ?_) (fun ⟨r1, r2⟩ z ⟨er, ez, _⟩ => ?_) _ _ ⟨rfl, rfl, all⟩
  · subst ez
    refine wpAny_bind (h v List.mem_cons_self _ _ _ ?_)
    simp only [Bool.not_true, Bool.false_eq_true, if_false]
    exact wpAny_pure ⟨rfl, rfl, fun u hu => h u (List.mem_cons_of_mem _ hu)⟩
  · subst ez
    simp only at er
    subst er
    exact wpAny_pure q
theorem nums_all {ns : List Nat} {us : List Value} (h : NestedAll s.heap (nums ns) us) : ∀ v ∈ us, ∃ i, NestedIs s.heap (.num i) v := by
  induction ns generalizing us with
  | nil => cases h; exact fun _ z => nomatch z
  | cons n ns ih =>
    cases h with
    | cons a b =>
      intro v hv
      rcases List.mem_cons.mp hv with e | hv
      · exact ⟨_, e ▸ a⟩
      · exact ih b v hv
/-- the row r is the tuple at b -/
abbrev RIs (h : Heap) (r : Row) (b : Addr) : Prop := NestedIs h (rk r) (.ref b)
theorem row_noCl {r : Row} {b : Addr} (h : RIs s.heap r b) : NoCl P w 8 s (.ref b) := by
  cases h with
  | tup g gc gd all =>
    refine noCl_tup g gc gd fun v hv => ?_
    generalize (Array.toList _) = us at all hv
    cases all with
    | cons a t =>
      cases t with
      | cons a2 t2 =>
        cases t2
        rcases List.mem_cons.mp hv with e | hv
        · rw [e]; exact noCl_int a
        · rw [List.mem_singleton.mp hv]
          cases a2 with
          | tup g2 gc2 gd2 all2 => exact noCl_tup g2 gc2 gd2 fun u hu => noCl_int (nums_all all2 u hu).choose_spec
theorem row_byVal {r : Row} {b : Addr} (h : RIs s.heap r b) : ByVal P w 8 s (.ref b) := by
  cases h with
  | tup g gc gd all =>
    refine byVal_tup g gc gd fun v hv => ?_
    generalize (Array.toList _) = us at all hv
    cases all with
    | cons a t =>
      cases t with
      | cons a2 t2 =>
        cases t2
        rcases List.mem_cons.mp hv with e | hv
        · rw [e]; exact byVal_int a
        · rw [List.mem_singleton.mp hv]
          cases a2 with
          | tup g2 gc2 gd2 all2 => exact byVal_tup g2 gc2 gd2 fun u hu => byVal_int (nums_all all2 u hu).choose_spec
/-- looking among rows shows nothing -/
theorem row_unseen {r : Row} {b : Addr} {us : List Value} {Q : Bool → Shared → Prop} (h : RIs s.heap r b) (hs : ∀ u ∈ us, ∃ r2 c, u = .ref c ∧ RIs s.heap r2 c) (q : Q false s) : wpAny (model P w) A (searchCouldBeSeen (.ref b) us) Q E s := by
  unfold searchCouldBeSeen
  refine wpAny_bind (wpAny_forIn_list _ (fun l z x => z.1 = none ∧ x = s ∧ ∀ u ∈ l, ∃ r2 c, u = .ref c ∧ RIs s.heap r2 c) _ (fun u l z x ⟨_, ex, hl⟩ => ?_) (fun ⟨z1, z2⟩ x ⟨ez, ex, _⟩ => ?_) _ _ ⟨rfl, rfl, hs⟩)
  · subst ex
    obtain ⟨r2, c, rfl, h2⟩ := hl u List.mem_cons_self
    have more : ∀ u ∈ l, ∃ r2 c, u = .ref c ∧ RIs x.heap r2 c := fun v hv => hl v (List.mem_cons_of_mem _ hv)
    dsimp only
    by_cases e : (b == c || (carriedByValue (.ref b) && carriedByValue (.ref c))) = true
    · exact wp_if_pos e (wpAny_pure ⟨rfl, rfl, more⟩)
    · refine wp_if_neg e (wpAny_bind (quiet_key _ _ 8 _ h (by rw [rk_dep]; decide) _ _ _ ?_))
      simp only [Bool.not_true, Bool.false_eq_true, if_false]
      refine wpAny_bind (quiet_key _ _ 8 _ h2 (by rw [rk_dep]; decide) _ _ _ ?_)
      simp only [Bool.not_true, Bool.false_eq_true, if_false]
      refine wpAny_bind (row_noCl h _ _ _ ?_)
      simp only [Bool.false_eq_true, if_false]
      refine wpAny_bind (row_noCl h2 _ _ _ ?_)
      simp only [Bool.false_eq_true, if_false]
      exact wpAny_pure ⟨rfl, rfl, more⟩
  · subst ex
    simp only at ez
    subst ez
    exact wpAny_pure q

/-! ### the set -/
structure SetK (w : World) (hf : Row → Int) (h : Heap) (a : Addr) (L : List (Addr × Row)) (es : Array (Int × Value)) (ep : Nat) (t : SetTable) : Prop where
  ob : ∃ o, h.get? a = some o ∧ o.cls = .type "set" ∧ o.data = .set es ep t
  rows : es.toList = L.map fun q => (hf q.2, Value.ref q.1)
  tab : TabOk t (L.map fun q => hf q.2)
  nd : (L.map (·.2)).Nodup
  mask : t.mask = 7
  plain : t.plain = true
  led : w.params.followText "set-order" = true ∨ t.led = true
  few : L.length ≤ 3
variable {hf : Row → Int} {a : Addr} {L : List (Addr × Row)} {es : Array (Int × Value)} {ep : Nat} {t : SetTable}
theorem SetK.size {h : Heap} (R : SetK w hf h a L es ep t) : es.size = L.length := by
  have z := congrArg List.length R.rows
  rwa [Array.length_toList, List.length_map] at z
theorem SetK.fits {h : Heap} (R : SetK w hf h a L es ep t) : t.fits es.size = true := by
  have z := R.tab.sz
  rw [List.length_map] at z
  have z2 := R.size
  have z3 := R.few
  have z4 := R.mask
  unfold SetTable.fits SetTable.fill
  rw [R.tab.dm]
  have e : (#[] : Array Nat).size = 0 := rfl
  simp only [Bool.and_eq_true, beq_iff_eq, decide_eq_true_eq]
  omega
theorem SetK.here {h : Heap} (R : SetK w hf h a L es ep t) {i : Nat} {q : Addr × Row} (e : L[i]? = some q) : es[i]? = some (hf q.2, Value.ref q.1) := by
  rw [← Array.getElem?_toList, R.rows, List.getElem?_map, e]
  rfl
theorem SetK.stay {h h' : Heap} (R : SetK w hf h a L es ep t) (k : ∀ o, h.get? a = some o → h'.get? a = some o) : SetK w hf h' a L es ep t := by
  obtain ⟨o, e, z⟩ := R.ob
  exact ⟨⟨o, k o e, z⟩, R.rows, R.tab, R.nd, R.mask, R.plain, R.led, R.few⟩
theorem nth_dummy (m : Nat) : ∀ (n : Nat) (p : SetTable.Probe), p.dummy = none → (nth m p n).dummy = none
  | 0, _, h => h
  | n + 1, p, h => nth_dummy m n (adv m p) (by unfold adv; split <;> exact h)
/-- the walk of a search, from its c-th step on -/
theorem SetK.seek (R : SetK w hf s.heap a L es ep t) (hL : ∀ q ∈ L, RIs s.heap q.2 q.1) {x : Addr} {r : Row} (hx : RIs s.heap r x) (hu : A.units + 8 < cLine) {Z : Nat} (hZ : Z < 10 * SetTable.turns t.mask)
    (free : way t.mask (hf r) Z ∉ t.place.toList) (full : ∀ c, c < Z → way t.mask (hf r) c ∈ t.place.toList) {Q : SetFound → Shared → Prop}
    (qin : r ∈ L.map (·.2) → Q (.there none) s) (qout : r ∉ L.map (·.2) → Q (.free (way t.mask (hf r) Z) false) s) :
    ∀ (f c : Nat) (st : Option SetTable.Probe), Z - c < f → c ≤ Z → st.getD (t.probeStart (hf r)) = nth t.mask (runAt t.mask (SetTable.bits (hf r) % (t.mask + 1)) (SetTable.bits (hf r))) c →
      (∀ (i : Nat) (q : Addr × Row), L[i]? = some q → q.2 = r → ∃ c2, c ≤ c2 ∧ c2 < Z ∧ t.place.toList[i]? = some (way t.mask (hf r) c2)) →
      wpAny (model P w) A (setSearchFrom a (.ref x) (hf r) true f st) Q E s := by
  intro f
  induction f with
  | zero => intro c st h; exact absurd h (Nat.not_lt_zero _)
  | succ f ih =>
    intro c st hlt hc hst seen
    obtain ⟨o, ho, _, hd⟩ := R.ob
    rw [setSearchFrom_succ]
    refine wpAny_bind (wpAny_setState_of ho hd R.fits ?_)
    dsimp only
    refine wp_if_neg (by unfold SetTable.gaveWay; rw [R.mask]; decide) ?_
    try refine wpAny_bind (wpAny_pure ?_)
    generalize hp0 : runAt t.mask (SetTable.bits (hf r) % (t.mask + 1)) (SetTable.bits (hf r)) = p0 at hst
    have wy : ∀ k, way t.mask (hf r) k = (nth t.mask p0 k).j := fun k => by rw [← hp0]
    have go : ∀ k, nth t.mask (nth t.mask p0 c) k = nth t.mask p0 (c + k) := fun k => (nth_add t.mask c p0 k).symm
    have wj : ∀ k, (nth t.mask (nth t.mask p0 c) k).j = way t.mask (hf r) (c + k) := fun k => by rw [go, wy]
    have hsh : ∀ (i : Nat) (q : Addr × Row), L[i]? = some q → (es[i]?.map (·.1)).getD 0 = hf q.2 := fun i q e => by rw [R.here e]; rfl
    have far : c + (Z - c) = Z := by omega
    rcases go_spec t R.tab.ris R.tab.dm (fun i => (es[i]?.map (·.1)).getD 0) (hf r) (10 * SetTable.turns t.mask) (Z - c) (nth t.mask p0 c) (nth_dummy _ _ _ (by rw [← hp0]; rfl)) (by omega) (fun k hk => by rw [wj]; exact full _ (by omega)) (by rw [wj, far]; exact free) with ⟨k, i, hk, hi, hh, no, pr⟩ | ⟨no, pr⟩
    · have pr : t.probe (fun i => (es[i]?.map (·.1)).getD 0) (hf r) (st.getD (t.probeStart (hf r))) = some (.candidate (way t.mask (hf r) (c + k)) i (nth t.mask p0 (c + (k + 1)))) := by
        rw [hst, ← wj, ← go]; exact pr
      rw [pr]
      dsimp only
      rw [wj] at hi
      obtain ⟨q, hq⟩ : ∃ q, L[i]? = some q := get_some (by
        have z1 := (List.getElem?_eq_some_iff.mp hi).1
        have z2 := R.tab.sz
        rw [List.length_map] at z2
        rw [Array.length_toList] at z1
        omega)
      have hqm := List.mem_of_getElem? hq
      have sl : t.slot (way t.mask (hf r) (c + k)) = .live i := slot_live R.tab.ris hi
      have tail : wpAny (model P w) A (searchRest a (.ref x) (hf r) true f es t (way t.mask (hf r) (c + k)) i (nth t.mask p0 (c + (k + 1)))) Q E s := by
        unfold searchRest
        rw [R.here hq]
        dsimp only
        refine wpAny_bind (wpAny_holding ((nestedKind P w).eqBool (A := A) hu ⟨hL q hqm, by rw [rk_dep]; decide⟩ ⟨hx, by rw [rk_dep]; decide⟩ ?_))
        refine wpAny_bind (wpAny_setState_of ho hd R.fits ?_)
        dsimp only
        by_cases same : q.2 = r
        · exact wp_if_pos (by simp [same]) (wpAny_pure (qin (List.mem_map.mpr ⟨q, hqm, same⟩)))
        · have ne : decide (rk q.2 = rk r) = false := decide_eq_false fun z => same (rk_inj z)
          refine wp_if_neg (by rw [ne]; decide) ?_
          try refine wpAny_bind (wpAny_pure ?_)
          rw [sameMem]
          dsimp only
          simp only [if_true, sl, R.here hq]
          refine wpAny_bind (wpAny_isSame_ref_self (wpAny_bind (wpAny_pure ?_)))
          simp only [if_true]
          refine wp_if_neg (by rw [ne]; decide) (ih (c + (k + 1)) _ (by omega) (by omega) (by rw [← hp0]; rfl) fun i2 q2 h2 e2 => ?_)
          obtain ⟨c2, z1, z2, z3⟩ := seen i2 q2 h2 e2
          refine ⟨c2, ?_, z2, z3⟩
          by_cases lt : c2 < c + k
          · refine absurd ((hsh i2 q2 h2).trans (congrArg hf e2)) (no (c2 - c) i2 (by omega) ?_)
            rw [wj, show c + (c2 - c) = c2 by omega]
            exact z3
          · by_cases eq : c2 = c + k
            · rw [eq] at z3
              have sl2 := slot_live R.tab.ris z3
              rw [sl] at sl2
              injection sl2 with ei
              rw [← ei, hq] at h2
              cases h2
              exact absurd e2 same
            · omega
      by_cases ld : t.led = true
      · refine wp_if_neg (by simp [ld]) ?_
        try refine wpAny_bind (wpAny_pure ?_)
        exact tail
      · refine wp_if_pos (by simp [ld]) (wpAny_bind (row_unseen hx (fun u hu => ?_) ?_))
        · obtain ⟨e, he, rfl⟩ := List.mem_map.mp hu
          have z1 : e ∈ es ∧ e.1 = hf r := by simpa using he
          have z2 : e ∈ es.toList := by simpa using z1.1
          rw [R.rows] at z2
          obtain ⟨q2, h2, rfl⟩ := List.mem_map.mp z2
          exact ⟨q2.2, q2.1, rfl, hL q2 h2⟩
        · refine wp_if_neg (by decide) ?_
          try refine wpAny_bind (wpAny_pure ?_)
          exact tail
    · have pr : t.probe (fun i => (es[i]?.map (·.1)).getD 0) (hf r) (st.getD (t.probeStart (hf r))) = some (.empty (way t.mask (hf r) Z) none) := by
        rw [hst, show way t.mask (hf r) Z = (nth t.mask (nth t.mask p0 c) (Z - c)).j by rw [wj, far]]
        exact pr
      rw [pr]
      dsimp only
      refine wpAny_pure (qout fun hm => ?_)
      obtain ⟨q, hq, e⟩ := List.mem_map.mp hm
      obtain ⟨i, hi⟩ := List.getElem?_of_mem hq
      obtain ⟨c2, z1, z2, z3⟩ := seen i q hi e
      refine no (c2 - c) i (by omega) ?_ ((hsh i q hi).trans (congrArg hf e))
      rw [wj, show c + (c2 - c) = c2 by omega]
      exact z3
theorem SetK.search (R : SetK w hf s.heap a L es ep t) (hL : ∀ q ∈ L, RIs s.heap q.2 q.1) {x : Addr} {r : Row} (hx : RIs s.heap r x) (hu : A.units + 8 < cLine) {Q : SetFound → Shared → Prop} (qin : r ∈ L.map (·.2) → Q (.there none) s)
    (qout : ∀ Z, r ∉ L.map (·.2) → way t.mask (hf r) Z ∉ t.place.toList → (∀ c, c < Z → way t.mask (hf r) c ∈ t.place.toList) → Q (.free (way t.mask (hf r) Z) false) s) : wpAny (model P w) A (setSearch a (.ref x) (hf r) true) Q E s := by
  have fw := R.few
  have mk := R.mask
  obtain ⟨Z, z1, z2, z3⟩ := R.tab.first (by rw [List.length_map]; omega) (hf r)
  have big : Z < 100000 := by
    unfold SetTable.turns at z1
    rw [mk] at z1
    omega
  unfold setSearch
  refine R.seek hL hx hu z1 z2 z3 qin (fun n => qout Z n z2 z3) 100000 0 none (by omega) (Nat.zero_le _) rfl fun i q hq e => ?_
  have h1 : (L.map fun q => hf q.2)[i]? = some (hf r) := by rw [List.getElem?_map, hq, ← e]; rfl
  obtain ⟨j, hj⟩ : ∃ j, t.place.toList[i]? = some j := get_some (by
    have y := R.tab.sz
    rw [List.length_map] at y
    rw [Array.length_toList, y]
    exact (List.getElem?_eq_some_iff.mp hq).1)
  obtain ⟨c, hc, ec⟩ := R.tab.before z2 h1 hj
  exact ⟨c, Nat.zero_le _, hc, by rw [hj, ec]⟩
theorem row_stay {h h' : Heap} {r : Row} {b : Addr} {o : Obj} (x : RIs h r b) (ho : h.get? a = some o) (hd : o.data = .set es ep t) (sb : Heap.SameBut a h h') : RIs h' r b := NestedIs.at (fun c ob vs n hb hc => by
  refine (sb.2 c fun e => ?_).trans hb
  rw [e, ho] at hb
  cases hb
  rw [hd] at hc
  cases hc) _ _ x
/-- one more row -/
theorem SetK.add (R : SetK w hf s.heap a L es ep t) (hL : ∀ q ∈ L, RIs s.heap q.2 q.1) {x : Addr} {r : Row} (hx : RIs s.heap r x) (hu : A.units + 8 < cLine) (h2 : L.length ≤ 2) {Q : Bool → Shared → Prop}
    (hQ : ∀ b h' L' es' ep' t', Heap.SameBut a s.heap h' → SetK w hf h' a L' es' ep' t' → (r ∈ L.map (·.2) → L' = L) → (r ∉ L.map (·.2) → L'.Perm ((x, r) :: L)) → Q b { s with heap := h' }) : wpAny (model P w) A (setAddHashed a (.ref x) (hf r)) Q E s := by
  obtain ⟨o, ho, hc, hd⟩ := R.ob
  have sz := R.size
  unfold setAddHashed
  refine wpAny_holding ?_
  rw [show (100000 : Nat) = 99999 + 1 from rfl, setAddHashedIn_succ]
  refine wpAny_bind (wpAny_setState_of ho hd R.fits ?_)
  dsimp only
  refine wp_if_neg (by simp [byScan, Value.scannable]) ?_
  try refine wpAny_bind (wpAny_pure ?_)
  refine wpAny_bind (R.search hL hx hu (fun hm => ?_) fun Z hm z2 z3 => ?_)
  · exact wpAny_pure (hQ false s.heap L es ep t (Heap.SameBut.refl a s.heap) R (fun _ => rfl) fun z => absurd hm z)
  dsimp only
  refine wpAny_bind (wpAny_setState_of ho hd R.fits ?_)
  dsimp only
  obtain ⟨e1, e2, e3, e4, e5, e6, _, _, e9⟩ := R.tab.put z2 z3
  have pl : (t.put (way t.mask (hf r) Z)).1.plain = true := e6.trans R.plain
  generalize hpt : t.put (way t.mask (hf r) Z) = pt at e1 e3 e4 e5 e6 e9 pl ⊢
  obtain ⟨t1, p⟩ := pt
  dsimp only at e1 e3 e4 e5 e6 e9 pl ⊢
  subst e1
  first
    | (refine wpAny_bind ?_; refine wp_if_pos pl ?_; refine row_byVal hx _ _ _ ?_)
    | refine wp_if_pos pl (wpAny_bind (row_byVal hx _ _ _ ?_))
  simp only [if_true]
  have rw1 : (SetTable.insertAt es (SetTable.below t.place (way t.mask (hf r) Z)) (hf r, Value.ref x)).toList = (L.take (SetTable.below t.place (way t.mask (hf r) Z)) ++ (x, r) :: L.drop (SetTable.below t.place (way t.mask (hf r) Z))).map fun q => (hf q.2, Value.ref q.1) := by
    rw [SetTable.toList_insertAt, R.rows, List.map_append, List.map_cons, List.map_take, List.map_drop]
  have rw2 : (L.take (SetTable.below t.place (way t.mask (hf r) Z)) ++ (x, r) :: L.drop (SetTable.below t.place (way t.mask (hf r) Z))).map (fun q => hf q.2) = (L.map fun q => hf q.2).take (SetTable.below t.place (way t.mask (hf r) Z)) ++ hf r :: (L.map fun q => hf q.2).drop (SetTable.below t.place (way t.mask (hf r) Z)) := by
    rw [List.map_append, List.map_cons, List.map_take, List.map_drop]
  have pm := put_perm L (SetTable.below t.place (way t.mask (hf r) Z)) (x, r)
  rw [← rw2] at e3
  generalize L.take (SetTable.below t.place (way t.mask (hf r) Z)) ++ (x, r) :: L.drop (SetTable.below t.place (way t.mask (hf r) Z)) = L1 at pm rw1 e3
  have l1 : L1.length = L.length + 1 := pm.length_eq
  generalize SetTable.insertAt es (SetTable.below t.place (way t.mask (hf r) Z)) (hf r, Value.ref x) = es1 at rw1 ⊢
  have s1 : es1.size = L.length + 1 := by
    have z := congrArg List.length rw1
    rwa [Array.length_toList, List.length_map, l1] at z
  refine wpAny_bind (wpAny_storeSet_of ho hd ?_ (by rw [s1, sizeLine_eq]; omega))
  have nf : ¬ t1.tooFull = true := by
    unfold SetTable.tooFull
    have mk := R.mask
    rw [decide_eq_true_eq, e9, List.length_map, e4, mk]
    omega
  have sb : Heap.SameBut a s.heap (s.heap.update a (Obj.putSet es1 t1)) := Heap.SameBut.update ..
  first
    | refine wp_if_neg (by simp [nf]) ?_
    | (refine wpAny_bind ?_; refine wp_if_neg (by simp [nf]) ?_; refine wpAny_pure ?_)
  refine wpAny_pure (hQ true _ L1 es1 (ep + 1) t1 sb ⟨⟨_, store_at ho hd, hc, rfl⟩, rw1, e3, ?_, e4.trans R.mask, pl, by rw [e5]; exact R.led, by omega⟩ (fun z => absurd z hm) fun _ => pm)
  refine (pm.map (·.2)).nodup_iff.mpr ?_
  rw [List.map_cons]
  exact List.nodup_cons.mpr ⟨hm, R.nd⟩
end
end M22

set_option maxRecDepth 100000
set_option maxHeartbeats 4000000
/-! k22: own rule: sorted(set(rows)): the loop, the call, the rule. -/
namespace M22
open PySem PySem.Spec PyProof.Rows L2
/-- what the set has of the i first rows -/
structure GotR (ks : List (Addr × Row)) (i : Nat) (L : List (Addr × Row)) : Prop where
  of : ∀ q ∈ L, q ∈ ks.take i
  has : ∀ q ∈ ks.take i, q.2 ∈ L.map (·.2)
  len : L.length ≤ i
section
variable {P : Program} {w : World} {A : Around} {E : Value → Shared → Prop} {s : Shared} {hf : Row → Int}
theorem GotR.next {ks L L' : List (Addr × Row)} {i : Nat} {q : Addr × Row} (g : GotR ks i L) (h : ks[i]? = some q) (old : q.2 ∈ L.map (·.2) → L' = L) (new : q.2 ∉ L.map (·.2) → L'.Perm (q :: L)) : GotR ks (i + 1) L' := by
  have et : ks.take (i + 1) = ks.take i ++ [q] := by rw [List.take_succ, h]; rfl
  by_cases m : q.2 ∈ L.map (·.2)
  · rw [old m]
    refine ⟨fun p hp => ?_, fun p hp => ?_, Nat.le_succ_of_le g.len⟩
    · rw [et]; exact List.mem_append_left _ (g.of p hp)
    · rw [et] at hp
      rcases List.mem_append.mp hp with z | z
      · exact g.has p z
      · rw [List.mem_singleton.mp z]; exact m
  · have pm := new m
    refine ⟨fun p hp => ?_, fun p hp => ?_, by rw [pm.length_eq]; exact Nat.succ_le_succ g.len⟩
    · rw [et]
      rcases List.mem_cons.mp (pm.mem_iff.mp hp) with z | z
      · rw [z]; exact List.mem_append_right _ (List.mem_singleton.mpr rfl)
      · exact List.mem_append_left _ (g.of p z)
    · rw [(pm.map (·.2)).mem_iff, List.map_cons]
      rw [et] at hp
      rcases List.mem_append.mp hp with z | z
      · exact List.mem_cons_of_mem _ (g.has p z)
      · rw [List.mem_singleton.mp z]; exact List.mem_cons_self
theorem rIs_keep {h h' : Heap} {r : Row} {b : Addr} (x : RIs h r b) (k : ∀ c o, h.get? c = some o → h'.get? c = some o) : RIs h' r b := NestedIs.at (fun c o _ _ e _ => k c o e) _ _ x
/-- the loop that fills a set with rows -/
theorem fill_rows (eh : ∀ r, hf r = (rk r).hash w) {I : Addr} {fp wr : List Addr} {G : Array GenState → Array GenState → Prop} {n : Nat} {Pv : Nat → Value → Prop} {St : Nat → Shared → Prop} {R : Result → Shared → Prop}
    (W : WalksS P w A.in1 I fp wr G n Pv St) {S : Addr} (hS : S ∉ fp) {ks : List (Addr × Row)} (hn : n = ks.length) (h3 : ks.length ≤ 3) (hv : ∀ i v, Pv i v → ∃ q, ks[i]? = some q ∧ v = .ref q.1)
    {h0 : Heap} (hk : ∀ q ∈ ks, RIs h0 q.2 q.1) (nS : h0.get? S = none) (nw : ∀ b ∈ wr, h0.get? b = none) (hu : A.in1.units + 8 < cLine) :
    ∀ (m i : Nat) (s : Shared), n - i = m → i ≤ n → St i s → (∀ b o, h0.get? b = some o → s.heap.get? b = some o) → (∃ L es ep t, SetK w hf s.heap S L es ep t ∧ GotR ks i L) →
      (∀ s' L es ep t, Moved (S :: wr) G s s' → SetK w hf s'.heap S L es ep t → GotR ks n L → (∀ b o, h0.get? b = some o → s'.heap.get? b = some o) → R (.ok (.ret .none)) s') →
      codeAny (model P w) A (.builtin "set.update.loop" ⟨[.ref S, .ref I], []⟩) R s := by
  have sw : S ∉ wr := fun z => hS (W.sub _ z)
  have up : ∀ b ∈ wr, b ∈ S :: wr := fun b hb => List.mem_cons_of_mem _ hb
  have kp : ∀ {s s' : Shared}, Moved wr G s s' → (∀ b o, h0.get? b = some o → s.heap.get? b = some o) → ∀ b o, h0.get? b = some o → s'.heap.get? b = some o := fun mv k b o e =>
    mv.heap b o (fun z => by rw [nw b z] at e; cases e) (k b o e)
  intro m
  induction m with
  | zero =>
    intro i s em hi st k0 ⟨L, es, ep, t, hK, g⟩ hR
    obtain rfl : i = n := by omega
    refine codeAny_builtin F.entry_set_update_loop ?_
    rw [Around.under_plainId F.plain_set_update_loop _]
    show wpAny _ A.in1 (pyNext (.ref I) >>= _) _ _ s
    refine wpAny_bind (W.done s _ _ st fun s' mv => ?_)
    show wpAny _ A.in1 (ret Value.none) _ _ s'
    exact wpAny_pure (hR s' L es ep t (mv.mono up) (hK.stay fun o e => mv.heap S o sw e) g (kp mv k0))
  | succ m ih =>
    intro i s em hi st k0 ⟨L, es, ep, t, hK, g⟩ hR
    refine codeAny_builtin F.entry_set_update_loop ?_
    rw [Around.under_plainId F.plain_set_update_loop _]
    show wpAny _ A.in1 (pyNext (.ref I) >>= _) _ _ s
    refine wpAny_bind (W.item i s _ _ (by omega) st fun v s' pv st' mv => ?_)
    obtain ⟨q, hq, rfl⟩ := hv i v pv
    have k1 := kp mv k0
    have hK' := hK.stay (h' := s'.heap) fun o e => mv.heap S o sw e
    have isR : ∀ p ∈ L, RIs s'.heap p.2 p.1 := fun p hp => rIs_keep (hk p (List.mem_of_mem_take (g.of p hp))) k1
    have hx : RIs s'.heap q.2 q.1 := rIs_keep (hk q (List.mem_of_getElem? hq)) k1
    show wpAny _ A.in1 (holding [Value.ref q.1] (setAdd S (.ref q.1)) >>= _) _ _ s'
    unfold setAdd
    refine wpAny_bind (wpAny_holding (wpAny_holding (wpAny_bind (pyHash_key (rk q.2) _ _ _ _ hx (by rw [rk_dep]; omega) ?_))))
    rw [← eh]
    refine SetK.add (s := { s' with toks := s'.toks + (rk q.2).draws }) hK' isR hx hu (by have := g.len; have := (List.getElem?_eq_some_iff.mp hq).1; omega) fun b h' L' es' ep' t' sb hK2 old new => ?_
    have k2 : ∀ b o, h0.get? b = some o → h'.get? b = some o := fun b o e => (sb.2 b fun z => by rw [z, nS] at e; cases e).trans (k1 b o e)
    refine wpAny_pure ⟨plainId_quiet F.plain_set_update_loop _, ih (i + 1) _ (by omega) (by omega) (W.frame _ s' _ _ st' (Nat.le_add_right _ _) fun b hb o e => ?_) k2 ⟨L', es', ep', t', hK2, g.next hq old new⟩ fun s2 L2 es2 ep2 t2 mv2 hK3 g3 k3 => ?_⟩
    · rw [sb.2 b fun z : b = S => hS (by rw [← z]; exact hb)]
      exact e
    · refine hR s2 L2 es2 ep2 t2 (Moved.trans W.gtrans ((mv.mono up).then_heap (Nat.le_add_right _ _) fun b o hb e => ?_) mv2) hK3 g3 k3
      rw [sb.2 b fun z : b = S => hb (by rw [z]; exact List.mem_cons_self)]
      exact e
theorem setK_new {h : Heap} {a : Addr} (ho : h.get? a = some (set0 w)) : SetK w hf h a [] #[] 0 (.fresh 0 0 (!w.params.followText "set-order")) where
  ob := ⟨_, ho, rfl, rfl⟩
  rows := rfl
  tab := ⟨List.Pairwise.nil, rfl, rfl, .inl rfl, fun x hx => (by cases hx), fun i h j z => (by simp at z)⟩
  nd := List.nodup_nil
  mask := rfl
  plain := rfl
  led := by
    show _ ∨ (!w.params.followText "set-order") = true
    cases w.params.followText "set-order"
    · exact .inr rfl
    · exact .inl rfl
  few := Nat.zero_le _
/-- set(a list of rows) -/
theorem set_rows (eh : ∀ r, hf r = (rk r).hash w) {l : Addr} {its : Array Value} {ks : List (Addr × Row)} {Q : Value → Shared → Prop} (hh : A.handled = none) (hl : s.heap.IsList l its) (hi : its.toList = ks.map fun q => Value.ref q.1) (hk : ∀ q ∈ ks, RIs s.heap q.2 q.1) (h3 : ks.length ≤ 3) (hu : A.units + 20 < cLine)
    (hQ : ∀ (h' : Heap) (tk : Nat) L es ep t, SetK w hf h' s.heap.objs.size L es ep t → GotR ks ks.length L → (∀ b o, s.heap.get? b = some o → h'.get? b = some o) → Q (.ref s.heap.objs.size) { s with heap := h', toks := tk }) :
    wpAny (model P w) A (call (.type "set") [.ref l]) Q E s := by
  have hsz : its.size = ks.length := by
    have q := congrArg List.length hi
    rwa [Array.length_toList, List.length_map] at q
  refine set_of_list (Post := fun s2 => ∃ (h' : Heap) (tk : Nat) (L : List (Addr × Row)) (es : Array (Int × Value)) (ep : Nat) (t : SetTable), s2 = { s with heap := h', toks := tk } ∧ SetK w hf h' s.heap.objs.size L es ep t ∧ GotR ks ks.length L ∧ ∀ b o, s.heap.get? b = some o → h'.get? b = some o) hl (fun A1 e1 e2 => ?_) fun s2 hp => ?_
  · obtain ⟨o, ho, hc⟩ := id hl
    have hlt : l < s.heap.objs.size := Heap.lt_size ho
    have hz : (s.heap.push (set0 w)).objs.size = s.heap.objs.size + 1 := Heap.size_push ..
    have h1 : (s.heap.push (set0 w)).IsList l its := hl.push _
    have hne : l ≠ (s.heap.push (set0 w)).objs.size := by rw [hz]; exact Nat.ne_of_lt (Nat.lt_succ_of_lt hlt)
    have hSn : s.heap.objs.size ∉ [(s.heap.push (set0 w)).objs.size, l] := by
      rw [hz]
      intro z
      rcases List.mem_cons.mp z with z | z
      · exact absurd z (Nat.ne_of_lt (Nat.lt_succ_self _))
      · exact absurd (List.mem_singleton.mp z) (Nat.ne_of_gt hlt)
    have hv : ∀ (i : Nat) (v : Value), its[i]? = some v → ∃ q, ks[i]? = some q ∧ v = .ref q.1 := fun i v hv => by
      have z : its.toList[i]? = some v := by rw [Array.getElem?_toList]; exact hv
      rw [hi, List.getElem?_map] at z
      obtain ⟨q, hq, e⟩ := Option.map_eq_some_iff.mp z
      exact ⟨q, hq, e.symm⟩
    have no : ∀ b, s.heap.objs.size ≤ b → s.heap.get? b = none := fun b hb => by
      cases q : s.heap.get? b with
      | none => rfl
      | some o => exact absurd (Nat.lt_of_lt_of_le (Heap.lt_size q) hb) (Nat.lt_irrefl _)
    have hh3 : A1.in1.handled = none := by simp [e1, hh]
    rw [← hz]
    refine fill_rows eh ((Walks.list hh3 _ l hne its).toS) hSn hsz h3 hv hk (no _ (Nat.le_refl _)) (fun b hb => no b (by rw [List.mem_singleton.mp hb, hz]; exact Nat.le_succ _)) (by show A1.units + 1 + 8 < _; omega) (its.size - 0) 0 _ (by omega) (Nat.zero_le _) ⟨⟨_, Heap.get?_push_size _ rfl, rfl, rfl⟩, h1.push _⟩ (fun b o e => Heap.get?_push_of_some _ (Heap.get?_push_of_some _ e)) ?h0 ?hR
    case h0 => exact ⟨[], #[], 0, _, setK_new (Heap.get?_push_of_some _ (Heap.get?_push_size _ rfl)), ⟨(fun _ z => nomatch z), (fun _ z => by simp at z), Nat.le_refl _⟩⟩
    case hR =>
      intro s' L es ep t hm hK g kk
      obtain ⟨h', g', d', tk, os'⟩ := s'
      have eg : g' = s.gens := hm.gens; have ed : d' = s.drawn := hm.drawn; have eo : os' = s.os := hm.os
      subst eg ed eo
      rw [hsz] at g
      exact ⟨rfl, h', tk, L, es, ep, t, rfl, hK, g, kk⟩
  · obtain ⟨h', tk, L, es, ep, t, rfl, a, b, c⟩ := hp
    exact hQ h' tk L es ep t a b c
end
end M22

set_option maxRecDepth 100000
set_option maxHeartbeats 4000000
/-! k22: own rule: sorted(set(rows)), told of the new list: the same rows, each kind once. -/
namespace M22
open PySem PySem.Spec PyProof.Rows L2
theorem perm_lift {α β : Type} {f : α → β} {vs us : List β} (pm : vs.Perm us) : ∀ L : List α, us = L.map f → ∃ L1 : List α, vs = L1.map f ∧ L1.Perm L := by
  induction pm with
  | nil => intro L e; exact ⟨L, e, .refl _⟩
  | cons x _ ih =>
    intro L e
    cases L with
    | nil => cases e
    | cons q L =>
      rw [List.map_cons, List.cons.injEq] at e
      obtain ⟨L1, e1, p1⟩ := ih L e.2
      exact ⟨q :: L1, by rw [List.map_cons, ← e1, e.1], p1.cons q⟩
  | swap x y l =>
    intro L e
    cases L with
    | nil => cases e
    | cons q L =>
      cases L with
      | nil => simp at e
      | cons q2 L =>
        rw [List.map_cons, List.map_cons, List.cons.injEq, List.cons.injEq] at e
        exact ⟨q2 :: q :: L, by rw [List.map_cons, List.map_cons, ← e.1, ← e.2.1, ← e.2.2], .swap q q2 L⟩
  | trans _ _ ih1 ih2 =>
    intro L e
    obtain ⟨L2, e2, p2⟩ := ih2 L e
    obtain ⟨L1, e1, p1⟩ := ih1 L2 e2
    exact ⟨L1, e1, p1.trans p2⟩
theorem alike_nums : ∀ xs ys : List Nat, PySem.W.alikeAll (xs.map dN) (ys.map dN) = true
  | [], _ => by simp [PySem.W.alikeAll]
  | _ :: _, [] => by simp [PySem.W.alikeAll]
  | x :: xs, y :: ys => by
    have := alike_nums xs ys
    rw [List.map_cons, List.map_cons, PySem.W.alikeAll, this]
    simp [PySem.W.alike]
theorem alike_row (x y : Row) : PySem.W.alike (dR x) (dR y) = true := by
  have := alike_nums x.2 y.2
  simp [PySem.W.alike, PySem.W.alikeAll, this]
theorem flat_row (r : Row) : Flat 2 (dR r) := flat_tup fun d hd => by
  rcases List.mem_cons.mp hd with e | hd
  · rw [e]; exact (flat_n _).mono (by decide)
  · rw [List.mem_singleton.mp hd]; exact flat_dT _
theorem eq_row : EqAs dR := fun x y => by
  have h1 := eq_n x.1 y.1
  have h2 := eq_dT x.2 y.2
  simp only [PyData.eqv, PyData.eqvAll, Bool.and_eq_true, and_true]
  rw [show (PyData.eqvAll (x.2.map dN) (y.2.map dN) = true) = (PyData.eqv (dT x.2) (dT y.2) = true) by simp only [PyData.eqv]]
  rw [h2]
  have h3 : (((x.1 : Nat) : Int) == ((y.1 : Nat) : Int)) = true ↔ x.1 = y.1 := by rw [beq_iff_eq]; omega
  rw [h3]
  exact ⟨fun z => Prod.ext z.1 z.2, fun z => by rw [z]; exact ⟨rfl, rfl⟩⟩
theorem reads_nums_nil {h : Heap} : ∀ {ns : List Nat} {us : List Value} {as : List Addr}, ReadsAll h us (ns.map dN) as → as = []
  | [], _, _, x => by cases x; rfl
  | n :: ns, _, _, x => by
    cases x with
    | cons a b =>
      cases a
      rw [reads_nums_nil (ns := ns) b]
      rfl
theorem reads_row_nil {h : Heap} {u : Value} {r : Row} {as : List Addr} (x : Reads h u (dR r) as) : as = [] := by
  cases x with
  | tuple _ _ _ all =>
    generalize (Array.toList _) = us at all
    cases all with
    | cons a t =>
      cases t with
      | cons a2 t2 =>
        cases t2
        cases a
        cases a2 with
        | tuple _ _ _ all2 => rw [reads_nums_nil all2]; rfl
theorem each_refs : ∀ {out : List Value} {L : List (Addr × Row)}, PySem.W.EachIs (fun (v : Value) (q : Addr × Row) => v = .ref q.1) out L → out = L.map fun q => Value.ref q.1
  | _, _, .nil => rfl
  | _, _, .cons e t => by rw [List.map_cons, ← each_refs t, e]
theorem refs_each {R : Value → Addr × Row → Prop} : ∀ {L : List (Addr × Row)}, (∀ q ∈ L, R (.ref q.1) q) → PySem.W.EachIs R (L.map fun q => Value.ref q.1) L
  | [], _ => .nil
  | q :: L, h => .cons (h q List.mem_cons_self) (refs_each fun p hp => h p (List.mem_cons_of_mem _ hp))
section
variable {P : Program} {w : World} {A : Around} {E : Value → Shared → Prop} {s : Shared} {hf : Row → Int} {a : Addr} {L : List (Addr × Row)} {es : Array (Int × Value)} {ep : Nat} {t : SetTable}
/-- sorted(such a set) -/
theorem SetK.sorted {Q : Value → Shared → Prop} (R : SetK w hf s.heap a L es ep t) (hr : ∀ q ∈ L, ∃ as, Reads s.heap (.ref q.1) (dR q.2) as) (hh : A.handled = none) (hu : A.units + 20 < cLine)
    (hQ : ∀ (s2 : Shared) (p : Addr) (c : Nat) (L2 : List (Addr × Row)), (∀ b o, s.heap.get? b = some o → s2.heap.get? b = some o) → s2.gens = s.gens → s2.os = s.os → s.heap.objs.size ≤ p → s2.heap.get? p = some (seqObj "list" (L2.map fun q => Value.ref q.1).toArray c) → L2.Perm L → Q (.ref p) s2) :
    wpAny (model P w) A (call (.builtin "sorted") [.ref a]) Q E s := by
  have few := R.few
  have sz := R.size
  refine Calls.call_function_entry kind_sorted plain_sorted entry_sorted (args_sorted1 _) ?_
  unfold Builtin.«sorted»
  refine wpAny_bind (m := checkCount "sorted" 1 1 _) (wpAny_pure (wpAny_bind (collect_set (A := A.in1) hh R.ob R.fits (by unfold scanBound; omega) R.tab.ris R.led fun s1 vs k1 hz g1 o1 pm => ?_)))
  rw [R.rows, List.map_map] at pm
  obtain ⟨L1, rfl, p1⟩ := perm_lift pm L rfl
  have l1 : L1.length ≤ 3 := by rw [p1.length_eq]; exact few
  refine wpAny_bind (wpAny_newList ?_ (by rw [List.length_map, sizeLine_eq]; omega))
  have hD : (s1.heap.push (seqObj "list" (L1.map fun q => Value.ref q.1).toArray 0)).get? s1.heap.objs.size = some (seqObj "list" (L1.map fun q => Value.ref q.1).toArray 0) := Heap.get?_push_size _ rfl
  refine wpAny_bind (wpAny_holding (PySem.W.list_sort_data (s := { s1 with heap := s1.heap.push (seqObj "list" (L1.map fun q => Value.ref q.1).toArray 0) }) (R := fun (v : Value) (q : Addr × Row) => v = .ref q.1) (enc := fun q : Addr × Row => dR q.2) (bs := L1) hD (refs_each fun q _ => rfl) (refs_each fun q hq => ?_) (PySem.W.AllAlike.of fun x y => alike_row x.2 y.2)
    (PySem.W.Sortable.tuples fun q => ⟨_, _, rfl⟩) (by rw [sizeLine_eq]; omega) (fun q _ => by have := (flat_row q.2).dep; show A.in1.units + 1 + (dR q.2).depth < _; rw [Around.in1_units]; omega) fun out ho eo => ?_))
  · obtain ⟨as, x⟩ := hr q (p1.mem_iff.mp hq)
    have y := Reads.keeps (h' := s1.heap.push (seqObj "list" (L1.map fun q => Value.ref q.1).toArray 0)) (fun b o e => Heap.get?_push_of_some _ (k1 b o e)) x
    rw [reads_row_nil y] at y
    exact ⟨[], y, List.not_mem_nil⟩
  · have eo := each_refs eo
    generalize hL2 : L1.mergeSort _ = L2 at eo
    have p2 : L2.Perm L := by rw [← hL2]; exact (List.mergeSort_perm _ _).trans p1
    subst eo
    obtain ⟨c, hc⟩ := sortedHeap_at (vs := L1.map fun q => Value.ref q.1) (out := (L2.map fun q => Value.ref q.1).toArray) hD
    refine wpAny_pure ⟨_, rfl, hQ _ s1.heap.objs.size c L2 (fun b o e => ?_) g1 o1 hz hc p2⟩
    have e1 := k1 b o e
    exact (sortedHeap_old (Nat.ne_of_lt (Heap.lt_size e1)) (Heap.lt_size (Heap.get?_push_of_some _ e1))).trans (Heap.get?_push_of_some _ e1)
end
section
variable {X : Cx}
/-- rows of data, with their places -/
theorem rows_at {K : PySem.W.Frag} {H : Hp} : ∀ {rs : List Row} {xs : List V}, DpAll K H xs (rs.map dR) → ∃ ks : List (Addr × Row), xs = ks.map (fun q => V.ref q.1) ∧ ks.map (·.2) = rs ∧ ∀ q ∈ ks, Dp K H (.ref q.1) (dR q.2)
  | [], _, h => by cases h; exact ⟨[], rfl, rfl, fun _ z => nomatch z⟩
  | r :: rs, _, h => by
    cases h with
    | cons a b =>
      obtain ⟨ks, e1, e2, h2⟩ := rows_at b
      obtain ⟨t, _, e, _⟩ := tup_of a
      refine ⟨(t, r) :: ks, by rw [e1, e]; rfl, by rw [List.map_cons, e2], fun q hq => ?_⟩
      rcases List.mem_cons.mp hq with z | z
      · rw [z, ← e]; exact a
      · exact h2 q z
theorem dp_rows {K : PySem.W.Frag} {H : Hp} : ∀ {ks : List (Addr × Row)}, (∀ q ∈ ks, Dp K H (.ref q.1) (dR q.2)) → DpAll K H (ks.map fun q => V.ref q.1) ((ks.map (·.2)).map dR)
  | [], _ => .nil
  | q :: ks, h => .cons (h q List.mem_cons_self) (dp_rows fun p hp => h p (List.mem_cons_of_mem _ hp))
theorem vals_refs : ∀ {ks : List (Addr × Row)} {us : List Value}, Vals (ks.map fun q => V.ref q.1) us → us = ks.map fun q => Value.ref q.1
  | [], _, .nil => rfl
  | q :: ks, _, .cons r t => by
    cases r
    rw [vals_refs t]
    rfl
theorem refs_vals : ∀ ks : List (Addr × Row), Vals (ks.map fun q => V.ref q.1) (ks.map fun q => Value.ref q.1)
  | [] => .nil
  | q :: ks => .cons rfl (refs_vals ks)
def tSortSetR (K : PySem.W.Frag) (ta : TE) : TE := fun σ H Q => ta σ H fun x H1 => ∃ (l : Addr) (xs : List V) (rs : List Row), x = V.ref l ∧ SqL K H1 l xs ∧ DpAll K H1 xs (rs.map dR) ∧ rs.length ≤ 3 ∧
  ∀ (ys : List V) (rs2 : List Row) (p : Addr), DpAll K H1 ys (rs2.map dR) → (∀ r, r ∈ rs2 ↔ r ∈ rs) → rs2.length ≤ rs.length → H1 p = none → Q (.ref p) (upd H1 p (.lst ys))
theorem pe_sortSetR (K : PySem.W.Frag) {a : Expr} {ta : TE} {p p2 q pos : Pos} (hc : X.calm = true) (hu : X.A.units + 64 < cLine) (hg : Gl X "sorted") (hm : X.mg "sorted" = none) (hg2 : Gl X "set") (hm2 : X.mg "set" = none) (ha : PE X a ta)
    (na : starEach [a] X.env = (false, eval a X.env) :: starEach [] X.env := by rfl) (h : X.K = K := by rfl) : PE X (.Call (.Name "sorted" p) [.Call (.Name "set" p2) [a] [] q] [] pos) (tSortSetR K ta) := by
  subst h
  refine ⟨fun pins s σ H Q I h => ?_⟩
  refine Call_ (ld_blt I hg hm PyProof.Rows.boot_sorted (callWith_builtin1 (args_cons (Call_ (ld_blt I hg2 hm2 PyProof.Rows.boot_set (callWith_type1 (args_cons (thn (ha.run pins s σ H _ I h) fun v s1 ⟨x, H1, I1, r1, q1⟩ => args_nil ?_) na) na rfl))) rfl) rfl rfl))
  obtain ⟨l, xs, rs, rfl, hs, hd, h3, k⟩ := q1
  cases r1
  obtain ⟨its, rv, pl, hz⟩ := I1.list hs
  obtain ⟨ks, rfl, rfl, hk⟩ := rows_at hd
  rw [List.length_map] at h3
  have isR : ∀ q ∈ ks, RIs s1.heap q.2 q.1 := fun q hq => nested_of I1 (rk q.2) (.ref q.1) (.ref q.1) (by rw [rk_data]; exact hk q hq) rfl
  refine set_rows (hf := fun r => (rk r).hash X.w) (fun _ => rfl) (I1.ok.hd hc) pl.isList (by simpa using vals_refs rv) isR h3 (by omega) fun h' tk L es ep t hK g kp => args_nil ?_
  have sub : ∀ q ∈ L, q ∈ ks := fun q hq => List.mem_of_mem_take (g.of q hq)
  have I2 : Inv X pins σ H1 { s1 with heap := h', toks := tk } := I1.kept kp
  refine SetK.sorted hK (fun q hq => ?_) (I2.ok.hd hc) (by omega) fun s2 p c L2 k2 eg eo hp he pm => ?_
  · obtain ⟨as, x⟩ := Dp.reads I2 _ _ _ (hk q (sub q hq)) rfl
    exact ⟨as, x⟩
  · have hn : H1 p = none := I2.hok.fresh hp
    have l2 : L2.length ≤ ks.length := by rw [pm.length_eq]; exact Nat.le_trans g.len (Nat.le_refl _)
    have sz : (L2.map fun q => V.ref q.1).length ≤ sizeLine := by rw [List.length_map, sizeLine_eq]; omega
    have J := I2.call (ch := []) (H' := upd H1 p (.lst (L2.map fun q => V.ref q.1))) (h' := s2.heap) (g' := s2.gens) (t' := s2.toks) (d' := s2.drawn) (Un.laid k2 hp hn) (I2.hok.laid k2 hp ⟨sz, _, c, refs_vals L2, he⟩) (by rw [eg]; exact I2.bare) (fun _ z => nomatch z)
    have e : s2 = { s1 with heap := s2.heap, gens := s2.gens, drawn := s2.drawn, toks := s2.toks } := by
      cases s2
      cases s1
      cases eo
      rfl
    rw [e]
    refine ⟨.ref p, _, J, rfl, k _ (L2.map (·.2)) p (dp_rows fun q hq => hk q (sub q (pm.mem_iff.mp hq))) (fun r => ?_) (by rw [List.length_map, List.length_map]; exact l2) hn⟩
    rw [(pm.map (·.2)).mem_iff]
    constructor
    · intro z
      obtain ⟨q, hq, e⟩ := List.mem_map.mp z
      exact List.mem_map.mpr ⟨q, sub q hq, e⟩
    · intro z
      obtain ⟨q, hq, e⟩ := List.mem_map.mp z
      rw [← e]
      exact g.has q (by rw [List.take_length]; exact hq)
end
end M22

set_option maxRecDepth 100000
set_option maxHeartbeats 4000000
namespace M22
open PySem PySem.Spec PyProof.Rows L2
section
variable {L n i : Nat} {S : Steps} {E st : List Nat} {g g' rp : Nat → Nat} {s t : Nat}
/-- a row of the parting -/
def rowP (S : Steps) (g : Nat → Nat) (s : Nat) : Row := (g s, (S.getD s []).map g)
theorem rowP_iff : rowP S g s = rowP S g t ↔ key S g s = key S g t := by
  unfold rowP key
  rw [Prod.mk.injEq, List.cons.injEq]
theorem idx_finer {rs : List Row} (h : ∀ r, r ∈ rs ↔ r ∈ st.map (rowP S g)) (e : ∀ s ∈ st, g' s = rs.idxOf (rowP S g s)) : Finer S st g g' := fun s hs t ht => by
  rw [← rowP_iff, e s hs, e t ht]
  have h1 := get_idxOfA ((h _).mpr (List.mem_map.mpr ⟨s, hs, rfl⟩))
  have h2 := get_idxOfA ((h _).mpr (List.mem_map.mpr ⟨t, ht, rfl⟩))
  constructor
  · intro q
    rw [q, h2] at h1
    exact (Option.some.inj h1).symm
  · intro q
    rw [q]
theorem Part.congr (p : Part L S E st g) (e : ∀ s ∈ st, g s = g' s) : Part L S E st g' :=
  ⟨fun s hs t ht h => by rw [← e s hs, ← e t ht]; exact p.no s hs t ht h, fun s hs t ht h => p.en s hs t ht (by rw [e s hs, e t ht]; exact h)⟩
theorem Quo.rowg (Z : Quo L S E st g rp) (hs : s ∈ st) : (S.getD s []).map g = quoN S g rp (g s) := by
  rw [Z.next hs, Z.led.whole.row_eq (Z.led.lt s hs), List.map_map]
  rfl
theorem heads_T (Z : Quo L S E st g rp) {hs : List Nat} (hin : ∀ h ∈ hs, h ∈ st) : quoT S g rp (hs.map g) = hs.map fun h => (S.getD h []).map fun x => (hs.map g).idxOf (g x) := by
  unfold quoT
  rw [List.map_map]
  refine List.map_congr_left fun h hh => ?_
  have two : ∀ r : List Nat, (r.map fun x => (hs.map g).idxOf (g x)) = (r.map g).map (hs.map g).idxOf := fun r => by rw [List.map_map]; rfl
  show (S.getD (rp (g h)) []).map (fun x => (hs.map g).idxOf (g x)) = _
  rw [two, two, Z.rowg (hin h hh)]
theorem heads_F (Z : Quo L S E st g rp) {hs : List Nat} (hin : ∀ h ∈ hs, h ∈ st) : quoF E rp (hs.map g) = (List.range hs.length).filter fun i => decide (hs.getD i 0 ∈ E) := by
  unfold quoF
  rw [List.length_map]
  refine List.filter_congr fun i hi => ?_
  obtain ⟨h, hh⟩ := get_some (List.mem_range.mp hi)
  rw [getD_of (l := hs.map g) (x := g h) (by rw [List.getElem?_map, hh]; rfl), getD_of hh]
  have hm := hin h (List.mem_of_getElem? hh)
  exact decide_eq_decide.mpr ((Z.alike _ (Z.rep_in h hm) _ hm).mp (Z.rep_eq h hm)).end_
theorem before_idx {α : Type} [BEq α] [LawfulBEq α] {x z : α} : ∀ {l : List α} {m : Nat}, m < l.idxOf x → l[m]? = some z → z ≠ x
  | [], m, _, h => by simp at h
  | y :: l, m, hm, h => by
    rw [List.idxOf_cons] at hm
    by_cases e : y = x
    · rw [e] at hm
      simp at hm
    · have e2 : (y == x) = false := beq_eq_false_iff_ne.mpr e
      rw [e2] at hm
      have hm : m < l.idxOf x + 1 := hm
      cases m with
      | zero => simp at h; rw [← h]; exact e
      | succ m => exact before_idx (l := l) (m := m) (by omega) (by simpa using h)
theorem eqV_num {a b : Nat} : eqV (vN a) (vN b) = decide (a = b) := by
  show decide ((a : Int) = (b : Int)) = _
  exact decide_eq_decide.mpr (by omega)
theorem int_in {j : Nat} : (if decide (j ∈ E) = true then (1 : Int) else 0) = ((if j ∈ E then 1 else 0 : Nat) : Int) := by
  by_cases q : j ∈ E
  · simp [q]
  · simp [q]
theorem ix_here {n j : Nat} (h : j < n) : ixN n (j : Int) = some j := by
  unfold ixN
  have h1 : (0 : Int) ≤ (j : Int) := by omega
  have h2 : (j : Int) < (n : Int) := by omega
  rw [if_pos h1, if_pos h2]
  rfl
theorem flat_rows (rs : List Row) : Flat 3 (.list (rs.map dR)) := flat_list (flat_map flat_row rs)
/-- the parting that a list tells -/
abbrev gb (bl : List Nat) : Nat → Nat := fun s => bl.getD s 0
theorem getD_set {l : List Nat} {i s v : Nat} (h : i < l.length) : (l.set i v).getD s 0 = if s = i then v else l.getD s 0 := by
  rw [List.getD_eq_getElem?_getD, List.getElem?_set, List.getD_eq_getElem?_getD]
  by_cases e : i = s
  · subst e
    rw [if_pos rfl, if_pos h, if_pos rfl]
    rfl
  · rw [if_neg e, if_neg fun z => e z.symm]
theorem bl_get {bl : List Nat} {s : Nat} (h : s < bl.length) : bl[s]? = some (gb bl s) := by
  obtain ⟨x, hx⟩ := get_some h
  show _ = some (bl.getD s 0)
  rw [getD_of hx]
  exact hx
end
section
variable {P : Program} {w : World} {K : PySem.W.Frag} {mg : Str → Option Value} {base : Heap} {CM CT : Addr}
abbrev s__law_least : Stmt := top 80
abbrev N__law_least : List Str := ["_law_steps", "_law_ends", "_law_order", "_law_at", "_law_late", "_law_state", "_law_block", "_law_turn", "_law_rows", "_law_some", "_law_fresh", "_law_row", "_law_heads", "_law_names", "_law_found", "_law_head", "_law_place"]
theorem sc__law_least : FnScope N__law_least ["_law_steps", "_law_ends"] (defScope s__law_least) := ⟨rfl, rfl, rfl, by decide +kernel, rfl, by decide +kernel, by decide +kernel⟩
theorem ok__law_least (T : Tx K mg CM CT) (D : DefAt K mg "_law_least" s__law_least)  : Cal P w K mg base 3 "_law_least" ["_law_steps", "_law_ends"] (spLLeast K) := by
  refine cal_of D sc__law_least (fun _ _ _ _ _ _ us hl => match us, hl with | [_, _], _ => rfl) (fun vs H Q E h => ?_) (fun f cdv A outer s H vs Q E hr h => ?_)
  · obtain ⟨_, _, _, _, _, _, rfl, _⟩ := h
    rfl
  have hu := hu_of hr
  obtain ⟨v, ve, N, L, S, E, rfl, hN, hv, hve, W, hL, hL2, hS, ndE, hE, k⟩ := h
  refine ⟨_, (pss_cons (ps_par (i := 2) (j := 3) rfl sc__law_least.nd rfl rfl (by decide) rfl rfl (pa_cons (pe_lst (pa_cons pe_int pa_nil)) (pa_cons pe_int pa_nil)) (by rfl))
  (pss_cons (ps_while PassesOwn.never (pt_cmpR op_lt (pv 3) (pe_callB (call_lenK K) (by rfl) T.len PySem.boot_len (pa_cons (pv 2) pa_nil)) (nomark _)) (pss_cons (ps_for PassesOwn.never rfl (pi_listK K (pe_ix (ix_listK K) (pv 0) (pe_ix (ix_listK K) (pv 2) (pv 3) (fun _ _ => rfl)) (fun _ _ => rfl))) (pg_name (i := 4) sc__law_least.nd rfl (Or.inl rfl)) (pss_one (ps_if (pt_cmpR (op_notInK K) (pv 4) (pv 2) (by rfl)) (pss_one (ps_expr (pe_bmK K PySem.F.plainAttrs_list PySem.F.slot_list_append PySem.F.type_list_append mt_append (pv 2) (pa_cons (pv 4) pa_nil)))) pss_nil)))
    (pss_one (ps_set (i := 3) sc__law_least.nd rfl (Or.inl rfl) (pe_op op_add (pv 3) pe_int)))))
  (pss_cons (ps_set (i := 6) sc__law_least.nd rfl (Or.inr rfl) (pe_lc (own := [("_law_state", 5)]) (tt := tYes) rfl sc__law_least.nd (pi_range1 rfl T.range (pa_cons (pe_callB (call_lenK K) (by rfl) T.len PySem.boot_len (pa_cons (pv 0) pa_nil)) pa_nil)) (blkOk_by (N := N__law_least) (sc := (defScope s__law_least)) (by decide +kernel)) (fun _ _ _ _ _ => (pg_name (i := 5) sc__law_least.nd rfl (Or.inl rfl))) (fun _ _ _ _ _ => pts_nil) (fun _ _ _ _ _ => (pe_callTy call_int1 (by rfl) T.int (by decide +kernel) (pa_cons (pe_cmpR (op_inK K) (pv 5) (pv 1) (by rfl)) pa_nil)))))
  (pss_cons (ps_for PassesOwn.never rfl (pi_range1 rfl T.range (pa_cons (pe_callB (call_lenK K) (by rfl) T.len PySem.boot_len (pa_cons (pv 2) pa_nil)) pa_nil)) (pg_name (i := 7) sc__law_least.nd rfl (Or.inl rfl)) (pss_cons (ps_setLc (i := 8) (own := [("_law_state", 5)]) (tt := tYes) rfl sc__law_least.nd rfl rfl (sw_true rfl rfl rfl (by decide +kernel)) (pi_listK K (pv 2)) (blkOk_by (N := N__law_least) (sc := (defScope s__law_least)) (by decide +kernel)) (fun _ _ _ _ _ => (pg_name (i := 5) sc__law_least.nd rfl (Or.inl rfl))) (fun _ _ _ _ _ => pts_nil) (fun _ _ _ _ _ => (pe_tup (pa_cons (pe_ix (ix_listK K) (pv 6) (pv 5) (fun _ _ => rfl)) (pa_cons (pe_callTy (call_tupK K) (by rfl) T.tuple (by decide +kernel) (pa_cons (pe_lc (own := [("_law_late", 4)]) (tt := tYes) rfl sc__law_least.nd (pi_listK K (pe_ix (ix_listK K) (pv 0) (pv 5) (fun _ _ => rfl))) (blkOk_by (N := N__law_least) (sc := (relS _ (defScope s__law_least))) (by decide +kernel)) (fun _ _ _ _ _ => (pg_name (i := 4) sc__law_least.nd rfl (Or.inl rfl))) (fun _ _ _ _ _ => pts_nil) (fun _ _ _ _ _ => (pe_ix (ix_listK K) (pv 6) (pv 4) (fun _ _ => rfl)))) pa_nil)) pa_nil)))))
    (pss_cons (ps_set (i := 9) sc__law_least.nd rfl (Or.inl rfl) (pe_sortSetR K rfl (hu_64 hr) (by rfl) T.sorted (by rfl) T.set (pv 8)))
    (pss_cons (ps_set (i := 10) sc__law_least.nd rfl (Or.inl rfl) (pe_callTy (call_lstK K) (by rfl) T.list (by decide +kernel) (pa_cons (pv 6) pa_nil)))
    (pss_cons (ps_for PassesOwn.never rfl (pi_zipAK K (by rfl) T.zip (pa_cons (pv 2) (pa_cons (pv 8) pa_nil))) (pg_tupK K (n := 2) rfl (pgs_cons (pg_name (i := 5) sc__law_least.nd rfl (Or.inl rfl)) (pgs_cons (pg_name (i := 11) sc__law_least.nd rfl (Or.inl rfl)) pgs_nil))) (pss_one (ps_asg (pe_bmK K PySem.F.plainAttrs_list PySem.F.slot_list_index PySem.F.type_list_index (mt_indexDK K (hu_65 hr)) (pv 9) (pa_cons (pv 11) pa_nil)) (pg_sub (pv 10) (pv 5) set_list))))
    (pss_one (ps_set (i := 6) sc__law_least.nd rfl (Or.inr rfl) (pv 10))))))))
  (pss_cons (ps_asg (pe_tup (pa_cons (pe_lst (pa_cons pe_int pa_nil)) (pa_cons (pe_lst (pa_cons (pe_ix (ix_listK K) (pv 6) pe_int (fun _ _ => rfl)) pa_nil)) (pa_cons pe_int pa_nil)))) (pg_tupK K (n := 3) rfl (pgs_cons (pg_name (i := 12) sc__law_least.nd rfl (Or.inl rfl)) (pgs_cons (pg_name (i := 13) sc__law_least.nd rfl (Or.inr rfl)) (pgs_cons (pg_name (i := 3) sc__law_least.nd rfl (Or.inl rfl)) pgs_nil)))))
  (pss_cons (ps_while PassesOwn.never (pt_cmpR op_lt (pv 3) (pe_callB (call_lenK K) (by rfl) T.len PySem.boot_len (pa_cons (pv 12) pa_nil)) (nomark _)) (pss_cons (ps_for PassesOwn.never rfl (pi_listK K (pe_ix (ix_listK K) (pv 0) (pe_ix (ix_listK K) (pv 12) (pv 3) (fun _ _ => rfl)) (fun _ _ => rfl))) (pg_name (i := 4) sc__law_least.nd rfl (Or.inl rfl)) (pss_one (ps_if (pt_cmpR (op_notInK K) (pe_ix (ix_listK K) (pv 6) (pv 4) (fun _ _ => rfl)) (pv 13) (by rfl)) (pss_cons (ps_expr (pe_bmK K PySem.F.plainAttrs_list PySem.F.slot_list_append PySem.F.type_list_append mt_append (pv 13) (pa_cons (pe_ix (ix_listK K) (pv 6) (pv 4) (fun _ _ => rfl)) pa_nil)))
        (pss_one (ps_expr (pe_bmK K PySem.F.plainAttrs_list PySem.F.slot_list_append PySem.F.type_list_append mt_append (pv 12) (pa_cons (pv 4) pa_nil))))) pss_nil)))
    (pss_one (ps_set (i := 3) sc__law_least.nd rfl (Or.inl rfl) (pe_op op_add (pv 3) pe_int)))))
  (pss_cons (ps_setLc (i := 14) (own := [("_law_head", 15)]) (tt := tYes) rfl sc__law_least.nd rfl rfl (sw_true rfl rfl rfl (by decide +kernel)) (pi_listK K (pv 12)) (blkOk_by (N := N__law_least) (sc := (defScope s__law_least)) (by decide +kernel)) (fun _ _ _ _ _ => (pg_name (i := 15) sc__law_least.nd rfl (Or.inl rfl))) (fun _ _ _ _ _ => pts_nil) (fun _ _ _ _ _ => (pe_lc (own := [("_law_late", 4)]) (tt := tYes) rfl sc__law_least.nd (pi_listK K (pe_ix (ix_listK K) (pv 0) (pv 15) (fun _ _ => rfl))) (blkOk_by (N := N__law_least) (sc := (relS _ (defScope s__law_least))) (by decide +kernel)) (fun _ _ _ _ _ => (pg_name (i := 4) sc__law_least.nd rfl (Or.inl rfl))) (fun _ _ _ _ _ => pts_nil) (fun _ _ _ _ _ => (pe_bmK K PySem.F.plainAttrs_list PySem.F.slot_list_index PySem.F.type_list_index (mt_indexK K) (pv 13) (pa_cons (pe_ix (ix_listK K) (pv 6) (pv 4) (fun _ _ => rfl)) pa_nil))))))
  (pss_one (ps_ret (pe_tup (pa_cons (pv 14) (pa_cons (pe_lc (own := [("_law_place", 16), ("_law_head", 15)]) rfl sc__law_least.nd (pi_enumK K (by rfl) T.enumerate (pa_cons (pv 12) pa_nil)) (blkOk_by (N := N__law_least) (sc := (defScope s__law_least)) (by decide +kernel)) (fun _ _ _ _ _ => (pg_tupK K (n := 2) rfl (pgs_cons (pg_name (i := 16) sc__law_least.nd rfl (Or.inl rfl)) (pgs_cons (pg_name (i := 15) sc__law_least.nd rfl (Or.inl rfl)) pgs_nil)))) (fun _ _ _ _ _ => (pts_one (pt_cmpR (op_inK K) (pv 15) (pv 1) (by rfl)))) (fun _ _ _ _ _ => (pv 16))) pa_nil)))))))))))), ?_⟩
  obtain ⟨ae, rfl, qe⟩ := l_of hve
  obtain ⟨av, vxs, rfl, qv, dv⟩ := list_of hv
  have lv : vxs.length = S.length := by rw [dv.length, List.length_map]
  have rowof : ∀ s, s < S.length → ∃ c r, atI vxs (s : Int) = some (.ref c) ∧ SqL K H c (r.map vN) ∧ r.length = L ∧ (∀ x ∈ r, x < S.length) ∧ S.getD s [] = r := fun s hs => by
    obtain ⟨r, hr1, hr2, hr3⟩ := W.at hs
    obtain ⟨u, hu, du⟩ := dv.get (i := s) (d := dL r) (by rw [List.getElem?_map, hr1]; rfl)
    obtain ⟨c, rfl, hc⟩ := l_of du
    exact ⟨c, r, atI_nat hu, hc, hr2, hr3, getD_of hr1⟩
  -- order, at = [0], 0
  refine ⟨line_le (Nat.le_of_ble_eq_true rfl), fun po hpo => ⟨_, _, rfl, ?_⟩⟩
  -- while at < len(order)
  refine ⟨fun m σ H6 => ∃ (ord : List Nat) (n : Nat) (x4 : Option V), σ = [some (.ref av), some (.ref ae), some (.ref po), some (vN n), x4, none, none, none, none, none, none, none, none, none, none, none, none] ∧ m = S.length - n ∧ Same H H6 ∧ H6 po = some (.lst (ord.map vN)) ∧ Bfs (row S) 0 ord n, ⟨_, [0], 0, none, rfl, rfl, same_new hpo, upd_same, .start⟩, ?_⟩
  rintro m σ H6 ⟨ord, n, x4, rfl, rfl, s6, h6, b⟩
  refine ⟨_, rfl, _, rfl, po, _, rfl, .inl (SqL.of h6), _, _, rfl, rfl, _, rfl, ?_⟩
  rw [List.length_map]
  have hlt : ∀ s ∈ ord, s < S.length := b.ind W.pos fun x y hx hy => by
    obtain ⟨l, hl, rfl⟩ := (W.mem_row hx).mp hy
    exact W.nx hx hl
  have hordl : ord.length ≤ S.length := nodup_bound b.nodup hlt
  by_cases hn : n < ord.length
  · refine ifT (decide_eq_true (by omega)) ⟨_, fun _ _ z => z, ?_⟩
    obtain ⟨c, hc⟩ := get_some hn
    obtain ⟨cc, r, q2, q3, hr2, hr3, er⟩ := rowof c (hlt c (List.mem_of_getElem? hc))
    refine ⟨_, rfl, _, rfl, _, rfl, po, _, _, _, rfl, rfl, SqL.of h6, at_num hc, av, vxs, _, _, rfl, rfl, s6.seq qv, q2, cc, rfl, ⟨_, s6.seq q3⟩,
      for_list (K := K) (a := cc) (xs := r.map vN) (fun i σ H7 => ∃ x4, σ = [some (.ref av), some (.ref ae), some (.ref po), some (vN n), x4, none, none, none, none, none, none, none, none, none, none, none, none] ∧ Same H H7 ∧ H7 po = some (.lst ((addAll ord (r.take i)).map vN))) ⟨x4, rfl, s6, by rw [h6]; rfl⟩ (fun i σ H2 _ ⟨_, _, q, _⟩ => q.seq q3) ?_ ?_⟩
    · rintro i y σ H7 hi ⟨x4, rfl, s7, h7⟩
      obtain ⟨t, ht, rfl⟩ := get_vN hi
      have el : (addAll ord (r.take i)).length < sizeLine := line_lt (by
        have := nodup_bound (n := S.length) (addAll_nodup (xs := r.take i) b.nodup) fun z hz => by
          rcases mem_addAll.mp hz with hz | hz
          · exact hlt z hz
          · exact hr3 z (List.mem_of_mem_take hz)
        omega)
      refine ⟨_, rfl, _, rfl, po, _, rfl, .inl (SqL.of h7), rfl, flat_nums _, _, rfl, ?_⟩
      rw [inV_num]
      by_cases hm : t ∈ addAll ord (r.take i)
      · refine ifF (by rw [decide_eq_true hm]; rfl) ⟨_, rfl, s7, ?_⟩
        rw [h7, take_snoc ht, addAll_snoc, if_pos hm]
      · refine ifT (by rw [decide_eq_false hm]; rfl) ⟨_, rfl, .inl ⟨rfl, _, SqL.of h7⟩, _, rfl, po, _, _, rfl, rfl, h7, by rw [List.length_map]; exact el, _, rfl, s7.put hpo, ?_⟩
        rw [upd_same, take_snoc ht, addAll_snoc, if_neg hm, List.map_append]
        rfl
    · rintro σ H7 ⟨x4, rfl, s7, h7⟩
      rw [List.length_map, List.take_length] at h7
      refine ⟨_, rfl, _, _, rfl, rfl, S.length - (n + 1), by omega, addAll ord r, n + 1, x4, rfl, rfl, s7, h7, ?_⟩
      have := b.turn hc
      show Bfs (row S) 0 (addAll ord r) (n + 1)
      rw [← er]
      exact this
  refine ifF (decide_eq_false (by omega)) ?_
  have led : Led L S ord := bfs_led W b (by omega)
  have nd := b.nodup
  have b0 := b.mem
  -- block = [int(state in ends) for state in range(len(steps))]
  refine ⟨_, rfl, av, _, rfl, .inl (s6.seq qv), ((vxs.length : Nat) : Int), rfl, by omega, by omega, fun ab hab => lc_d (K := K) (walk_range (lo := 0) (n := ((vxs.length : Nat) : Int).toNat)) (fun j => ((List.range S.length).take j).map fun s => dN (if s ∈ E then 1 else 0)) hab rfl (fun _ _ => True.intro) (fun j x Hc Hd hj pc y => ?_) fun acc Hc g1 g2 g3 => ?_⟩
  · obtain ⟨rfl, ex⟩ := y
    have ex : x = vN j := ex.trans item_nat
    subst ex
    refine ⟨rfl, _, rfl, _, rfl, ae, _, rfl, .inl ((Same.trans s6 pc.same).seq qe), rfl, flat_nums _, .inr ⟨_, rfl, ?_⟩⟩
    rw [inV_num]
    refine pc.put0 (d := dN (if j ∈ E then 1 else 0)) (line_lt (by omega)) ?_ (take_map _ (List.range S.length) (range_get (by omega)))
    show Dp K _ (.int (if decide (j ∈ E) = true then 1 else 0)) _
    rw [int_in]
    exact .int _
  have hlen : (List.range S.length).take ((vxs.length : Nat) : Int).toNat = List.range S.length := List.take_of_length_le (by rw [List.length_range]; omega)
  rw [hlen] at g3
  obtain ⟨bl0, hbl0⟩ : ∃ bl0, bl0 = (List.range S.length).map fun s => if s ∈ E then 1 else 0 := ⟨_, rfl⟩
  have eacc : acc = bl0.map vN := nums_of (by rw [hbl0, List.map_map]; exact g3)
  subst eacc
  have lb0 : bl0.length = S.length := by rw [hbl0, List.length_map, List.length_range]
  have hg0 : ∀ s ∈ ord, (fun s => if s ∈ E then 1 else 0 : Nat → Nat) s = gb bl0 s := fun s hs => by
    show _ = bl0.getD s 0
    rw [hbl0, getD_of (x := if s ∈ E then 1 else 0) (by rw [List.getElem?_map, List.getElem?_range (hlt s hs)]; rfl)]
  have hP0 : Part L S E ord (gb bl0) := (Part.first led).congr hg0
  have s6c : Same H6 Hc := Same.trans g2 (wo_same _ _)
  have hne : ord ≠ [] := fun z => by rw [z] at b0; exact absurd b0 List.not_mem_nil
  -- for turn in range(len(order))
  refine ⟨_, rfl, po, _, rfl, .inl (SqL.of (s6c _ _ h6)), (((ord.map vN).length : Nat) : Int), rfl, by rw [List.length_map]; omega, by rw [List.length_map]; omega, for_it (walk_range (lo := 0) (n := (((ord.map vN).length : Nat) : Int).toNat)) (fun i σ Hx => ∃ (ab : Addr) (bl : List Nat) (x4 x5 x7 x8 x9 x10 x11 : Option V), σ = [some (.ref av), some (.ref ae), some (.ref po), some (vN n), x4, x5, some (.ref ab), x7, x8, x9, x10, x11, none, none, none, none, none] ∧ Same H Hx ∧ H ab = none ∧ Hx ab = some (.lst (bl.map vN)) ∧ bl.length = S.length ∧ Hx po = some (.lst (ord.map vN)) ∧ Part L S E ord (gb bl) ∧ (Stable L S ord (gb bl) ∨ i + 1 ≤ cnt (gb bl) ord))
    ⟨ab, bl0, x4, none, none, none, none, none, none, rfl, Same.trans s6 s6c, Same.free s6 hab, g1, lb0, s6c _ _ h6, hP0, .inr (cnt_pos _ hne)⟩ (fun _ _ _ _ _ => True.intro) ?_ ?_⟩
  · clear hP0 hg0 hbl0 lb0 g1 g2 g3 s6c hab hlen h6 s6 b x4
    rintro i x σ Hq H1 hi ⟨ab, bl, x4, x5, x7, x8, x9, x10, x11, rfl, s1, nab, h1b, lb, h1o, hP, hst⟩ ⟨rfl, ex⟩
    generalize hg : gb bl = g at hP hst
    have atb : ∀ s, s < S.length → (bl.map vN)[s]? = some (vN (g s)) := fun s hs => by
      rw [List.getElem?_map, bl_get (by omega), ← hg]
      rfl
    -- rows = [..]
    refine ⟨_, rfl, po, rfl, ⟨_, SqL.of h1o⟩, fun R hR => lc_d (K := K) walk_list (fun i => (ord.take i).map fun s => dR (rowP S g s)) hR rfl (fun H' sm => SqL.of (sm _ _ h1o)) (fun i x Ha Hb hi p y => ?_) fun acc Hd h1d h2d h3d => ?_⟩
    · obtain ⟨rfl, hx⟩ := y
      obtain ⟨s, hs, rfl⟩ := get_vN hx
      have hsS := hlt s (List.mem_of_getElem? hs)
      obtain ⟨cc, r, q2, q3, hr2, hr3, er⟩ := rowof s hsS
      have s0a := Same.trans s1 p.same
      refine ⟨rfl, _, rfl, _, rfl, ab, _, _, _, rfl, rfl, SqL.of (p.same _ _ h1b), atI_nat (atb s hsS), _, rfl, _, rfl, av, vxs, _, _, rfl, rfl, s0a.seq qv, q2, cc, rfl, ⟨_, s0a.seq q3⟩, fun D2 hD2 => lc_d (K := K) walk_list (fun j => (r.take j).map fun x => dN (g x)) hD2 rfl (fun H' sm => Same.seq (Same.trans s0a sm) q3) (fun j x Hc Hd hj p2 y => ?_) fun acc Hc h1 h2 h3 => ?_⟩
      · obtain ⟨rfl, hx⟩ := y
        obtain ⟨t, ht, rfl⟩ := get_vN hx
        refine ⟨rfl, _, rfl, _, rfl, ab, _, _, _, rfl, rfl, SqL.of (p2.same _ _ (p.same _ _ h1b)), atI_nat (atb t (hr3 t (List.mem_of_getElem? ht))), ?_⟩
        exact p2.put0 (line_lt (by have := lt_of_get ht; omega)) (.int _) (take_map _ r ht)
      · have eacc : acc = (r.map g).map vN := nums_of (by
          rw [List.length_map, List.take_length] at h3
          rw [List.map_map]
          exact h3)
        subst eacc
        have sac : Same Hb Hc := Same.trans h2 (wo_same _ _)
        refine ⟨D2, _, rfl, .inl ⟨SqL.of h1, fun tt htt => ⟨line_le (Nat.le_of_ble_eq_true rfl), fun tp htp => ?_⟩⟩⟩
        obtain ⟨u, hu⟩ := Option.ne_none_iff_exists'.mp p.some
        have hcR : Hc R = some u := sac _ _ hu
        have n1 : tt ≠ R := fun z => by rw [z, hcR] at htt; cases htt
        have s2 : Same Hc (upd Hc tt (.tup ((r.map g).map vN))) := same_new htt
        have n2 : tp ≠ R := fun z => by rw [z, s2 _ _ hcR] at htp; cases htp
        have s3 := same_new (o := .tup [vN (g s), .ref tt]) htp
        refine p.put (d := dR (rowP S g s)) (line_lt (by have := lt_of_get hs; omega)) ((s3 _ _ (s2 _ _ hcR)).trans hu.symm) (wo_mono (Same.trans sac (Same.trans s2 s3))) ?_ (take_map _ ord hs)
        have out : ∀ b o, b ≠ R → (upd (upd Hc tt (.tup ((r.map g).map vN))) tp (.tup [vN (g s), .ref tt])) b = some o → Wo [R] (upd (upd Hc tt (.tup ((r.map g).map vN))) tp (.tup [vN (g s), .ref tt])) b = some o := fun b o n e => by
          rw [wo_out fun z => n (List.mem_singleton.mp z)]; exact e
        show Dp K _ _ (.tuple [dN (g s), dT ((S.getD s []).map g)])
        rw [er]
        exact .tup (SqT.of (out _ _ n2 upd_same)) (.cons (.int _) (.cons (dp_t (SqT.of (out _ _ n1 (s3 _ _ upd_same)))) .nil))
    rw [List.length_map, List.take_length] at h3d
    have s1d : Same H1 Hd := Same.trans h2d (wo_same _ _)
    obtain ⟨rs, hrs⟩ : ∃ rs, rs = ord.map (rowP S g) := ⟨_, rfl⟩
    have dacc : DpAll K Hd acc (rs.map dR) := dpAll_mono (wo_same _ _) (by rw [hrs, List.map_map]; exact h3d)
    have lrs : rs.length = ord.length := by rw [hrs, List.length_map]
    have lacc : acc.length = ord.length := by rw [dacc.length, List.length_map, lrs]
    -- some = sorted(set(rows))
    refine ⟨_, rfl, R, acc, rs, rfl, SqL.of h1d, dacc, by omega, fun ys rs2 sp dys mem lrs2 hsp => ?_⟩
    have s2 : Same Hd (upd Hd sp (.lst ys)) := same_new hsp
    have h2s : (upd Hd sp (.lst ys)) sp = some (.lst ys) := upd_same
    generalize upd Hd sp (.lst ys) = H2 at s2 h2s ⊢
    have s12 := Same.trans s1d s2
    -- fresh = list(block)
    refine ⟨_, rfl, ab, _, rfl, .inl (SqL.of (s12 _ _ h1b)), fun fr hfr => ?_⟩
    have dys2 := dpAll_mono s2 dys
    have dacc2 := dpAll_mono s2 dacc
    -- for state, row in zip(order, rows)
    refine ⟨_, rfl, _, rfl, po, R, _, _, rfl, .inl ⟨SqL.of (same_new hfr _ _ (s12 _ _ h1o)), SqL.of (same_new hfr _ _ (s2 _ _ h1d)), for_it (walk_zip (K := K) (a := po) (b := R) (xs := ord.map vN) (ys := acc) (n := ord.length) (by rw [List.length_map, lacc]; omega)) (fun i σ Hx => ∃ (x5 x11 : Option V) (fl : List Nat), σ = [some (.ref av), some (.ref ae), some (.ref po), some (vN n), x4, x5, some (.ref ab), some x, some (.ref R), some (.ref sp), some (.ref fr), x11, none, none, none, none, none] ∧ Same H2 Hx ∧ Hx fr = some (.lst (fl.map vN)) ∧ fl.length = S.length ∧ ∀ j s, j < i → ord[j]? = some s → fl.getD s 0 = rs2.idxOf (rowP S g s))
      ⟨x5, x11, bl, rfl, same_new hfr, upd_same, lb, fun j s h => absurd h (Nat.not_lt_zero _)⟩ (fun i σ Hx _ ⟨_, _, _, _, q, _⟩ => ⟨SqL.of (q _ _ (s12 _ _ h1o)), SqL.of (q _ _ (s2 _ _ h1d))⟩) ?_ ?_⟩⟩
    · rintro i z σ Ha Hb hi ⟨x5, x11, fl, rfl, sa, ha, la, pa⟩ ⟨T9, u1, u2, rfl, hT9, rfl, e1, e2⟩
      obtain ⟨s, hs, rfl⟩ := get_vN e1
      have hsm := List.mem_of_getElem? hs
      have hsS := hlt s hsm
      obtain ⟨d0, hd0, du⟩ := dacc2.get' e2
      rw [hrs, List.map_map, List.getElem?_map, hs] at hd0
      cases hd0
      have sb : Same Ha (upd Ha T9 (.tup [vN s, u2])) := same_new hT9
      have s2b := Same.trans sa sb
      have hin : rowP S g s ∈ rs2 := (mem _).mpr (by rw [hrs]; exact List.mem_map.mpr ⟨s, hsm, rfl⟩)
      refine ⟨T9, _, rfl, SqT.of upd_same, rfl, _, _, rfl, _, _, rfl, rfl, _, rfl, .inl ⟨rfl, _, SqL.of (s2b _ _ h2s)⟩, _, rfl, sp, u2, dR (rowP S g s), rs2.map dR, rs2.idxOf (rowP S g s), dR (rowP S g s), rfl, rfl, .lst (SqL.of (s2b _ _ h2s)) (dpAll_mono s2b dys2), dp_mono s2b du, (flat_rows _).shaped (by decide), (flat_row _).shaped (by decide), ?_, (eq_row _ _).mpr rfl, fun m z hm hz => ?_, _, rfl, _, rfl, fr, _, _, s, rfl, rfl, sb _ _ ha, ix_here (by rw [List.length_map]; omega), _, _, fl.set s (rs2.idxOf (rowP S g s)), rfl, s2b.put hfr, ?_, by rw [List.length_set, la], fun j s' hj hs' => ?_⟩
      · rw [List.getElem?_map, get_idxOfA hin]
        rfl
      · rw [List.getElem?_map] at hz
        obtain ⟨r', hr', rfl⟩ := Option.map_eq_some_iff.mp hz
        rw [eqv_dec eq_row]
        exact decide_eq_false (before_idx hm hr')
      · rw [upd_same, List.map_set]
      · rw [getD_set (by omega)]
        by_cases q : s' = s
        · rw [if_pos q, q]
        · rw [if_neg q]
          refine pa j s' ?_ hs'
          have : j ≠ i := fun z => by rw [z, hs] at hs'; cases hs'; exact q rfl
          omega
    · rintro σ H3 ⟨x5, x11, fl, rfl, s3, h3f, lf, pf⟩
      have fin : Finer S ord g (gb fl) := idx_finer (by rw [← hrs]; exact mem) fun s hs => by
        obtain ⟨j, hj⟩ := List.getElem?_of_mem hs
        exact pf j s (lt_of_get hj) hj
      have s13 := Same.trans s12 s3
      exact ⟨_, rfl, fr, fl, x4, x5, some x, some (.ref R), some (.ref sp), some (.ref fr), x11, rfl, Same.trans s1 s13, Same.free (Same.trans s1 s12) hfr, h3f, lf, s13 _ _ h1o, hP.finer led fin, fin.more led hst⟩
  clear hP0 hg0 hbl0 lb0 g1 g2 g3 s6c hab hlen h6 s6
  rintro σ H1 ⟨ab, bl, y4, x5, x7, x8, x9, x10, x11, rfl, s1, nab, h1b, lb, h1o, hP, hst⟩
  obtain ⟨g, hg⟩ : ∃ g, g = gb bl := ⟨_, rfl⟩
  rw [← hg] at hP hst
  have stab : Stable L S ord g := hst.resolve_right (by have := cnt_le_len g ord; rw [List.length_map]; omega)
  have al := hP.alike led stab
  have Z : Quo L S E ord g (rep ord g) := quo_of led b0 al
  have atb : ∀ s, s < S.length → (bl.map vN)[s]? = some (vN (g s)) := fun s hs => by
    rw [List.getElem?_map, bl_get (by omega), hg]
    rfl
  have lord : ord.length ≤ S.length := hordl
  clear hg hst stab hP
  -- heads, names, at = [0], [block[0]], 0
  refine ⟨line_le (Nat.le_of_ble_eq_true rfl), fun hd hhd => ⟨_, rfl, ab, _, _, _, rfl, rfl, SqL.of (same_new hhd _ _ h1b), atI_nat (j := 0) (atb 0 W.pos), line_le (Nat.le_of_ble_eq_true rfl), fun nm hnm => ⟨line_le (Nat.le_of_ble_eq_true rfl), fun t3 ht3 => ⟨t3, _, rfl, SqT.of upd_same, rfl, _, _, rfl, _, _, rfl, _, _, rfl, rfl, ?_⟩⟩⟩⟩
  have nhn : nm ≠ hd := fun z => by rw [z, upd_same] at hnm; cases hnm
  have hnm1 : H1 nm = none := Same.free (same_new hhd) hnm
  have s12 : Same H1 (upd (upd (upd H1 hd (.lst [V.int 0])) nm (.lst [vN (g 0)])) t3 (.tup [.ref hd, .ref nm, .int 0])) := Same.trans (same_new hhd) (Same.trans (same_new hnm) (same_new ht3))
  have h2d : (upd (upd (upd H1 hd (.lst [V.int 0])) nm (.lst [vN (g 0)])) t3 (.tup [.ref hd, .ref nm, .int 0])) hd = some (.lst ([0].map vN)) := same_new ht3 _ _ ((upd_ne fun z => nhn z.symm).trans upd_same)
  have h2n : (upd (upd (upd H1 hd (.lst [V.int 0])) nm (.lst [vN (g 0)])) t3 (.tup [.ref hd, .ref nm, .int 0])) nm = some (.lst (([0].map g).map vN)) := same_new ht3 _ _ upd_same
  generalize upd (upd (upd H1 hd (.lst [V.int 0])) nm (.lst [vN (g 0)])) t3 (.tup [.ref hd, .ref nm, .int 0]) = H2 at s12 h2d h2n ⊢
  -- while at < len(heads)
  refine ⟨fun m σ H6 => ∃ (hs : List Nat) (n2 : Nat) (x4 : Option V), σ = [some (.ref av), some (.ref ae), some (.ref po), some (vN n2), x4, x5, some (.ref ab), x7, x8, x9, x10, x11, some (.ref hd), some (.ref nm), none, none, none] ∧ m = S.length - n2 ∧ Same H1 H6 ∧ H6 hd = some (.lst (hs.map vN)) ∧ H6 nm = some (.lst ((hs.map g).map vN)) ∧ (∀ h ∈ hs, h ∈ ord) ∧ Bfs (quoN S g (rep ord g)) (g 0) (hs.map g) n2,
    ⟨_, [0], 0, y4, rfl, rfl, s12, h2d, h2n, (fun h hh => by rw [List.mem_singleton.mp hh]; exact b0), .start⟩, ?_⟩
  clear s12 h2d h2n ht3 y4
  rintro m σ H6 ⟨hs, n2, y4, rfl, rfl, s16, h6d, h6n, hin, b2⟩
  refine ⟨_, rfl, _, rfl, hd, _, rfl, .inl (SqL.of h6d), _, _, rfl, rfl, _, rfl, ?_⟩
  rw [List.length_map]
  have lhs : hs.length ≤ ord.length := by have := Z.len b2; rw [List.length_map] at this; exact this
  by_cases hn2 : n2 < hs.length
  · refine ifT (decide_eq_true (by omega)) ⟨_, fun _ _ z => z, ?_⟩
    obtain ⟨c, hc⟩ := get_some hn2
    have hco := hin c (List.mem_of_getElem? hc)
    obtain ⟨cc, r, q2, q3, hr2, hr3, er⟩ := rowof c (hlt c hco)
    have hro : ∀ x ∈ r, x ∈ ord := fun x hx => by
      obtain ⟨l, hl, rfl⟩ := (W.mem_row (hlt c hco)).mp (by rw [er]; exact hx)
      exact led.cl c hco l hl
    have s06 := Same.trans s1 s16
    refine ⟨_, rfl, _, rfl, _, rfl, hd, _, _, _, rfl, rfl, SqL.of h6d, at_num hc, av, vxs, _, _, rfl, rfl, s06.seq qv, q2, cc, rfl, ⟨_, s06.seq q3⟩,
      for_list (K := K) (a := cc) (xs := r.map vN) (fun i σ H7 => ∃ (x4 : Option V) (hs2 : List Nat), σ = [some (.ref av), some (.ref ae), some (.ref po), some (vN n2), x4, x5, some (.ref ab), x7, x8, x9, x10, x11, some (.ref hd), some (.ref nm), none, none, none] ∧ Same H1 H7 ∧ H7 hd = some (.lst (hs2.map vN)) ∧ H7 nm = some (.lst ((hs2.map g).map vN)) ∧ (∀ h ∈ hs2, h ∈ ord) ∧ hs2.length ≤ hs.length + i ∧ hs2.map g = addAll (hs.map g) ((r.take i).map g)) ⟨y4, hs, rfl, s16, h6d, h6n, hin, Nat.le_refl _, rfl⟩ (fun i σ H2 _ ⟨_, _, _, q, _⟩ => (Same.trans s1 q).seq q3) ?_ ?_⟩
    · rintro i y σ H7 hi ⟨x4, hs2, rfl, s7, h7d, h7n, hin2, l2, e7⟩
      obtain ⟨t, ht, rfl⟩ := get_vN hi
      have htm := List.mem_of_getElem? ht
      have hil := lt_of_get ht
      refine ⟨_, rfl, _, rfl, ab, _, _, _, rfl, rfl, SqL.of (s7 _ _ h1b), atI_nat (atb t (hr3 t htm)), _, rfl, nm, _, rfl, .inl (SqL.of h7n), rfl, flat_nums _, _, rfl, ?_⟩
      rw [inV_num]
      by_cases hm : g t ∈ hs2.map g
      · refine ifF (by rw [decide_eq_true hm]; rfl) ⟨_, hs2, rfl, s7, h7d, h7n, hin2, by omega, ?_⟩
        rw [take_snoc ht, List.map_append]
        show _ = addAll (hs.map g) ((r.take i).map g ++ [g t])
        rw [addAll_snoc, ← e7, if_pos hm]
      · refine ifT (by rw [decide_eq_false hm]; rfl) ⟨_, rfl, .inl ⟨rfl, _, SqL.of h7n⟩, _, rfl, _, rfl, ab, _, _, _, rfl, rfl, SqL.of (s7 _ _ h1b), atI_nat (atb t (hr3 t htm)), nm, _, _, rfl, rfl, h7n, line_lt (by rw [List.length_map, List.length_map]; omega), _, rfl, .inl ⟨rfl, _, SqL.of ((upd_ne fun z => nhn z.symm).trans h7d)⟩, _, rfl, hd, _, _, rfl, rfl, (upd_ne fun z => nhn z.symm).trans h7d, line_lt (by rw [List.length_map]; omega), _, hs2 ++ [t], rfl, (s7.put hnm1).put hhd, ?_, ?_, ?_, by rw [List.length_append]; show _ + 1 ≤ _; omega, ?_⟩
        · rw [upd_same, List.map_append]; rfl
        · rw [upd_ne nhn, upd_same, List.map_append, List.map_append]; rfl
        · intro h hh
          rcases List.mem_append.mp hh with z | z
          · exact hin2 h z
          · rw [List.mem_singleton.mp z]; exact hro t htm
        · rw [take_snoc ht, List.map_append, List.map_append]
          show _ = addAll (hs.map g) ((r.take i).map g ++ [g t])
          rw [addAll_snoc, ← e7, if_neg hm]
          rfl
    · rintro σ H7 ⟨x4, hs2, rfl, s7, h7d, h7n, hin2, l2, e7⟩
      rw [List.length_map, List.take_length] at e7
      refine ⟨_, rfl, _, _, rfl, rfl, S.length - (n2 + 1), by omega, hs2, n2 + 1, x4, rfl, rfl, s7, h7d, h7n, hin2, ?_⟩
      have := b2.turn (x := g c) (by rw [List.getElem?_map, hc]; rfl)
      rw [e7, ← er, Z.rowg hco]
      exact this
  refine ifF (decide_eq_false (by omega)) ?_
  have hm2 : (hs.map g).length ≤ n2 := by rw [List.length_map]; omega
  have s06 := Same.trans s1 s16
  have inm : ∀ s ∈ ord, g s ∈ hs.map g := Z.in_order b b2 hm2
  have notN : ∀ {H' : Hp} {q : Addr}, Same H H' → H' q = none → ¬ q ∈ N := fun {H' q} sm e z => hN q z (Same.free sm e)
  -- found = [[names.index(block[late]) ..] ..]
  refine ⟨_, rfl, hd, rfl, ⟨_, SqL.of h6d⟩, fun D hD => lc_it walk_list (fun i Hx => LcP K D (Wo N H6) (fun i => (hs.take i).map fun h => dL ((S.getD h []).map fun x => (hs.map g).idxOf (g x))) i (Wo N Hx) ∧ Same H6 (Wo [D] Hx)) ?_ (fun i Hx _ ⟨_, q⟩ => SqL.of ((wo_same _ _) _ _ (q _ _ h6d))) (fun i x Ha Hb hi pc y => ?_) fun Hc pc => ?_⟩
  · refine ⟨LcP.zeroN (notN s06 hD) hD rfl, ?_⟩
    rw [wo_upd in1]
    intro b o e
    rw [wo_out fun z => by rw [List.mem_singleton.mp z, hD] at e; cases e]
    exact e
  · obtain ⟨rfl, hx⟩ := y
    obtain ⟨h, hh, rfl⟩ := get_vN hx
    have hho := hin h (List.mem_of_getElem? hh)
    obtain ⟨cc, r, q2, q3, hr2, hr3, er⟩ := rowof h (hlt h hho)
    have hro : ∀ x ∈ r, x ∈ ord := fun x hx => by
      obtain ⟨l, hl, rfl⟩ := (W.mem_row (hlt h hho)).mp (by rw [er]; exact hx)
      exact led.cl h hho l hl
    obtain ⟨pc, sc⟩ := pc
    have s6b : Same H6 Hb := Same.trans sc (wo_same _ _)
    have s0b := Same.trans s06 s6b
    obtain ⟨acc0, hb0, _⟩ := pc.atN (notN s06 hD)
    refine ⟨rfl, _, rfl, _, rfl, av, vxs, _, _, rfl, rfl, s0b.seq qv, q2, cc, rfl, ⟨_, s0b.seq q3⟩, fun D2 hD2 => lc_d (K := K) walk_list (fun j => (r.take j).map fun x => dN ((hs.map g).idxOf (g x))) hD2 rfl (fun H' sm => Same.seq (Same.trans s0b sm) q3) (fun j x Hc Hd hj p2 y => ?_) fun acc Hc h1 h2 h3 => ?_⟩
    · obtain ⟨rfl, hx⟩ := y
      obtain ⟨t, ht, rfl⟩ := get_vN hx
      have htm := List.mem_of_getElem? ht
      have s6d := Same.trans s6b p2.same
      refine ⟨rfl, _, rfl, .inl ⟨rfl, _, SqL.of (s6d _ _ h6n)⟩, _, rfl, _, rfl, ab, _, _, _, rfl, rfl, SqL.of (s6d _ _ (s16 _ _ h1b)), atI_nat (atb t (hr3 t htm)), nm, _, vN (g t), (hs.map g).idxOf (g t), vN (g t), rfl, rfl, SqL.of (s6d _ _ h6n), rfl, flat_nums _, ?_, by rw [eqV_num]; exact decide_eq_true rfl, fun m z hm hz => ?_, ?_⟩
      · rw [List.getElem?_map, get_idxOfA (inm t (hro t htm))]
        rfl
      · obtain ⟨u, hu, rfl⟩ := get_vN hz
        rw [eqV_num]
        exact decide_eq_false (before_idx hm hu)
      · exact p2.put0 (line_lt (by have := lt_of_get ht; omega)) (.int _) (take_map _ r ht)
    · have eacc : acc = (r.map fun x => (hs.map g).idxOf (g x)).map vN := nums_of (by
        rw [List.length_map, List.take_length] at h3
        rw [List.map_map]
        exact h3)
      subst eacc
      have sbc : Same Hb Hc := Same.trans h2 (wo_same _ _)
      have n2D : D2 ≠ D := fun z => by rw [z, hb0] at hD2; cases hD2
      have out : Wo [D] (Wo N Hc) D2 = some (.lst ((r.map fun x => (hs.map g).idxOf (g x)).map vN)) := by
        rw [wo_out fun z => n2D (List.mem_singleton.mp z), wo_out (notN s0b hD2)]
        exact h1
      obtain ⟨acc, z1, z2, z3⟩ := pc.putN (H4 := Hc) (y := .ref D2) (d := dL ((S.getD h []).map fun x => (hs.map g).idxOf (g x))) (notN s06 hD) (line_lt (by have := lt_of_get hh; omega)) ((sbc _ _ hb0).trans hb0.symm) (wo2_mono sbc) (by rw [er]; exact dp_l (SqL.of out)) (take_map (fun h => dL ((S.getD h []).map fun x => (hs.map g).idxOf (g x))) hs hh)
      refine ⟨acc, z1, z2, z3, ?_⟩
      rw [wo_upd in1]
      exact Same.trans sc (wo_mono sbc)
  obtain ⟨⟨facc, c1, c2, c3, _⟩, sc⟩ := pc
  have c3 : DpAll K (Wo [D] (Wo N Hc)) facc ((hs.take (hs.map vN).length).map fun h => dL ((S.getD h []).map fun x => (hs.map g).idxOf (g x))) := c3
  rw [List.length_map, List.take_length] at c3
  have dF : Dp K (Wo N Hc) (.ref D) (dLL (quoT S g (rep ord g) (hs.map g))) := by
    rw [heads_T Z hin]
    exact .lst (SqL.of c1) (by rw [List.map_map]; exact dpAll_mono (wo_same _ _) c3)
  have s6c : Same H6 Hc := Same.trans sc (wo_same _ _)
  have s0c := Same.trans s06 s6c
  have hcd := s6c _ _ h6d
  -- return (found, [place ..])
  refine ⟨_, rfl, _, rfl, hd, _, rfl, SqL.of hcd, fun D3 hD3 => lc_d (K := K) walk_enum (fun i => ((List.range i).filter fun j => decide (hs.getD j 0 ∈ E)).map dN) hD3 rfl (fun H' sm => SqL.of (sm _ _ hcd)) (fun i x Ha Hb hi p y => ?_) fun acc He h1e h2e h3e => ?_⟩
  · obtain ⟨T9, u1, u2, rfl, hT, rfl, e1, e2⟩ := y
    cases e1
    obtain ⟨h, hh, rfl⟩ := get_vN e2
    have sca : Same Hc (upd Ha T9 (.tup [.int (i : Nat), vN h])) := Same.trans p.same (same_new hT)
    obtain ⟨k1, k2⟩ := new_keeps (o := .tup [.int (i : Nat), vN h]) hT p.some
    refine ⟨T9, _, rfl, SqT.of upd_same, rfl, _, _, rfl, _, _, rfl, rfl, rfl, _, rfl, _, rfl, ae, _, rfl, .inl ((Same.trans s0c sca).seq qe), rfl, flat_nums _, _, rfl, ?_⟩
    rw [inV_num]
    have eo : hs.getD i 0 = h := getD_of hh
    by_cases q : h ∈ E
    · refine ifT (decide_eq_true q) ⟨_, rfl, p.put (d := dN i) (line_lt (by have := lt_of_get hh; omega)) k1 k2 (.int _) ?_⟩
      rw [filter_range, if_pos (by rw [eo]; exact decide_eq_true q), List.map_append]
      rfl
    · refine ifF (decide_eq_false q) (p.skip k1 k2 ?_)
      rw [filter_range, if_neg (by rw [eo]; simp [q])]
  have eacc : acc = (quoF E (rep ord g) (hs.map g)).map vN := nums_of (by
    rw [heads_F Z hin]
    rw [List.length_map] at h3e
    exact dpAll_mono (wo_same _ _) h3e)
  subst eacc
  have sce : Same Hc He := Same.trans h2e (wo_same _ _)
  refine ⟨line_le (Nat.le_of_ble_eq_true rfl), fun tq htq => ?_⟩
  have set_ := same_new (o := .tup [.ref D, .ref D3]) htq
  have s0t := Same.trans s0c (Same.trans sce set_)
  have out : ∀ b o, ¬ b ∈ N → (upd He tq (.tup [.ref D, .ref D3])) b = some o → Wo N (upd He tq (.tup [.ref D, .ref D3])) b = some o := fun b o n e => by rw [wo_out n]; exact e
  refine k _ tq (quoT S g (rep ord g) (hs.map g), quoF E (rep ord g) (hs.map g)) s0t (Same.free (Same.trans s0c sce) htq) ?_ (Z.least b b2 hm2) ?_
  · exact .tup (SqT.of (out _ _ (notN (Same.trans s0c sce) htq) upd_same)) (.cons (dp_mono (wo_mono (Same.trans sce set_)) dF) (.cons (dp_l (SqL.of (out _ _ (notN s0c hD3) (set_ _ _ h1e)))) .nil))
  · show (quoT S g (rep ord g) (hs.map g)).length ≤ S.length
    rw [quoT_length, List.length_map]
    omega
end
end M22

set_option maxRecDepth 100000
set_option maxHeartbeats 4000000
namespace M22
open PySem PySem.Spec PyProof.Rows L2 LamX
theorem cr_reprK {X : Cx} (K : PySem.W.Frag) (hg : X.A.guards = some []) (hu : X.A.units + 64 < cLine) (h : X.K = K := by rfl) : CallR X (.builtin "repr") (rRepr K) := h ▸ cr_repr hg hu
section
variable {P : Program} {w : World} {K : PySem.W.Frag} {mg : Str → Option Value} {base : Heap} {CM CT AT p t kd : Addr} {H H' : Hp}
/-- a table of code objects, other things changed -/
theorem tabS_step {M : List Addr} {q : Str} (h : TabS H AT q) (w : Same (Wo M H) (Wo M H')) (hA : ¬ AT ∈ M) (hc : ∀ b ∈ M, ∀ q, H b ≠ some (CodeO b q)) : TabS H' AT q := by
  obtain ⟨ps, h1, h2, h3⟩ := h
  refine ⟨ps, wo_at w h1 hA, h2, fun pos cv e => ?_⟩
  obtain ⟨c, e1, e2⟩ := h3 pos cv e
  exact ⟨c, e1, wo_at w e2 fun z => hc c z q e2⟩
theorem codeO_dK {kvs : List (Key × V)} {b : Addr} {q : Str} (h : H kd = some (.dK kvs)) : H kd ≠ some (CodeO b q) := fun z => by
  rw [h] at z
  unfold CodeO at z
  cases z
theorem codeO_lst {xs : List V} {b : Addr} {q : Str} (h : H p = some (.lst xs)) : H p ≠ some (CodeO b q) := fun z => by
  rw [h] at z
  unfold CodeO at z
  cases z
/-- what law_right keeps while the pot, the table's rows and the table of code objects change -/
structure Rt (K : PySem.W.Frag) (CM CT AT p t kd : Addr) (L : Nat) (ms : List Addr) (Ms : List Mach) (C : List Change) (H : Hp) : Prop where
  pot : Pot p H
  tab : TabS H AT lamQ
  tat : TAt K CM CT (Wo [p, AT] H) t kd L ms Ms C
variable {L : Nat} {ms : List Addr} {Ms : List Mach} {C : List Change}
theorem Rt.live (r : Rt K CM CT AT p t kd L ms Ms C H) : ∀ b ∈ [p, AT], H b ≠ none := fun b hb => by
  rcases List.mem_cons.mp hb with e | hb
  · obtain ⟨_, _, e1, _⟩ := r.pot
    rw [e, e1]; exact fun z => nomatch z
  · obtain ⟨_, e1, _⟩ := r.tab
    rw [List.mem_singleton.mp hb, e1]; exact fun z => nomatch z
theorem Rt.kdK (r : Rt K CM CT AT p t kd L ms Ms C H) : ∃ kvs, H kd = some (.dK kvs) := by
  obtain ⟨_, _, _, _, _, _, kvs0, _, _, _, _, _, _, hk0, _⟩ := r.tat
  exact ⟨kvs0, wo_same _ _ _ _ hk0⟩
theorem Rt.ne (r : Rt K CM CT AT p t kd L ms Ms C H) : p ≠ kd ∧ AT ≠ kd ∧ p ≠ AT := by
  obtain ⟨_, _, e1, _⟩ := r.pot
  obtain ⟨_, e2, _⟩ := r.tab
  obtain ⟨kvs, e3⟩ := r.kdK
  refine ⟨fun z => ?_, fun z => ?_, fun z => ?_⟩
  · rw [z, e3] at e1; cases e1
  · rw [z, e3] at e2; cases e2
  · rw [z, e2] at e1; cases e1
/-- nothing of it changed -/
theorem Rt.same (r : Rt K CM CT AT p t kd L ms Ms C H) (s : Same H H') : Rt K CM CT AT p t kd L ms Ms C H' := ⟨r.pot.same s, r.tab.ext s, r.tat.mono (wo_mono s)⟩
/-- the table's rows may have been laid -/
theorem Rt.rows (r : Rt K CM CT AT p t kd L ms Ms C H) (w : Same (Wo [kd] H) (Wo [kd] H')) (h : TAt K CM CT (Wo [p, AT] H') t kd L ms Ms C) : Rt K CM CT AT p t kd L ms Ms C H' := by
  obtain ⟨n1, n2, n3⟩ := r.ne
  obtain ⟨kvs, e3⟩ := r.kdK
  refine ⟨?_, tabS_step r.tab w (fun z => n2 (List.mem_singleton.mp z)) (fun b hb q => by rw [List.mem_singleton.mp hb]; exact codeO_dK e3), h⟩
  obtain ⟨x, y, e1, z⟩ := r.pot
  exact ⟨x, y, wo_at w e1 fun z => n1 (List.mem_singleton.mp z), z⟩
/-- the pot was drawn from -/
theorem Rt.drawn (r : Rt K CM CT AT p t kd L ms Ms C H) (w : Same (Wo [p] H) (Wo [p] H')) (hp : Pot p H') : Rt K CM CT AT p t kd L ms Ms C H' := by
  obtain ⟨n1, n2, n3⟩ := r.ne
  obtain ⟨x, y, e1, z⟩ := r.pot
  exact ⟨hp, tabS_step r.tab w (fun z => n3 (List.mem_singleton.mp z).symm) (fun b hb q => by rw [List.mem_singleton.mp hb]; exact codeO_lst e1), r.tat.mono (wo_more w fun b hb => by rw [List.mem_singleton.mp hb]; exact List.mem_cons_self)⟩
/-- the lambda was made -/
theorem Rt.made (r : Rt K CM CT AT p t kd L ms Ms C H) (w : Same (Wo [AT] H) (Wo [AT] H')) (h : TabS H' AT lamQ) : Rt K CM CT AT p t kd L ms Ms C H' := by
  obtain ⟨n1, n2, n3⟩ := r.ne
  obtain ⟨x, y, e1, z⟩ := r.pot
  exact ⟨⟨x, y, wo_at w e1 fun z => n3 (List.mem_singleton.mp z), z⟩, h, r.tat.mono (wo_more w fun b hb => by rw [List.mem_singleton.mp hb]; exact List.mem_cons_of_mem _ (List.mem_singleton.mpr rfl))⟩
theorem Rt.noTup (r : Rt K CM CT AT p t kd L ms Ms C H) : NoTup [AT, kd, p] H := fun b hb => by
  obtain ⟨_, _, e1, _⟩ := r.pot
  obtain ⟨_, e2, _⟩ := r.tab
  obtain ⟨_, e3⟩ := r.kdK
  rcases List.mem_cons.mp hb with e | hb
  · rw [e]; exact noTup_of e2 (fun _ z => nomatch z) (fun _ _ z => nomatch z)
  rcases List.mem_cons.mp hb with e | hb
  · rw [e]; exact noTup_of e3 (fun _ z => nomatch z) (fun _ _ z => nomatch z)
  · rw [List.mem_singleton.mp hb]; exact noTup_of e1 (fun _ z => nomatch z) (fun _ _ z => nomatch z)
/-- a machine is none of these -/
theorem Rt.mach {x : Addr} {l : Nat} {Tt : Steps} {F : List Nat} (r : Rt K CM CT AT p t kd L ms Ms C H) (z : MAt K CM H x l Tt F) : MAt K CM (Wo [AT, kd, p] H) x l Tt F := by
  obtain ⟨_, _, e1, _⟩ := r.pot
  obtain ⟨_, e2, _⟩ := r.tab
  obtain ⟨_, e3⟩ := r.kdK
  have n1 : x ≠ AT := mAt_ne z e2 fun _ _ _ z => nomatch z
  have n2 : x ≠ kd := mAt_ne z e3 fun _ _ _ z => nomatch z
  have n3 : x ≠ p := mAt_ne z e1 fun _ _ _ z => nomatch z
  exact mAt_outM r.noTup (by simp [n1, n2, n3]) z
theorem Least.len_le {R : Steps} {lot : List Nat} {Tt : Steps} {F : List Nat} (h : Least L Tt F) (W : Whole L R) (sl : SameLang L R lot Tt F) : Tt.length ≤ R.length := by
  have ex : ∀ i, ∃ x, i < Tt.length → x < R.length ∧ ∃ wd, Wd L wd ∧ run Tt 0 wd = i ∧ run R 0 wd = x := fun i => by
    by_cases hi : i < Tt.length
    · obtain ⟨wd, hw, e⟩ := h.reach hi
      exact ⟨_, fun _ => ⟨W.run W.pos hw, wd, hw, e, rfl⟩⟩
    · exact ⟨0, fun z => absurd z hi⟩
  obtain ⟨g, hg⟩ := Classical.axiomOfChoice ex
  have nd : ((List.range Tt.length).map g).Nodup := by
    refine List.pairwise_map.mpr (List.Pairwise.imp_of_mem (fun {i j} hi hj ne e => ne ?_) List.nodup_range)
    obtain ⟨_, u, hu, e1, e2⟩ := hg i (List.mem_range.mp hi)
    obtain ⟨_, v, hv, e3, e4⟩ := hg j (List.mem_range.mp hj)
    refine h.apart i j (List.mem_range.mp hi) (List.mem_range.mp hj) fun x hx => ?_
    have a1 := sl (u ++ x) (hu.append hx)
    have a2 := sl (v ++ x) (hv.append hx)
    rw [run_append, run_append, e2, e1] at a1
    rw [run_append, run_append, e4, e3] at a2
    rw [← a1, ← a2, e]
  have := nodup_bound (n := R.length) nd fun x hx => by
    obtain ⟨i, hi, rfl⟩ := List.mem_map.mp hx
    exact (hg i (List.mem_range.mp hi)).1
  rw [List.length_map, List.length_range] at this
  exact this
theorem add1 {d : Nat} : V.int (1 + (d : Int)) = vN (1 + d) := by
  show V.int (1 + (d : Int)) = V.int ((1 + d : Nat) : Int)
  rw [Int.natCast_add]
  rfl
variable {A₀ : Around}
def spRight (AT : Addr) : Sp := fun vs H Q _ => ∃ p : Addr, vs = [.ref p] ∧ Pot p H ∧ TabS H AT lamQ ∧ ∀ H', Q (.bl true) H'
abbrev s__law_right : Stmt := top 87
abbrev N__law_right : List Str := ["_law_pot_here", "_law_letters", "_law_many", "_law_told", "_law_words", "_law_changes", "_law_steps", "_law_ends", "_law_machines", "_law_table", "_law_lot", "_law_machine", "_law_word", "_law_further", "_law_due", "_law_wide", "_law_one"]
theorem sc__law_right : FnScope N__law_right ["_law_pot_here"] (defScope s__law_right) := ⟨rfl, rfl, rfl, by decide +kernel, rfl, by decide +kernel, by decide +kernel⟩
theorem ok__law_right {fr : Addr} {fdr : FuncData} (T : Tx K mg CM CT) (F : Fun K "_law_right" "_law_right" s__law_right fr fdr) (hg0 : A₀.guards = some []) (hr0 : Room 9 A₀) (eqM : EqOk P w K mg base 1 CM ["self", "other"] (spEqB (REqM K CM)))
    (D_lot_machine : DefAt K mg "lot_machine" s_lot_machine) (D_widened : DefAt K mg "widened" s_widened)
    (c__law_draw : Cal P w K mg base 1 "_law_draw" ["_law_pot_here", "_law_many"] spDraw) (c__law_few : Cal P w K mg base 4 "_law_few" ["_law_pot_here", "_law_letters", "_law_many", "_law_most"] (spLFew K)) (c__law_classes : Cal P w K mg base 2 "_law_classes" ["_law_letters", "_law_machines", "_law_most"] (spLCls K))
    (c_Machine : Mak P w K mg base 4 "Machine" CM ["self", "letters", "steps", "ends"] (spMInit K CM)) (c_Table : Mak P w K mg base 3 "Table" CT ["self", "machines"] (spTInit K CM CT)) (c_lot_machine : Cal P w K mg base 8 "lot_machine" ["table", "lot"] (spLotMachine K CM CT))
    (c__law_all : Cal P w K mg base 1 "_law_all" ["_law_letters", "_law_length"] (spLAll K)) (c_lets : Cal P w K mg base 4 "lets" ["machine", "word"] (spIsLet K CM)) (c__law_class : Cal P w K mg base 2 "_law_class" ["_law_machines", "_law_changes", "_law_word"] (spLClass K))
    (c_passed : Cal P w K mg base 4 "passed" ["table", "position"] (spPassed K CM CT)) (c__law_filter : Cal P w K mg base 3 "_law_filter" ["_law_pot_here", "_law_letters"] (spFil K)) (c__law_met : Cal P w K mg base 2 "_law_met" ["_law_told", "_law_letters", "_law_changes", "_law_steps", "_law_ends"] (spLMet K))
    (c_widened : Cal P w K mg base 5 "widened" ["table", "machine"] (spWide K CM CT)) (c_is_within : Cal P w K mg base 4 "is_within" ["machine", "other"] (spIsW K CM AT)) : FnAt P w K mg base A₀ fr fdr ["_law_pot_here"] (spRight AT) := by
  refine fnAt_of F sc__law_right hr0 (fun vs H Q E h => ?_) (fun cdv outer s H vs Q E h => ?_)
  · obtain ⟨_, rfl, _⟩ := h
    rfl
  have hr := hr0.deeper (envOfC "_law_right" (defScope s__law_right) s.heap.objs.size fr cdv)
  have hgd : (A₀.deeper (envOfC "_law_right" (defScope s__law_right) s.heap.objs.size fr cdv)).guards = some [] := hg0
  obtain ⟨p, rfl, hp, hT, k⟩ := h
  refine ⟨_, (pss_cons (ps_asg (pe_tup (pa_cons (pe_op op_add pe_int (pe_c c__law_draw hr (by decide) rfl (pa_cons (pv 0) (pa_cons pe_int pa_nil)))) (pa_cons (pe_op op_add pe_int (pe_c c__law_draw hr (by decide) rfl (pa_cons (pv 0) (pa_cons pe_int pa_nil)))) pa_nil))) (pg_tupK K (n := 2) rfl (pgs_cons (pg_name (i := 1) sc__law_right.nd rfl (Or.inr rfl)) (pgs_cons (pg_name (i := 2) sc__law_right.nd rfl (Or.inl rfl)) pgs_nil))))
  (pss_cons (ps_set (i := 3) sc__law_right.nd rfl (Or.inl rfl) (pe_c c__law_few hr (by decide) rfl (pa_cons (pv 0) (pa_cons (pv 1) (pa_cons (pv 2) (pa_cons pe_int pa_nil))))))
  (pss_cons (ps_asg (pe_c c__law_classes hr (by decide) rfl (pa_cons (pv 1) (pa_cons (pv 3) (pa_cons pe_int pa_nil)))) (pg_tupK K (n := 2) rfl (pgs_cons (pg_name (i := 4) sc__law_right.nd rfl (Or.inl rfl)) (pgs_cons (pg_name (i := 5) sc__law_right.nd rfl (Or.inl rfl)) pgs_nil))))
  (pss_cons (ps_setLc (i := 8) (own := [("_law_steps", 6), ("_law_ends", 7)]) (tt := tYes) rfl sc__law_right.nd rfl rfl (sw_true rfl rfl rfl (by decide +kernel)) (pi_listK K (pv 3)) (blkOk_by (N := N__law_right) (sc := (defScope s__law_right)) (by decide +kernel)) (fun _ _ _ _ _ => (pg_tupK K (n := 2) rfl (pgs_cons (pg_name (i := 6) sc__law_right.nd rfl (Or.inl rfl)) (pgs_cons (pg_name (i := 7) sc__law_right.nd rfl (Or.inl rfl)) pgs_nil)))) (fun _ _ _ _ _ => pts_nil) (fun _ _ _ _ _ => (pe_mk c_Machine hr (by decide) rfl (pa_cons (pv 1) (pa_cons (pv 6) (pa_cons (pv 7) pa_nil))))))
  (pss_cons (ps_par (i := 9) (j := 10) rfl sc__law_right.nd rfl rfl (by decide) rfl rfl (pa_cons (pe_mk c_Table hr (by decide) rfl (pa_cons (pv 8) pa_nil)) (pa_cons (pe_lc (own := [("_law_one", 16)]) rfl sc__law_right.nd (pi_range1 rfl T.range (pa_cons (pe_callB (call_lenK K) (by rfl) T.len PySem.boot_len (pa_cons (pv 4) pa_nil)) pa_nil)) (blkOk_by (N := N__law_right) (sc := (defScope s__law_right)) (by decide +kernel)) (fun _ _ _ _ _ => (pg_name (i := 16) sc__law_right.nd rfl (Or.inl rfl))) (fun _ _ _ _ _ => (pts_one (pt_cmpR op_eq (pe_c c__law_draw hr (by decide) rfl (pa_cons (pv 0) (pa_cons pe_int pa_nil))) pe_int (nomark _)))) (fun _ _ _ _ _ => (pv 16))) pa_nil)) (by rfl))
  (pss_cons (ps_set (i := 11) sc__law_right.nd rfl (Or.inl rfl) (pe_c c_lot_machine hr (by decide) rfl (pa_cons (pv 9) (pa_cons (pe_callTy (call_tupK K) (by rfl) T.tuple (by decide +kernel) (pa_cons (pe_revK K (pv 10)) pa_nil)) pa_nil))))
  (pss_cons (ps_for PassesOwn.never rfl (pi_listK K (pe_c c__law_all hr (by decide) rfl (pa_cons (pv 1) (pa_cons pe_int pa_nil)))) (pg_name (i := 12) sc__law_right.nd rfl (Or.inl rfl)) (pss_one (ps_if (pt_cmpR op_ne (pe_callB (cr_reprK K hgd (hu_64 hr)) (by rfl) T.repr (by decide +kernel) (pa_cons (pe_c c_lets hr (by decide) rfl (pa_cons (pv 11) (pa_cons (pv 12) pa_nil))) pa_nil)) (pe_callB (cr_reprK K hgd (hu_64 hr)) (by rfl) T.repr (by decide +kernel) (pa_cons (pe_cmpR (op_inK K) (pe_c c__law_class hr (by decide) rfl (pa_cons (pv 3) (pa_cons (pv 5) (pa_cons (pv 12) pa_nil)))) (pv 10) (by rfl)) pa_nil)) (nomark _)) (pss_one (ps_ret pe_bl)) pss_nil)))
  (pss_cons (ps_if (pt_cmpR (op_neM eqM hr (by decide)) (pe_cK c_lot_machine D_lot_machine (fun _ _ _ _ _ _ => ⟨fun _ _ => rfl, fun _ _ => rfl, fun _ _ => rfl⟩) hr (by decide) rfl (pk_cons (pe_c c_passed hr (by decide) rfl (pa_cons (pv 9) (pa_cons (pe_op op_sub (pv 2) pe_int) pa_nil))) (pk_cons (pv 9) pk_nil))) (pe_ix (ix_listK K) (pv 8) (pe_un un_neg pe_int) (fun _ _ => rfl)) (nomark _)) (pss_one (ps_ret pe_bl)) pss_nil)
  (pss_cons (ps_asg (pe_c c__law_filter hr (by decide) rfl (pa_cons (pv 0) (pa_cons (pv 1) pa_nil))) (pg_tupK K (n := 2) rfl (pgs_cons (pg_name (i := 6) sc__law_right.nd rfl (Or.inl rfl)) (pgs_cons (pg_name (i := 7) sc__law_right.nd rfl (Or.inl rfl)) pgs_nil))))
  (pss_cons (ps_par (i := 13) (j := 14) rfl sc__law_right.nd rfl rfl (by decide) rfl rfl (pa_cons (pe_mk c_Machine hr (by decide) rfl (pa_cons (pv 1) (pa_cons (pv 6) (pa_cons (pv 7) pa_nil)))) (pa_cons (pe_c c__law_met hr (by decide) rfl (pa_cons (pv 3) (pa_cons (pv 1) (pa_cons (pv 5) (pa_cons (pv 6) (pa_cons (pv 7) pa_nil)))))) pa_nil)) (by rfl))
  (pss_cons (ps_if (PW.pt (pw_or (pt_cmpR op_ne (pe_callB (cr_reprK K hgd (hu_64 hr)) (by rfl) T.repr (by decide +kernel) (pa_cons (pe_c c_widened hr (by decide) rfl (pa_cons (pv 9) (pa_cons (pv 13) pa_nil))) pa_nil)) (pe_callB (cr_reprK K hgd (hu_64 hr)) (by rfl) T.repr (by decide +kernel) (pa_cons (pv 14) pa_nil)) (nomark _)) (pw_or1 (pt_cmpR (op_neDK K (hu_64 hr)) (pe_cK c_widened D_widened (fun _ _ _ _ _ _ => ⟨fun _ _ => rfl, fun _ _ => rfl, fun _ _ => rfl⟩) hr (by decide) rfl (pk_cons (pv 13) (pk_cons (pv 9) pk_nil))) (pv 14) (nomark _))))) (pss_one (ps_ret pe_bl)) pss_nil)
  (pss_cons (ps_set (i := 15) sc__law_right.nd rfl (Or.inl rfl) (pe_c c_lot_machine hr (by decide) rfl (pa_cons (pv 9) (pa_cons (pv 14) pa_nil))))
  (pss_cons (ps_if (PW.pt (pw_or (pt_cmpR op_notBl (pe_c c_is_within hr (by decide) rfl (pa_cons (pv 13) (pa_cons (pv 15) pa_nil))) pe_bl (nomark _)) (pw_or1 (pt_cmpR (op_neDK K (hu_64 hr)) (pe_c c_widened hr (by decide) rfl (pa_cons (pv 9) (pa_cons (pv 15) pa_nil))) (pv 14) (nomark _))))) (pss_one (ps_ret pe_bl)) pss_nil)
  (pss_cons (ps_if (PW.pt (pw_or (pt_cmpR (op_neDK K (hu_64 hr)) (pe_c c_widened hr (by decide) rfl (pa_cons (pv 9) (pa_cons (pv 11) pa_nil))) (pv 10) (nomark _)) (pw_or1 (pt_cmpR (op_neDK K (hu_64 hr)) (pe_c c_widened hr (by decide) rfl (pa_cons (pv 9) (pa_cons (pe_c c_lot_machine hr (by decide) rfl (pa_cons (pv 9) (pa_cons (pe_lst pa_nil) pa_nil))) pa_nil))) (pe_lst pa_nil) (nomark _))))) (pss_one (ps_ret pe_bl)) pss_nil)
  (pss_one (ps_ret (pe_cmpR (op_eqDK K (hu_64 hr)) (pe_c c_widened hr (by decide) rfl (pa_cons (pv 9) (pa_cons (pe_ix (ix_listK K) (pv 8) pe_int (fun _ _ => rfl)) pa_nil))) (pe_c c_passed hr (by decide) rfl (pa_cons (pv 9) (pa_cons pe_int pa_nil))) (nomark _)))))))))))))))))), ?_⟩
  -- letters, many
  refine ⟨_, rfl, p, 2, rfl, hp, by decide, by decide, fun H1 d1 w1 p1 hd1 => ⟨_, _, rfl, rfl, _, rfl, p, 2, rfl, p1, by decide, by decide, fun H2 d2 w2 p2 hd2 => ⟨_, _, rfl, rfl, line_le (Nat.le_of_ble_eq_true rfl), fun t0 ht0 => ⟨t0, [vN (1 + d1), vN (1 + d2)], rfl, SqT.of (by rw [← add1, ← add1]; exact upd_same), rfl, _, _, rfl, _, _, rfl, rfl, ?_⟩⟩⟩⟩
  obtain ⟨L, eL⟩ : ∃ L, L = 1 + d1 := ⟨_, rfl⟩
  obtain ⟨m, em⟩ : ∃ m, m = 1 + d2 := ⟨_, rfl⟩
  rw [← eL, ← em]
  have hL0 : 0 < L := by omega
  have hL2 : L ≤ 2 := by omega
  have hm0 : 0 < m := by omega
  have hm2 : m ≤ 2 := by omega
  have w03 : Same (Wo [p] H) (Wo [p] (upd H2 t0 (.tup [V.int (1 + (d1 : Int)), V.int (1 + (d2 : Int))]))) := Same.trans w1 (Same.trans w2 (wo_new ht0))
  have p3 : Pot p (upd H2 t0 (.tup [V.int (1 + (d1 : Int)), V.int (1 + (d2 : Int))])) := p2.same (same_new ht0)
  generalize upd H2 t0 (.tup [V.int (1 + (d1 : Int)), V.int (1 + (d2 : Int))]) = H3 at w03 p3 ⊢
  clear w1 w2 ht0 p1 p2 eL em hd1 hd2
  have pl : ∀ {H : Hp}, Pot p H → ∀ b ∈ [p], ∀ q, H b ≠ some (CodeO b q) := fun {H} ⟨_, _, e, _⟩ b hb q => by rw [List.mem_singleton.mp hb]; exact codeO_lst e
  have pA : p ≠ AT := fun z => by
    obtain ⟨_, _, e1, _⟩ := hp
    obtain ⟨_, e2, _⟩ := hT
    rw [z, e2] at e1; cases e1
  have hT3 : TabS H3 AT lamQ := tabS_step hT w03 (fun z => pA (List.mem_singleton.mp z).symm) (pl hp)
  -- told, words, changes
  refine ⟨_, rfl, _, rfl, _, rfl, p, L, m, rfl, p3, hL0, hL2, hm0, hm2, fun H4 q Ms C w4 p4 d4 lMs hM3 Z hC10 => ?_⟩
  have hT4 : TabS H4 AT lamQ := tabS_step hT3 w4 (fun z => pA (List.mem_singleton.mp z).symm) (pl p3)
  have hWh : ∀ M ∈ Ms, Whole L M.1 := fun M hM => (Z.least M hM).whole
  have hM60 : ∀ M ∈ Ms, M.1.length ≤ 60 := fun M hM => by have := hM3 M hM; omega
  refine ⟨_, rfl, _, rfl, .ref q, L, 10, Ms, rfl, dp_mono (wo_same _ _) d4, by omega, hWh, hM60, by omega, by decide, fun H5 cq aw ac ts f n s5 hcq h5q h5w lw hf hac dac b hx => ⟨cq, _, rfl, SqT.of h5q, rfl, _, _, rfl, _, _, rfl, rfl, ?_⟩⟩
  have ef : f = C := by
    rcases hx with hx | hx
    · exact (b.fin hx Z.bfs (Nat.le_refl _)).1
    · have := (b.pre_fin Z.bfs (Nat.le_refl _)).1.length_le
      omega
  subst ef
  clear hx b hf hcq h5q
  obtain ⟨cs, h5c, dcs⟩ := dac
  have d5 : Dp K (Wo [p] H5) (.ref q) (.list (Ms.map dM)) := dp_mono (wo_mono s5) d4
  have p5 : Pot p H5 := p4.same s5
  have hT5 : TabS H5 AT lamQ := hT4.ext s5
  obtain ⟨lm, xs, elm, hlm, lxs, dxs⟩ := dp_len_l d5
  cases elm
  -- machines
  refine ⟨_, rfl, q, rfl, ⟨_, Same.seq (wo_same _ _) hlm⟩, fun D hD => lc_it walk_list (fun i Hx => ∃ mm : List Addr, Hx D = some (.lst (mm.map V.ref)) ∧ Same H5 (Wo [D] Hx) ∧ mm.length = i ∧ ∀ (j : Nat) (mc : Addr) (M : Mach), mm[j]? = some mc → Ms[j]? = some M → H5 mc = none ∧ MAt K CM (Wo [D] Hx) mc L M.1 M.2) ?_ (fun i Hx _ ⟨_, _, s, _⟩ => (Same.trans s (wo_same _ _)).seq (Same.seq (wo_same _ _) hlm)) (fun i x Ha Hb hi pc y => ?_) fun Hc pc => ?_⟩
  · refine ⟨[], upd_same, ?_, rfl, fun j mc M h => nomatch h⟩
    rw [wo_upd in1]
    intro b o e
    rw [wo_out fun z => by rw [List.mem_singleton.mp z, hD] at e; cases e]
    exact e
  · obtain ⟨mm, h1, h2, h3, h4⟩ := pc
    obtain ⟨rfl, hx⟩ := y
    obtain ⟨M, hMi⟩ := get_some (show i < Ms.length by omega)
    have hMm := List.mem_of_getElem? hMi
    have lstM := Z.least M hMm
    obtain ⟨d0, hd0, du⟩ := dxs.get' hx
    rw [List.getElem?_map, hMi] at hd0
    cases hd0
    obtain ⟨t1, a1, b1, rfl, q1, da1, db1⟩ := pair_of du
    have s5b : Same H5 Hb := Same.trans h2 (wo_same _ _)
    have sb : Same (Wo [p] H5) Hb := Same.trans (wo_same _ _) s5b
    refine ⟨t1, _, rfl, Same.seqT sb q1, rfl, _, _, rfl, _, _, rfl, rfl, rfl, _, rfl, _, rfl, _, rfl, fun x dx hxn hdx hne => ?_⟩
    have wm : Same Hb (Wo [x] (upd (upd Hb dx (.own x)) x (.ins CM dx []))) := by
      rw [wo_upd in1]
      intro c o e
      rw [wo_out fun z => by rw [List.mem_singleton.mp z, hxn] at e; cases e]
      exact same_new hdx _ _ e
    have sm := Same.trans sb wm
    have hEn : M.2.Nodup := by rw [lstM.ends]; exact ((rising_range _).filter _).nodup
    refine ⟨x, dx, L, a1, b1, M.1, M.2, rfl, upd_same, dp_mono sm da1, dp_mono sm db1, lstM.whole, hL0, by omega, by have := hM3 M hMm; omega, hEn, fun e he => lstM.end_lt he, fun H6 a5 b5 T5 F5 w5 h6 d5a d5b lst5 sl5 hl5 => ⟨rfl, ?_⟩⟩
    obtain ⟨eT, eF⟩ := lstM.one lst5 sl5
    subst eT eF
    have sb6 : Same Hb H6 := Same.trans wm (Same.trans w5 (wo_same _ _))
    have h6D := sb6 _ _ h1
    have xD : x ≠ D := fun z => by rw [z, h1] at hxn; cases hxn
    have nD : NoTup [D] H6 := fun b hb => by rw [List.mem_singleton.mp hb]; exact noTup_of h6D (fun _ z => nomatch z) (fun _ _ z => nomatch z)
    have hxH5 : H5 x = none := Same.free s5b hxn
    refine ⟨mm.map V.ref, h6D, line_lt (by rw [List.length_map]; omega), mm ++ [x], by rw [upd_same, List.map_append]; rfl, ?_, by rw [List.length_append, h3]; rfl, fun j mc M' e1 e2 => ?_⟩
    · rw [wo_upd in1]; exact Same.trans h2 (wo_mono sb6)
    · rw [wo_upd in1]
      by_cases q : j < mm.length
      · rw [List.getElem?_append_left q] at e1
        obtain ⟨z1, z2⟩ := h4 j mc M' e1 e2
        exact ⟨z1, z2.mono (wo_mono sb6)⟩
      · rw [List.getElem?_append_right (by omega)] at e1
        have e0 : j - mm.length = 0 := by have := lt_of_get e1; simp at this; omega
        rw [e0] at e1
        cases e1
        have ej : j = i := by omega
        rw [ej, hMi] at e2
        cases e2
        exact ⟨hxH5, dx, a5, b5, by rw [wo_out fun z => xD (List.mem_singleton.mp z)]; exact h6, dpTT_outM nD (dp_mono (wo_same _ _) d5a), dpT_outM nD (dp_mono (wo_same _ _) d5b), lst5⟩
  obtain ⟨ms, h6D, s56, lms, hms⟩ := pc
  have lms : ms.length = Ms.length := by omega
  have s56' : Same H5 Hc := Same.trans s56 (wo_same _ _)
  have p6 : Pot p Hc := p5.same s56'
  have hT6 : TabS Hc AT lamQ := hT5.ext s56'
  -- table, lot
  refine ⟨_, rfl, fun t dx htn hdx hne => ?_⟩
  have wt : Same Hc (Wo [t] (upd (upd Hc dx (.own t)) t (.ins CT dx []))) := by
    rw [wo_upd in1]
    intro c o e
    rw [wo_out fun z => by rw [List.mem_singleton.mp z, htn] at e; cases e]
    exact same_new hdx _ _ e
  have st := Same.trans wt (wo_same _ _)
  have hts : (upd (upd Hc dx (.own t)) t (.ins CT dx [])) t = some (.ins CT dx []) := upd_same
  generalize upd (upd Hc dx (.own t)) t (.ins CT dx []) = Ht at wt st hts ⊢
  have ptt : Pot p Ht := p6.same st
  have hTt : TabS Ht AT lamQ := hT6.ext st
  obtain ⟨px, py, hpt, _⟩ := id ptt
  obtain ⟨aps, hAt, _⟩ := id hTt
  have tp : t ≠ p := fun z => by rw [z, hpt] at hts; cases hts
  have tA : t ≠ AT := fun z => by rw [z, hAt] at hts; cases hts
  have nN : NoTup [p, AT] Ht := fun b hb => by
    rcases List.mem_cons.mp hb with e | hb
    · rw [e]; exact noTup_of hpt (fun _ z => nomatch z) (fun _ _ z => nomatch z)
    · rw [List.mem_singleton.mp hb]; exact noTup_of hAt (fun _ z => nomatch z) (fun _ _ z => nomatch z)
  have nT : NoTup (t :: [p, AT]) Ht := fun b hb => by
    rcases List.mem_cons.mp hb with e | hb
    · rw [e]; exact noTup_of hts (fun _ z => nomatch z) (fun _ _ z => nomatch z)
    · exact nN b hb
  have hmst : ∀ (j : Nat) (mc : Addr) (M : Mach), ms[j]? = some mc → Ms[j]? = some M → mc ≠ p ∧ mc ≠ AT ∧ mc ≠ t ∧ MAt K CM Ht mc L M.1 M.2 := fun j mc M e1 e2 => by
    obtain ⟨z1, z2⟩ := hms j mc M e1 e2
    have z3 := z2.mono (wo_same _ _)
    refine ⟨pot_ne p5 z1, fun z => ?_, fun z => ?_, z3.mono st⟩
    · obtain ⟨_, e, _⟩ := hT5
      rw [z, e] at z1; cases z1
    · obtain ⟨_, _, _, e, _⟩ := z3
      rw [z, htn] at e; cases e
  have Dp_ : D ≠ p := pot_ne p5 hD
  have DA : D ≠ AT := fun z => by
    obtain ⟨_, e, _⟩ := hT5
    rw [z, e] at hD; cases hD
  have Dt : D ≠ t := fun z => by rw [z, htn] at h6D; cases h6D
  refine ⟨t, dx, D, [p, AT], L, ms, Ms, f, rfl, hts, fun b hb => ?_, nN, by simp [tp, tA], SqL.of (by rw [wo_out (by simp [Dp_, DA, Dt])]; exact st _ _ h6D), ⟨lms, fun j mc M e1 e2 => ?_⟩, hM60, Z, hC10, hL0, hL2, by omega, by omega, fun H7 kd w7 hkd tat => ⟨rfl, ?_⟩⟩
  · rcases List.mem_cons.mp hb with e | hb
    · rw [e, hpt]; exact fun z => nomatch z
    · rw [List.mem_singleton.mp hb, hAt]; exact fun z => nomatch z
  · obtain ⟨n1, n2, n3, z⟩ := hmst j mc M e1 e2
    exact mAt_outM nT (by simp [n1, n2, n3]) z
  have s67 : Same Hc H7 := Same.trans wt (Same.trans w7 (wo_same _ _))
  have R7 : Rt K CM CT AT p t kd L ms Ms f H7 := ⟨p6.same s67, hT6.ext s67, tat⟩
  -- what is read later, whatever of pot, rows, table of code objects changes
  obtain ⟨kvs7, hk7⟩ := R7.kdK
  obtain ⟨npk, nAk, npA⟩ := R7.ne
  obtain ⟨aps7, hA7, _⟩ := id R7.tab
  have hk7p : Wo [p] H7 kd = some (.dK kvs7) := by rw [wo_out fun z => npk (List.mem_singleton.mp z).symm]; exact hk7
  have hA7p : Wo [kd] (Wo [p] H7) AT = some (.tbl aps7) := by rw [wo_out fun z => nAk (List.mem_singleton.mp z), wo_out fun z => npA (List.mem_singleton.mp z).symm]; exact hA7
  have nsA : NoSeq (Wo [kd] (Wo [p] H7)) AT := ⟨fun xs z => by rcases z with z | ⟨o, z⟩ <;> (rw [hA7p] at z; cases z), fun xs z => by rcases z with z | ⟨o, z⟩ <;> (rw [hA7p] at z; cases z)⟩
  have up7 : ∀ {v : V} {d : PyData}, Dp K (Wo [p] H7) v d → Dp K (Wo [AT, kd, p] H7) v d := fun {v d} h => by
    have := dp_outX nsA (dp_outX (.dK hk7p) h)
    rw [wo_wo, wo_wo] at this
    exact this
  have s57 : Same H5 H7 := Same.trans s56' s67
  have told7 : Dp K (Wo [AT, kd, p] H7) (.ref q) (.list (Ms.map dM)) := up7 (dp_mono (wo_mono s57) d5)
  have np7 : NoTup [p] H7 := fun b hb => by
    obtain ⟨_, _, e, _⟩ := R7.pot
    rw [List.mem_singleton.mp hb]; exact noTup_of e (fun _ z => nomatch z) (fun _ _ z => nomatch z)
  have ch7 : Dp K (Wo [AT, kd, p] H7) (.ref ac) (.list (f.map dTT)) :=
    up7 (.lst (SqL.of (pot_out0 (pot_ne p4 hac) (s57 _ _ h5c))) (dpAllTT_outM np7 (dpAll_mono s57 dcs)))
  -- the lot
  have h7w : H7 aw = some (.lst (ts.map V.str)) := s67 _ _ (s56' _ _ h5w)
  refine ⟨_, rfl, aw, _, rfl, .inl (SqL.of h7w), (((ts.map V.str).length : Nat) : Int), rfl, by rw [List.length_map]; omega, by rw [List.length_map]; omega, fun lo hlo => lc_it (walk_range (lo := 0) (n := (((ts.map V.str).length : Nat) : Int).toNat)) (fun j Hx => DrP p lo H7 (fun ns => Rising ns ∧ ns.length ≤ j ∧ ∀ x ∈ ns, x < j) Hx) (DrP.zero R7.pot hlo ⟨List.Pairwise.nil, Nat.le_refl _, fun x hx => absurd hx List.not_mem_nil⟩) (fun _ _ _ _ => True.intro) (fun j x Ha Hd hj pc y => ?_) fun H8 pc => ?_⟩
  · obtain ⟨rfl, ex⟩ := y
    have ex : x = vN j := ex.trans item_nat
    subst ex
    have lop : lo ≠ p := pot_ne R7.pot hlo
    refine ⟨rfl, _, rfl, p, 2, rfl, pc.choose_spec.2.2.2, by decide, by decide, fun H9 d w9 p9 hd => ⟨rfl, _, rfl, ?_⟩⟩
    have hj10 : j < 10 := by have : j < (((ts.map V.str).length : Nat) : Int).toNat := hj; rw [List.length_map] at this; omega
    by_cases q : d = 0
    · subst q
      refine ifT (decide_eq_true rfl) ⟨_, rfl, ?_⟩
      exact (pc.drawn lop w9 p9 (fun _ z => z)).put lop (fun ns h => ⟨List.pairwise_append.mpr ⟨h.1, List.pairwise_singleton _ _, fun a ha b hb => by rw [List.mem_singleton.mp hb]; exact h.2.2 a ha⟩, by rw [List.length_append]; have := h.2.1; show _ + 1 ≤ _; omega, fun x hx => (List.mem_append.mp hx).elim (fun z => by have := h.2.2 x z; omega) fun z => by rw [List.mem_singleton.mp z]; omega⟩) (fun ns h => line_lt (by have := h.2.1; omega))
    · refine ifF (decide_eq_false fun z => q (by injection z with z; omega)) ?_
      exact pc.drawn lop w9 p9 fun ns h => ⟨h.1, by have := h.2.1; omega, fun x hx => by have := h.2.2 x hx; omega⟩
  obtain ⟨lot, ⟨up, _, hlt⟩, h8l, w78, p8⟩ := pc
  have lop : lo ≠ p := pot_ne R7.pot hlo
  have hlt : ∀ c ∈ lot, c < f.length := fun c hc => by have : c < (((ts.map V.str).length : Nat) : Int).toNat := hlt c hc; rw [List.length_map] at this; omega
  have w78 : Same (Wo [p] H7) (Wo [p] H8) := Same.trans w78 (wo_same _ _)
  have R8 := R7.drawn w78 p8
  refine ⟨_, _, rfl, ?_⟩
  have ndl : lot.Nodup := Rising.nodup up
  -- machine = lot_machine(table, tuple(lot[::-1]))
  refine ⟨_, rfl, _, rfl, lo, _, rfl, SqL.of h8l, fun z1 hz1 => ⟨z1, _, rfl, .inl ⟨SqL.of upd_same, fun z2 hz2 => ?_⟩⟩⟩
  have s9 : Same H8 (upd (upd H8 z1 (.lst (lot.map vN).reverse)) z2 (.tup (lot.map vN).reverse)) := Same.trans (same_new hz1) (same_new hz2)
  have R9 := R8.same s9
  refine ⟨t, kd, z2, [p, AT], L, ms, Ms, f, lot.reverse, rfl, R9.live, R9.tat, .inr (SqT.of (by rw [upd_same, List.map_reverse])), (List.reverse_perm lot).nodup_iff.mpr ndl, fun c hc => hlt c (List.mem_reverse.mp hc), fun H10 mch Tt F w10 tat10 hmch mat sl10 => ?_⟩
  have R10 := R9.rows w10 tat10
  have sl10 : SameLang L (rowsC L Ms f) lot Tt F := fun wd hw => (by have := sl10 wd hw; rw [List.mem_reverse] at this; exact this)
  have lok : lo ≠ kd := fun z => by rw [z, hk7] at hlo; cases hlo
  have h10l : H10 lo = some (.lst (lot.map vN)) := wo_at w10 (s9 _ _ h8l) fun z => lok (List.mem_singleton.mp z)
  have r10 : Same (Wo [AT, kd, p] H7) (Wo [AT, kd, p] H10) := Same.trans (wo_more w78 (by simp)) (Same.trans (wo_mono s9) (wo_more w10 (by simp)))
  -- for word in all(letters, 4)
  refine ⟨_, rfl, L, rfl, hL2, fun H11 wa ws s11 hws wsok wsl => ⟨wa, rfl, ⟨_, SqL.of hws⟩, for_it walk_list (fun i σ Hx => ∃ x12, σ = [some (.ref p), some (vN L), some (vN m), some (.ref q), some (.ref aw), some (.ref ac), none, none, some (.ref D), some (.ref t), some (.ref lo), some (.ref mch), x12, none, none, none, none] ∧ Same H11 Hx)
    ⟨none, rfl, fun _ _ z => z⟩ (fun i σ Hx _ ⟨_, _, s⟩ => SqL.of (s _ _ hws)) ?_ ?_⟩⟩
  · rintro i x σ Hq Ha hi ⟨x12, rfl, sa⟩ ⟨rfl, hx⟩
    rw [List.getElem?_map] at hx
    obtain ⟨wd, hwd, rfl⟩ := Option.map_eq_some_iff.mp hx
    obtain ⟨wd1, wd2⟩ := wsok wd (List.mem_of_getElem? hwd)
    have s10a := Same.trans s11 sa
    have ra := Same.trans r10 (wo_mono s10a)
    refine ⟨_, rfl, _, rfl, mch, L, Tt, F, wd, rfl, mat.mono s10a, by omega, wd1, by omega, fun H12 s12 => .inr ⟨_, rfl, ?_⟩⟩
    have s1012 := Same.trans s10a s12
    refine ⟨_, rfl, _, rfl, _, rfl, .ref q, .ref ac, wd, L, Ms, f, rfl, dp_mono (Same.trans ra (Same.trans (wo_mono s12) (wo_same _ _))) told7, by omega, hM60, dp_mono (Same.trans ra (Same.trans (wo_mono s12) (wo_same _ _))) ch7, Z, by omega, wd1, fun H13 s13 => ?_⟩
    have s1013 := Same.trans s1012 s13
    refine ⟨_, rfl, lo, _, rfl, .inl (SqL.of (s1013 _ _ h10l)), rfl, flat_nums _, .inr ⟨_, rfl, rfl, _, rfl, ifF ?_ ⟨_, rfl, ?_⟩⟩⟩
    · rw [inV_num]
      have e1 := sl10 wd wd1
      rw [Z.run wd wd1] at e1
      have e2 : decide (run Tt 0 wd ∈ F) = decide (clsOf Ms f wd ∈ lot) := decide_eq_decide.mpr e1.symm
      rw [e2]
      simp
    · exact Same.trans sa (Same.trans s12 s13)
  rintro σ H14 ⟨x12, rfl, s14⟩
  have s1014 := Same.trans s11 s14
  have R14 := R10.same s1014
  have r14 := Same.trans r10 (wo_mono s1014)
  obtain ⟨Ml, hMl⟩ := get_some (show m - 1 < Ms.length by omega)
  have em1 : V.int ((m : Int) - 1) = vN (m - 1) := by
    show V.int ((m : Int) - 1) = V.int ((m - 1 : Nat) : Int)
    congr 1
    omega
  -- lot_machine(lot=passed(..), table=table) != machines[-1]
  refine ⟨_, rfl, _, rfl, _, _, rfl, rfl, t, kd, m - 1, L, ms, Ms, f, Ml, congrArg (fun z => [V.ref t, z]) em1, R14.tat.mono (wo_same _ _), hMl, fun H15 pq s15 hpq h15 => ⟨_, rfl, ?_⟩⟩
  have R15 := R14.same s15
  refine ⟨t, kd, pq, [p, AT], L, ms, Ms, f, passedL f (m - 1) Ml.2, rfl, R15.live, R15.tat, .inl (SqL.of h15), Rising.nodup (passedL_up _ _ _), passedL_lt _ _ _, fun H16 mk Tk Fk w16 tat16 hmk mat16 sl16 => ?_⟩
  have R16 := R15.rows w16 tat16
  obtain ⟨ml, hml⟩ := get_some (show m - 1 < ms.length by omega)
  have eml : ms = ms.dropLast ++ [ml] := by
    have hne : ms ≠ [] := fun z => by rw [z] at hml; cases hml
    have e1 := List.dropLast_concat_getLast hne
    rw [List.getLast_eq_getElem] at e1
    have e2 : ms[ms.length - 1]? = some ml := by rw [show ms.length - 1 = m - 1 by omega]; exact hml
    obtain ⟨h1, h2⟩ := List.getElem?_eq_some_iff.mp e2
    rw [h2] at e1
    exact e1.symm
  have elast : atI (ms.map V.ref) (-1) = some (.ref ml) := by
    rw [eml, List.map_append]
    exact atI_last _ _
  have r16 : Same (Wo [AT, kd, p] H7) (Wo [AT, kd, p] H16) := Same.trans r14 (Same.trans (wo_mono s15) (wo_more w16 (by simp)))
  have h7D : H7 D = some (.lst (ms.map V.ref)) := s67 _ _ h6D
  have Dk : D ≠ kd := fun z => by rw [z, hk7] at h7D; cases h7D
  have nZ : NoTup [AT, kd, p] H7 := fun b hb => by
    rcases List.mem_cons.mp hb with e | hb
    · rw [e]; exact noTup_of hA7 (fun _ z => nomatch z) (fun _ _ z => nomatch z)
    rcases List.mem_cons.mp hb with e | hb
    · rw [e]; exact noTup_of hk7 (fun _ z => nomatch z) (fun _ _ z => nomatch z)
    · exact np7 b hb
  have mac7 : ∀ (j : Nat) (mc : Addr) (M : Mach), ms[j]? = some mc → Ms[j]? = some M → MAt K CM (Wo [AT, kd, p] H7) mc L M.1 M.2 := fun j mc M e1 e2 => by
    obtain ⟨n1, n2, _, _⟩ := hmst j mc M e1 e2
    have z := ((hms j mc M e1 e2).2.mono (wo_same _ _)).mono s67
    have n3 : mc ≠ kd := mAt_ne z hk7 fun _ _ _ z => nomatch z
    exact mAt_outM nZ (by simp [n1, n2, n3]) z
  have z16 := ((mac7 (m - 1) ml Ml hml hMl).mono r16).mono (wo_same _ _)
  have lstk : Least L Tk Fk := by obtain ⟨_, _, _, _, _, _, l⟩ := id mat16; exact l
  obtain ⟨eT, eF⟩ := lstk.one (Z.least Ml (List.mem_of_getElem? hMl)) fun wd hw => (sl16 wd hw).symm.trans (Z.passed hMl hw)
  subst eT eF
  obtain ⟨dk1, ak1, bk1, gk1, _⟩ := id mat16
  obtain ⟨dk2, ak2, bk2, gk2, _⟩ := id z16
  have h16D : H16 D = some (.lst (ms.map V.ref)) := wo_at r16 h7D (by simp [Dp_, DA, Dk])
  refine ⟨_, rfl, _, rfl, D, _, _, _, rfl, rfl, SqL.of h16D, elast, mk, ml, dk1, dk2, _, _, true, rfl, rfl, gk1, gk2, ⟨L, _, _, mat16, z16, rfl⟩, fun H17 s17 => ⟨_, rfl, ifF rfl ?_⟩⟩
  have R17 := R16.same s17
  have r17 := Same.trans r16 (wo_mono s17)
  -- steps, ends = filter(pot, letters)
  refine ⟨_, rfl, _, rfl, p, L, rfl, R17.pot, hL0, hL2, fun H18 q18 va vb S E w18 p18 hq18 h18q daS dbE WS hS3 ndE hE => ⟨q18, _, rfl, SqT.of h18q, rfl, _, _, rfl, _, _, rfl, rfl, ?_⟩⟩
  have R18 := R17.drawn w18 p18
  have r18 := Same.trans r17 (wo_more w18 (by simp))
  -- further, due = Machine(..), met(..)
  refine ⟨_, rfl, _, rfl, _, rfl, fun fu dxf hfn hdxf hnef => ?_⟩
  have wm : Same H18 (Wo [fu] (upd (upd H18 dxf (.own fu)) fu (.ins CM dxf []))) := by
    rw [wo_upd in1]
    intro c o e
    rw [wo_out fun z => by rw [List.mem_singleton.mp z, hfn] at e; cases e]
    exact same_new hdxf _ _ e
  have sm := Same.trans (wo_same [p] H18) wm
  refine ⟨fu, dxf, L, va, vb, S, E, rfl, upd_same, dp_mono sm daS, dp_mono sm dbE, WS, hL0, by omega, by omega, ndE, hE, fun H19 a19 b19 T19 F19 w19 h19f d19a d19b lst19 sl19 hl19 => ⟨rfl, ?_⟩⟩
  have s1819 : Same H18 H19 := Same.trans wm (Same.trans w19 (wo_same _ _))
  have R19 := R18.same s1819
  have r19 := Same.trans r18 (wo_mono s1819)
  have mf19 : MAt K CM H19 fu L T19 F19 := ⟨dxf, a19, b19, h19f, dp_mono (wo_same _ _) d19a, dp_mono (wo_same _ _) d19b, lst19⟩
  have dS := dp_mono (Same.trans (wo_same [p] H18) s1819) daS
  have dE := dp_mono (Same.trans (wo_same [p] H18) s1819) dbE
  refine ⟨_, rfl, _, rfl, _, rfl, _, rfl, _, rfl, .ref q, .ref ac, va, vb, L, Ms, f, S, E, rfl, dp_mono (Same.trans r19 (wo_same _ _)) told7, by omega, hM60, dp_mono (Same.trans r19 (wo_same _ _)) ch7, Z, hC10, by omega, dS, WS, by omega, dE, fun H20 du due s20 hdun h20 wd => ⟨_, _, rfl, ?_⟩⟩
  have R20 := R19.same s20
  have r20 := Same.trans r19 (wo_mono s20)
  have mf20 := mf19.mono s20
  have mfx := R20.mach mf20
  have dlt : ∀ c ∈ due, c < 10 := fun c hc => Nat.lt_of_lt_of_le (wd.lt Z c hc) hC10
  have dlt2 : ∀ c ∈ due, c < 100 := fun c hc => by have := dlt c hc; omega
  have dlen : due.length ≤ 10 := nodup_bound (Rising.nodup wd.up) dlt
  have duk : du ≠ kd := fun z => by
    obtain ⟨_, e⟩ := R19.kdK
    rw [z, e] at hdun; cases hdun
  have duA : du ≠ AT := fun z => by
    obtain ⟨_, e, _⟩ := id R19.tab
    rw [z, e] at hdun; cases hdun
  have dup : du ≠ p := pot_ne R19.pot hdun
  have duE : PyData.eqv (dL due) (dL due) = true := (eq_dL due due).mpr rfl
  have sh : ∀ ns : List Nat, SeqAt.shaped (dL ns) = true := fun ns => (flat_dL ns).shaped (by decide)
  have f3 : T19.length ≤ 3 := by omega
  -- repr(widened(table, further)) != repr(due)
  refine ⟨_, rfl, _, rfl, t, kd, fu, [p, AT], L, ms, Ms, f, T19, F19, rfl, R20.live, R20.tat, mf20, by omega, fun H21 w1 due1 w21 tat21 hw1 h21 wide1 => ?_⟩
  obtain rfl := wd.one wide1 sl19
  have R21 := R20.rows w21 tat21
  have k21 : Same (Wo [AT, kd, p] H20) (Wo [AT, kd, p] H21) := wo_more w21 (by simp)
  have h21d : H21 du = some (.lst (due.map vN)) := wo_at w21 h20 fun z => duk (List.mem_singleton.mp z)
  refine .inl ⟨w1, due, rfl, dp_l (SqL.of h21), dlt2, by omega, _, rfl, .inl ⟨du, due, rfl, dp_l (SqL.of h21d), dlt2, by omega, rfl, _, rfl, ifF (by simp) ?_⟩⟩
  -- widened(machine=further, table=table) != due
  refine ⟨_, rfl, _, rfl, t, kd, fu, [p, AT], L, ms, Ms, f, T19, F19, rfl, R21.live, R21.tat, (mfx.mono k21).mono (wo_same _ _), by omega, fun H22 w2 due2 w22 tat22 hw2 h22 wide2 => ?_⟩
  obtain rfl := wd.one wide2 sl19
  have R22 := R21.rows w22 tat22
  have k22 : Same (Wo [AT, kd, p] H20) (Wo [AT, kd, p] H22) := Same.trans k21 (wo_more w22 (by simp))
  have h22d : H22 du = some (.lst (due.map vN)) := wo_at w22 h21d fun z => duk (List.mem_singleton.mp z)
  refine ⟨_, rfl, _, _, dp_l (SqL.of h22), dp_l (SqL.of h22d), sh _, sh _, _, rfl, ifF (by rw [duE]; rfl) ?_⟩
  -- wide = lot_machine(table, due)
  refine ⟨_, rfl, _, rfl, t, kd, du, [p, AT], L, ms, Ms, f, due, rfl, R22.live, R22.tat, .inl (SqL.of h22d), Rising.nodup wd.up, wd.lt Z, fun H23 wmc Tw Fw w23 tat23 hwm matw slw => ?_⟩
  have R23 := R22.rows w23 tat23
  have k23 : Same (Wo [AT, kd, p] H20) (Wo [AT, kd, p] H23) := Same.trans k22 (wo_more w23 (by simp))
  have h23d : H23 du = some (.lst (due.map vN)) := wo_at w23 h22d fun z => duk (List.mem_singleton.mp z)
  have lstw : Least L Tw Fw := by obtain ⟨_, _, _, _, _, _, l⟩ := id matw; exact l
  have lenw : Tw.length ≤ 10 := Nat.le_trans (Least.len_le lstw Z.whole slw) (by rw [rowsC_length]; exact hC10)
  have lw := Nat.mul_le_mul f3 lenw
  -- is_within(further, wide) is not True
  refine ⟨_, rfl, _, rfl, fu, wmc, L, T19, Tw, F19, Fw, rfl, (mfx.mono k23).mono (wo_same _ _), matw, R23.tab, by omega, by omega, fun x hx hin => ?_, fun H24 w24 tab24 => ⟨true, true, rfl, rfl, _, rfl, ifF rfl ?_⟩⟩
  · refine (slw x hx).mp ((wd.mem _).mpr ⟨x, hx, rfl, (sl19 x hx).mpr hin⟩)
  have R24 := R23.made w24 tab24
  have k2324 : Same (Wo [AT, kd, p] H23) (Wo [AT, kd, p] H24) := wo_more w24 (by simp)
  have h24d : H24 du = some (.lst (due.map vN)) := wo_at w24 h23d fun z => duA (List.mem_singleton.mp z)
  -- widened(table, wide) != due
  refine ⟨_, rfl, _, rfl, t, kd, wmc, [p, AT], L, ms, Ms, f, Tw, Fw, rfl, R24.live, R24.tat, ((R23.mach matw).mono k2324).mono (wo_same _ _), by omega, fun H25 w3 due3 w25 tat25 hw3 h25 wide3 => ?_⟩
  obtain rfl := (Z.wide_lot wd.up (wd.lt Z) slw).one wide3 fun _ _ => Iff.rfl
  have R25 := R24.rows w25 tat25
  have k2325 : Same (Wo [AT, kd, p] H23) (Wo [AT, kd, p] H25) := Same.trans k2324 (wo_more w25 (by simp))
  have h25d : H25 du = some (.lst (due.map vN)) := wo_at w25 h24d fun z => duk (List.mem_singleton.mp z)
  refine ⟨_, rfl, _, _, dp_l (SqL.of h25), dp_l (SqL.of h25d), sh _, sh _, _, rfl, ifF (by rw [duE]; rfl) ?_⟩
  -- widened(table, machine) != lot
  have k1014 : Same (Wo [AT, kd, p] H10) (Wo [AT, kd, p] H14) := wo_mono s1014
  have k1017 : Same (Wo [AT, kd, p] H10) (Wo [AT, kd, p] H17) := Same.trans k1014 (Same.trans (wo_mono s15) (Same.trans (wo_more w16 (by simp)) (wo_mono s17)))
  have k1720 : Same (Wo [AT, kd, p] H17) (Wo [AT, kd, p] H20) := Same.trans (wo_more w18 (by simp)) (Same.trans (wo_mono s1819) (wo_mono s20))
  have k1025 : Same (Wo [AT, kd, p] H10) (Wo [AT, kd, p] H25) := Same.trans k1017 (Same.trans k1720 (Same.trans k23 k2325))
  have loA : lo ≠ AT := fun z => by rw [z, hA7] at hlo; cases hlo
  have h25l : H25 lo = some (.lst (lot.map vN)) := wo_at k1025 h10l (by simp [loA, lok, lop])
  have lstm : Least L Tt F := by obtain ⟨_, _, _, _, _, _, l⟩ := id mat; exact l
  have lenm : Tt.length ≤ 10 := Nat.le_trans (Least.len_le lstm Z.whole sl10) (by rw [rowsC_length]; exact hC10)
  refine ⟨_, rfl, _, rfl, t, kd, mch, [p, AT], L, ms, Ms, f, Tt, F, rfl, R25.live, R25.tat, ((R10.mach mat).mono k1025).mono (wo_same _ _), by omega, fun H26 w4 lot4 w26 tat26 hw4 h26 wide4 => ?_⟩
  obtain rfl := (Z.wide_lot up hlt sl10).one wide4 fun _ _ => Iff.rfl
  have R26 := R25.rows w26 tat26
  have h26l : H26 lo = some (.lst (lot.map vN)) := wo_at w26 h25l fun z => lok (List.mem_singleton.mp z)
  refine ⟨_, rfl, _, _, dp_l (SqL.of h26), dp_l (SqL.of h26l), sh _, sh _, _, rfl, ifF (by rw [(eq_dL lot lot).mpr rfl]; rfl) ?_⟩
  -- widened(table, lot_machine(table, [])) != []
  refine ⟨_, rfl, _, rfl, line_le (Nat.zero_le _), fun el hel => ?_⟩
  have R27 := R26.same (same_new (o := .lst []) hel)
  refine ⟨t, kd, el, [p, AT], L, ms, Ms, f, [], rfl, R27.live, R27.tat, .inl (SqL.of upd_same), List.nodup_nil, (fun _ h => absurd h List.not_mem_nil), fun H28 me Te Fe w28 tat28 hme mate sle => ?_⟩
  have R28 := R27.rows w28 tat28
  have lste : Least L Te Fe := by obtain ⟨_, _, _, _, _, _, l⟩ := id mate; exact l
  have lene : Te.length ≤ 10 := Nat.le_trans (Least.len_le lste Z.whole sle) (by rw [rowsC_length]; exact hC10)
  refine ⟨t, kd, me, [p, AT], L, ms, Ms, f, Te, Fe, rfl, R28.live, R28.tat, mate, by omega, fun H29 w5 lot5 w29 tat29 hw5 h29 wide5 => ?_⟩
  obtain rfl := (Z.wide_lot (lot := []) List.Pairwise.nil (fun _ h => absurd h List.not_mem_nil) sle).one wide5 fun _ _ => Iff.rfl
  have R29 := R28.rows w29 tat29
  refine ⟨line_le (Nat.zero_le _), fun e2 he2 => ⟨_, dL [], dp_l (SqL.of (same_new he2 _ _ h29)), dp_l (SqL.of upd_same), sh _, sh _, _, rfl, ifF (by rw [(eq_dL [] []).mpr rfl]; rfl) ?_⟩⟩
  have R30 := R29.same (same_new (o := .lst []) he2)
  -- widened(table, machines[0]) == passed(table, 0)
  obtain ⟨M0, hM0⟩ := get_some (show 0 < Ms.length by omega)
  obtain ⟨m0, hm0e⟩ := get_some (show 0 < ms.length by omega)
  have k2530 : Same (Wo [AT, kd, p] H25) (Wo [AT, kd, p] (upd H29 e2 (.lst []))) := Same.trans (wo_more w26 (by simp)) (Same.trans (wo_new hel) (Same.trans (wo_more w28 (by simp)) (Same.trans (wo_more w29 (by simp)) (wo_new he2))))
  have k30 : Same (Wo [AT, kd, p] H7) (Wo [AT, kd, p] (upd H29 e2 (.lst []))) := Same.trans r10 (Same.trans k1025 k2530)
  generalize upd H29 e2 (.lst []) = H30 at R30 k30 ⊢
  have h30D : H30 D = some (.lst (ms.map V.ref)) := wo_at k30 h7D (by simp [Dp_, DA, Dk])
  refine ⟨_, rfl, _, rfl, D, _, _, _, rfl, rfl, SqL.of h30D, atI_nat (j := 0) (by rw [List.getElem?_map, hm0e]; rfl), t, kd, m0, [p, AT], L, ms, Ms, f, M0.1, M0.2, rfl, R30.live, R30.tat, ((mac7 0 m0 M0 hm0e hM0).mono k30).mono (wo_same _ _), hM60 M0 (List.mem_of_getElem? hM0), fun H31 w6 due6 w31 tat31 hw6 h31 wide6 => ?_⟩
  obtain rfl := (Z.wide_lot (passedL_up f 0 M0.2) (passedL_lt f 0 M0.2) fun x hx => Z.passed hM0 hx).one wide6 fun _ _ => Iff.rfl
  have R31 := R30.rows w31 tat31
  refine ⟨_, rfl, t, kd, 0, L, ms, Ms, f, M0, rfl, R31.tat.mono (wo_same _ _), hM0, fun H32 pq2 s32 hpq2 h32 => ⟨_, _, dp_l (SqL.of (s32 _ _ h31)), dp_l (SqL.of h32), sh _, sh _, ?_⟩⟩
  rw [(eq_dL _ _).mpr rfl]
  exact k H32
end
end M22

set_option maxRecDepth 100000
set_option maxHeartbeats 4000000
namespace M22
open PySem PySem.Spec PyProof.Rows L2 LamX
section
variable {P : Program} {w : World} {K : PySem.W.Frag} {mg : Str → Option Value} {base : Heap} {CM CT AT : Addr}
def spLaw (K : PySem.W.Frag) (AT : Addr) : Sp := fun vs H Q _ => ∃ (a : Addr) (ns : List Int), vs = [.ref a] ∧ SqL K H a (ns.map V.int) ∧ ns.length ≤ 1000 ∧ TabS H AT lamQ ∧ ∀ H', Q (.bl true) H'
abbrev s_law : Stmt := top 88
abbrev N_law : List Str := ["_law_script"]
theorem sc_law : FnScope N_law ["_law_script"] (defScope s_law) := ⟨rfl, rfl, rfl, by decide +kernel, rfl, by decide +kernel, by decide +kernel⟩
theorem ok_law {f : Addr} {fd : FuncData} {A₀ : Around} (T : Tx K mg CM CT) (F : Fun K "law" "law" s_law f fd) (hg0 : A₀.guards = some []) (hr0 : Room 10 A₀) (D : DefAt K mg "_law_right" s__law_right) (c__law_pot : Cal P w K mg base 1 "_law_pot" ["_law_script", "_law_k"] (spPot K))
    (right : ∀ (A₁ : Around) (fr : Addr) (fdr : FuncData), Fun K "_law_right" "_law_right" s__law_right fr fdr → A₁.guards = some [] → Room 9 A₁ → FnAt P w K mg base A₁ fr fdr ["_law_pot_here"] (spRight AT)) : FnAt P w K mg base A₀ f fd ["_law_script"] (spLaw K AT) := by
  refine fnAt_of F sc_law hr0 (fun vs H Q E h => ?_) (fun cdv outer s H vs Q E h => ?_)
  · obtain ⟨_, _, rfl, _⟩ := h
    rfl
  have hr := hr0.deeper (envOfC "law" (defScope s_law) s.heap.objs.size f cdv)
  have hgd : (A₀.deeper (envOfC "law" (defScope s_law) s.heap.objs.size f cdv)).guards = some [] := hg0
  obtain ⟨fr, fdr, FR, hm⟩ := D.ex
  obtain ⟨a, ns, rfl, hs, hl, hT, k⟩ := h
  refine ⟨_, pss_one (ps_ret (pe_callAt (right _ fr fdr FR hgd hr) (by rfl) hm FR.kp (FR.binds (ps := ["_law_pot_here"]) (fun _ _ _ _ _ _ us hl => match us, hl with | [_], _ => rfl)) (pa_cons (pe_c c__law_pot hr (by decide) rfl (pa_cons (pv 0) (pa_cons pe_int pa_nil))) pa_nil))), ?_⟩
  exact ⟨_, rfl, a, ns, rfl, hs, hl, fun H1 p s1 hp pt => ⟨p, rfl, pt, hT.ext s1, k⟩⟩
end
end M22

set_option maxRecDepth 100000
set_option maxHeartbeats 4000000
/-! k22: the end: what the top holds, all defs joined, the law's call. -/
namespace M22
open PySem PySem.Spec PyProof.Rows L2 LamX
/-- the def st stands by its name, in the part K of the top's heap -/
structure DefIn (K : PySem.W.Frag) (x : Str) (st : Stmt) : Prop where
  ex : ∃ (f : Addr) (oc : Value) (od an : Option Addr) (osl : Array (Option Value)) (kV doc pm cdv ct : Value), PySem.W.nsIn K mainGlobals x = some (some (.ref f)) ∧ K.lookup f = some ⟨oc, od, .func (PySem.W.fnOf x x (defArgs st) (defBody st) (defScope st) .none kV doc pm an cdv ct), osl⟩ ∧ PySem.W.codeIn K cdv x = true ∧ PySem.W.keepIn K (.ref f) = true
section
variable {K : PySem.W.Frag} {x qual : Str} {st : Stmt} {h : Heap} {mg : Str → Option Value} {f C : Addr} {oc kV doc pm cdv ct : Value} {od an : Option Addr} {osl : Array (Option Value)}
theorem defIn (a : PySem.W.nsIn K mainGlobals x = some (some (.ref f))) (l : K.lookup f = some ⟨oc, od, .func (PySem.W.fnOf x x (defArgs st) (defBody st) (defScope st) .none kV doc pm an cdv ct), osl⟩) (c : PySem.W.codeIn K cdv x = true) (k : PySem.W.keepIn K (.ref f) = true) : DefIn K x st := ⟨⟨f, oc, od, an, osl, kV, doc, pm, cdv, ct, a, l, c, k⟩⟩
theorem DefIn.at_ (D : DefIn K x st) (X : K.In h) (G : h.Ns mainGlobals mg) : DefAt K mg x st := by
  obtain ⟨f, oc, od, an, osl, kV, doc, pm, cdv, ct, a, l, c, k⟩ := D.ex
  exact ⟨⟨f, _, fun_mk l c k, PySem.W.mg_of X G a⟩⟩
theorem defInC {cc : Addr} (X : K.In h) (G : h.Ns mainGlobals mg) (a : PySem.W.nsIn K mainGlobals x = some (some (.ref f))) (l : K.lookup f = some ⟨oc, od, .func (PySem.W.fnOf x x (defArgs st) (defBody st) (defScope st) .none kV doc pm an (.ref cc) ct), osl⟩) (c : PySem.W.codeIn K (.ref cc) x = true) (k : PySem.W.keepIn K (.ref f) = true) : DefAtC K mg x st cc :=
  ⟨⟨f, oc, od, kV, doc, pm, an, ct, osl, l, c, k, PySem.W.mg_of X G a⟩⟩
theorem initIn (a : PySem.W.findIn K (.ref C) "__init__" = some (some (.ref f))) (i : PySem.W.isFn K (.ref f) = true) (l : K.lookup f = some ⟨oc, od, .func (PySem.W.fnOf "__init__" qual (defArgs st) (defBody st) (defScope st) .none kV doc pm an cdv ct), osl⟩) (c : PySem.W.codeIn K cdv qual = true) (k : PySem.W.keepIn K (.ref f) = true)
    (m : PySem.W.makesIn K C = true) (kc : PySem.W.keepIn K (.ref C) = true) : InitAt K C qual st := ⟨⟨f, _, fun_mk l c k, ⟨m, a, i, kc⟩⟩⟩
theorem eqIn (a : PySem.W.findIn K (.ref C) "__eq__" = some (some (.ref f))) (i : PySem.W.isFn K (.ref f) = true) (l : K.lookup f = some ⟨oc, od, .func (PySem.W.fnOf "__eq__" qual (defArgs st) (defBody st) (defScope st) .none kV doc pm an cdv ct), osl⟩) (c : PySem.W.codeIn K cdv qual = true) (k : PySem.W.keepIn K (.ref f) = true)
    (ne : PySem.W.findIn K (.ref C) "__ne__" = some (some (.builtin "object.__ne__"))) (s : PySem.W.subIn K (.ref C) (.type "object") = some true) : EqAt K C qual st := ⟨⟨f, _, fun_mk l c k, ⟨ne, a, i, s⟩⟩⟩
theorem insC (pg : PySem.W.plainGet K C Str.empty = true) (hd : PySem.W.hasDictIn K C = true) (po : PySem.W.plainOver K C = true) (sa : PySem.W.findIn K (.ref C) "__setattr__" = some (some (.builtin "object.__setattr__")))
    (ha : PySem.W.findIn K (.ref C) "__class__" = some (some (.builtin "object.__class__"))) (hn : PySem.W.specialIn K (.builtin "object.__class__") "__get__" = some (some (.builtin "getset_descriptor.__get__"))) (ht : PySem.W.takesIn K (.builtin "object.__class__") = some true)
    (hm : PySem.W.mroIn K C (.type "object") = some true) : InsC K C := ⟨⟨pg, hd, po, sa⟩, ha, hn, ht, hm, by unfold PySem.W.kitOne; rw [if_pos (beq_self_eq_true _)]⟩
end

theorem cI {K : PySem.W.Frag} {x : Str} {i : Int} {t : Tok} (e : PySem.W.nsIn K mainGlobals x = some (some (.int i t))) : ∃ t, PySem.W.nsIn K mainGlobals x = some (some (.int i t)) := ⟨t, e⟩
theorem cS {K : PySem.W.Frag} {x z : Str} {t : Tok} (e : PySem.W.nsIn K mainGlobals x = some (some (.str z t))) : ∃ t, PySem.W.nsIn K mainGlobals x = some (some (.str z t)) := ⟨t, e⟩
/-- what the defs ask of the top, told of its part -/
structure TxIn (K : PySem.W.Frag) (CM CT : Addr) : Prop where
  f_len : PySem.W.nsIn K mainGlobals "len" = some none
  f_isinstance : PySem.W.nsIn K mainGlobals "isinstance" = some none
  f_int : PySem.W.nsIn K mainGlobals "int" = some none
  f_bool : PySem.W.nsIn K mainGlobals "bool" = some none
  f_str : PySem.W.nsIn K mainGlobals "str" = some none
  f_list : PySem.W.nsIn K mainGlobals "list" = some none
  f_tuple : PySem.W.nsIn K mainGlobals "tuple" = some none
  f_all : PySem.W.nsIn K mainGlobals "all" = some none
  f_set : PySem.W.nsIn K mainGlobals "set" = some none
  f_sorted : PySem.W.nsIn K mainGlobals "sorted" = some none
  f_range : PySem.W.nsIn K mainGlobals "range" = some none
  f_zip : PySem.W.nsIn K mainGlobals "zip" = some none
  f_enumerate : PySem.W.nsIn K mainGlobals "enumerate" = some none
  f_sum : PySem.W.nsIn K mainGlobals "sum" = some none
  f_abs : PySem.W.nsIn K mainGlobals "abs" = some none
  f_max : PySem.W.nsIn K mainGlobals "max" = some none
  f_divmod : PySem.W.nsIn K mainGlobals "divmod" = some none
  f_repr : PySem.W.nsIn K mainGlobals "repr" = some none
  c_SIGNS : ∃ t, PySem.W.nsIn K mainGlobals "SIGNS" = some (some (.str "abc" t))
  c_MOST_LETTERS : ∃ t, PySem.W.nsIn K mainGlobals "MOST_LETTERS" = some (some (.int 3 t))
  c_MOST_SIGNS : ∃ t, PySem.W.nsIn K mainGlobals "MOST_SIGNS" = some (some (.int 60 t))
  c_MOST_GIVEN : ∃ t, PySem.W.nsIn K mainGlobals "MOST_GIVEN" = some (some (.int 12 t))
  c_MOST_STATES : ∃ t, PySem.W.nsIn K mainGlobals "MOST_STATES" = some (some (.int 60 t))
  c_MOST_MACHINES : ∃ t, PySem.W.nsIn K mainGlobals "MOST_MACHINES" = some (some (.int 3 t))
  c_MOST_CLASSES : ∃ t, PySem.W.nsIn K mainGlobals "MOST_CLASSES" = some (some (.int 24 t))
  gM : PySem.W.nsIn K mainGlobals "Machine" = some (some (.ref CM))
  gT : PySem.W.nsIn K mainGlobals "Table" = some (some (.ref CT))
  iM : InsC K CM
  iT : InsC K CT
  mL : PySem.W.findIn K (.ref CM) "own_letters" = some none
  mS : PySem.W.findIn K (.ref CM) "own_steps" = some none
  mE : PySem.W.findIn K (.ref CM) "own_ends" = some none
  tL : PySem.W.findIn K (.ref CT) "own_letters" = some none
  tM : PySem.W.findIn K (.ref CT) "own_machines" = some none
  tW : PySem.W.findIn K (.ref CT) "own_words" = some none
  tC : PySem.W.findIn K (.ref CT) "own_changes" = some none
  tP : PySem.W.findIn K (.ref CT) "own_products" = some none
  tK : PySem.W.findIn K (.ref CT) "own_kept" = some none
theorem TxIn.at_ {K : PySem.W.Frag} {CM CT : Addr} {h : Heap} {mg : Str → Option Value} (t : TxIn K CM CT) (X : K.In h) (G : h.Ns mainGlobals mg) : Tx K mg CM CT where
  len := PySem.W.mg_none_of X G t.f_len
  isinstance := PySem.W.mg_none_of X G t.f_isinstance
  int := PySem.W.mg_none_of X G t.f_int
  bool := PySem.W.mg_none_of X G t.f_bool
  str := PySem.W.mg_none_of X G t.f_str
  list := PySem.W.mg_none_of X G t.f_list
  tuple := PySem.W.mg_none_of X G t.f_tuple
  all := PySem.W.mg_none_of X G t.f_all
  set := PySem.W.mg_none_of X G t.f_set
  sorted := PySem.W.mg_none_of X G t.f_sorted
  range := PySem.W.mg_none_of X G t.f_range
  zip := PySem.W.mg_none_of X G t.f_zip
  enumerate := PySem.W.mg_none_of X G t.f_enumerate
  sum := PySem.W.mg_none_of X G t.f_sum
  abs := PySem.W.mg_none_of X G t.f_abs
  max := PySem.W.mg_none_of X G t.f_max
  divmod := PySem.W.mg_none_of X G t.f_divmod
  repr := PySem.W.mg_none_of X G t.f_repr
  SIGNS := by
    obtain ⟨u, e⟩ := t.c_SIGNS
    exact ⟨_, PySem.W.mg_of X G e, ⟨u, rfl⟩⟩
  MOST_LETTERS := by
    obtain ⟨u, e⟩ := t.c_MOST_LETTERS
    exact ⟨_, PySem.W.mg_of X G e, ⟨u, rfl⟩⟩
  MOST_SIGNS := by
    obtain ⟨u, e⟩ := t.c_MOST_SIGNS
    exact ⟨_, PySem.W.mg_of X G e, ⟨u, rfl⟩⟩
  MOST_GIVEN := by
    obtain ⟨u, e⟩ := t.c_MOST_GIVEN
    exact ⟨_, PySem.W.mg_of X G e, ⟨u, rfl⟩⟩
  MOST_STATES := by
    obtain ⟨u, e⟩ := t.c_MOST_STATES
    exact ⟨_, PySem.W.mg_of X G e, ⟨u, rfl⟩⟩
  MOST_MACHINES := by
    obtain ⟨u, e⟩ := t.c_MOST_MACHINES
    exact ⟨_, PySem.W.mg_of X G e, ⟨u, rfl⟩⟩
  MOST_CLASSES := by
    obtain ⟨u, e⟩ := t.c_MOST_CLASSES
    exact ⟨_, PySem.W.mg_of X G e, ⟨u, rfl⟩⟩
  Machine := PySem.W.mg_of X G t.gM
  Table := PySem.W.mg_of X G t.gT
  iM := t.iM
  iT := t.iT
  mL := t.mL
  mS := t.mS
  mE := t.mE
  tL := t.tL
  tM := t.tM
  tW := t.tW
  tC := t.tC
  tP := t.tP
  tK := t.tK
/-- all defs of the text that the law reaches -/
structure AllIn (K : PySem.W.Frag) (CM CT : Addr) : Prop where
  tx : TxIn K CM CT
  d_is_integer : DefIn K "is_integer" s_is_integer
  d_is_count : DefIn K "is_count" s_is_count
  d_is_list : DefIn K "is_list" s_is_list
  d_want_at_most : DefIn K "want_at_most" s_want_at_most
  d_want_letters : DefIn K "want_letters" s_want_letters
  d_is_word_of : DefIn K "is_word_of" s_is_word_of
  d_want_word : DefIn K "want_word" s_want_word
  d_spots : DefIn K "spots" s_spots
  d_is_class : DefIn K "is_class" s_is_class
  d_lot_in : DefIn K "lot_in" s_lot_in
  d_want_like_table : DefIn K "want_like_table" s_want_like_table
  d_change_by_letter : DefIn K "change_by_letter" s_change_by_letter
  d_class_behind_letter : DefIn K "class_behind_letter" s_class_behind_letter
  d_class_row : DefIn K "class_row" s_class_row
  d_widened_lot : DefIn K "widened_lot" s_widened_lot
  d_want_lot : DefIn K "want_lot" s_want_lot
  d_want_table : DefIn K "want_table" s_want_table
  d_want_machine : DefIn K "want_machine" s_want_machine
  d_widened : DefIn K "widened" s_widened
  d_led_to : DefIn K "led_to" s_led_to
  d_parted : DefIn K "parted" s_parted
  d_least_form : DefIn K "least_form" s_least_form
  d_are_steps : DefIn K "are_steps" s_are_steps
  d_are_ends : DefIn K "are_ends" s_are_ends
  d_least : DefIn K "least" s_least
  d_machine_of_lot : DefIn K "machine_of_lot" s_machine_of_lot
  d_lot_machine : DefIn K "lot_machine" s_lot_machine
  d_is_end : DefIn K "is_end" s_is_end
  d_first_apart : DefIn K "first_apart" s_first_apart
  d_want_like : DefIn K "want_like" s_want_like
  d_want_two : DefIn K "want_two" s_want_two
  d_is_within : DefIn K "is_within" s_is_within
  d__law_pot : DefIn K "_law_pot" s__law_pot
  d__law_draw : DefIn K "_law_draw" s__law_draw
  d__law_counting : DefIn K "_law_counting" s__law_counting
  d__law_lately : DefIn K "_law_lately" s__law_lately
  d__law_wild : DefIn K "_law_wild" s__law_wild
  d__law_filter : DefIn K "_law_filter" s__law_filter
  d__law_changed : DefIn K "_law_changed" s__law_changed
  d__law_classes : DefIn K "_law_classes" s__law_classes
  d__law_class : DefIn K "_law_class" s__law_class
  d__law_met : DefIn K "_law_met" s__law_met
  d__law_all : DefIn K "_law_all" s__law_all
  d__law_least : DefIn K "_law_least" s__law_least
  d__law_few : DefIn K "_law_few" s__law_few
  d_led : DefIn K "led" s_led
  d_is_let : DefIn K "is_let" s_is_let
  d_lets : DefIn K "lets" s_lets
  d_idle_change : DefIn K "idle_change" s_idle_change
  d_changes_behind : DefIn K "changes_behind" s_changes_behind
  d_classes_found : DefIn K "classes_found" s_classes_found
  d_want_position : DefIn K "want_position" s_want_position
  d_passed_classes : DefIn K "passed_classes" s_passed_classes
  d_passed : DefIn K "passed" s_passed
  d__law_right : DefIn K "_law_right" s__law_right
  iM : InitAt K CM "Machine.__init__" s_Machine_init
  iT : InitAt K CT "Table.__init__" s_Table_init
  eM : EqAt K CM "Machine.__eq__" s_Machine_eq
section
variable {P : Program} {w : World} {K : PySem.W.Frag} {mg : Str → Option Value} {CM CT AT cc fa : Addr} {h : Heap} {fd : FuncData}
theorem law_at (A : AllIn K CM CT) (X : K.In h) (G : h.Ns mainGlobals mg) (DW : DefAtC K mg "within_of" s_within_of cc) (F : Fun K "law" "law" s_law fa fd) (base : Heap) (TB : TabB base mg cc AT) : FnAt P w K mg base callerA fa fd ["_law_script"] (spLaw K AT) := by
  have T := A.tx.at_ X G
  have c_is_integer := ok_is_integer (P := P) (w := w) (base := base) T (A.d_is_integer.at_ X G)
  have c_is_count := ok_is_count (P := P) (w := w) (base := base) T (A.d_is_count.at_ X G) c_is_integer
  have c_is_list := ok_is_list (P := P) (w := w) (base := base) T (A.d_is_list.at_ X G)
  have c_want_at_most := ok_want_at_most (P := P) (w := w) (base := base) T (A.d_want_at_most.at_ X G)
  have c_want_letters := ok_want_letters (P := P) (w := w) (base := base) T (A.d_want_letters.at_ X G) c_is_count
  have c_is_word_of := ok_is_word_of (P := P) (w := w) (base := base) T (A.d_is_word_of.at_ X G)
  have c_want_word := ok_want_word (P := P) (w := w) (base := base) T (A.d_want_word.at_ X G) c_is_word_of
  have c_spots := ok_spots (P := P) (w := w) (base := base) T (A.d_spots.at_ X G)
  have c_is_class := ok_is_class (P := P) (w := w) (base := base) T (A.d_is_class.at_ X G) c_is_count
  have c_lot_in := ok_lot_in (P := P) (w := w) (base := base) T (A.d_lot_in.at_ X G) c_is_list c_is_class
  have c_want_like_table := ok_want_like_table (P := P) (w := w) (base := base) T (A.d_want_like_table.at_ X G)
  have c_change_by_letter := ok_change_by_letter (P := P) (w := w) (base := base) T (A.d_change_by_letter.at_ X G)
  have c_class_behind_letter := ok_class_behind_letter (P := P) (w := w) (base := base) T (A.d_class_behind_letter.at_ X G) c_change_by_letter
  have c_class_row := ok_class_row (P := P) (w := w) (base := base) T (A.d_class_row.at_ X G) c_class_behind_letter
  have c_widened_lot := ok_widened_lot (P := P) (w := w) (base := base) T (A.d_widened_lot.at_ X G) c_class_row
  have c_want_lot := ok_want_lot (P := P) (w := w) (base := base) T (A.d_want_lot.at_ X G) c_lot_in
  have c_want_table := ok_want_table (P := P) (w := w) (base := base) T (A.d_want_table.at_ X G)
  have c_want_machine := ok_want_machine (P := P) (w := w) (base := base) T (A.d_want_machine.at_ X G)
  have c_widened := ok_widened (P := P) (w := w) (base := base) T (A.d_widened.at_ X G) c_want_table c_want_machine c_want_like_table c_widened_lot
  have c_led_to := ok_led_to (P := P) (w := w) (base := base) T (A.d_led_to.at_ X G)
  have c_parted := ok_parted (P := P) (w := w) (base := base) T (A.d_parted.at_ X G)
  have c_least_form := ok_least_form (P := P) (w := w) (base := base) T (A.d_least_form.at_ X G) c_led_to c_parted
  have c_are_steps := ok_are_steps (P := P) (w := w) (base := base) T (A.d_are_steps.at_ X G) c_is_list c_is_count
  have c_are_ends := ok_are_ends (P := P) (w := w) (base := base) T (A.d_are_ends.at_ X G) c_is_list c_is_count
  have c_Machine := ok_Machine_init (P := P) (w := w) (base := base) T A.iM c_want_letters c_are_steps c_are_ends c_least_form
  have c_least := ok_least (P := P) (w := w) (base := base) T (A.d_least.at_ X G) c_least_form c_want_at_most c_Machine
  have c_machine_of_lot := ok_machine_of_lot (P := P) (w := w) (base := base) T (A.d_machine_of_lot.at_ X G) c_least c_class_row
  have c_lot_machine := ok_lot_machine (P := P) (w := w) (base := base) T (A.d_lot_machine.at_ X G) c_want_table c_machine_of_lot c_want_lot
  have c_is_end := ok_is_end (P := P) (w := w) (base := base) T (A.d_is_end.at_ X G)
  have c_first_apart := ok_first_apart (P := P) (w := w) (base := base) T (A.d_first_apart.at_ X G) c_is_end
  have c_want_like := ok_want_like (P := P) (w := w) (base := base) T (A.d_want_like.at_ X G)
  have c_want_two := ok_want_two (P := P) (w := w) (base := base) T (A.d_want_two.at_ X G) c_want_machine c_want_like
  have c_within_of := ok_within_of (P := P) (w := w) (base := base) T DW TB c_first_apart
  have c_is_within := ok_is_within (P := P) (w := w) (base := base) T (A.d_is_within.at_ X G) c_want_two c_within_of
  have c__law_pot := ok__law_pot (P := P) (w := w) (base := base) T (A.d__law_pot.at_ X G)
  have c__law_draw := ok__law_draw (P := P) (w := w) (base := base) T (A.d__law_draw.at_ X G)
  have c__law_counting := ok__law_counting (P := P) (w := w) (base := base) T (A.d__law_counting.at_ X G) c__law_draw
  have c__law_lately := ok__law_lately (P := P) (w := w) (base := base) T (A.d__law_lately.at_ X G) c__law_draw
  have c__law_wild := ok__law_wild (P := P) (w := w) (base := base) T (A.d__law_wild.at_ X G) c__law_draw
  have c__law_filter := ok__law_filter (P := P) (w := w) (base := base) T (A.d__law_filter.at_ X G) c__law_draw c__law_counting c__law_lately c__law_wild
  have c__law_changed := ok__law_changed (P := P) (w := w) (base := base) T (A.d__law_changed.at_ X G)
  have c__law_classes := ok__law_classes (P := P) (w := w) (base := base) T (A.d__law_classes.at_ X G) c__law_changed
  have c__law_class := ok__law_class (P := P) (w := w) (base := base) T (A.d__law_class.at_ X G) c__law_changed
  have c__law_met := ok__law_met (P := P) (w := w) (base := base) T (A.d__law_met.at_ X G) c__law_changed
  have c__law_all := ok__law_all (P := P) (w := w) (base := base) T (A.d__law_all.at_ X G)
  have c__law_least := ok__law_least (P := P) (w := w) (base := base) T (A.d__law_least.at_ X G)
  have c__law_few := ok__law_few (P := P) (w := w) (base := base) T (A.d__law_few.at_ X G) c__law_filter c__law_least c__law_classes
  have c_led := ok_led (P := P) (w := w) (base := base) T (A.d_led.at_ X G) c_spots
  have c_is_let := ok_is_let (P := P) (w := w) (base := base) T (A.d_is_let.at_ X G) c_is_end c_led
  have c_lets := ok_lets (P := P) (w := w) (base := base) T (A.d_lets.at_ X G) c_want_machine c_is_let c_want_word
  have c_idle_change := ok_idle_change (P := P) (w := w) (base := base) T (A.d_idle_change.at_ X G)
  have c_changes_behind := ok_changes_behind (P := P) (w := w) (base := base) T (A.d_changes_behind.at_ X G)
  have c_classes_found := ok_classes_found (P := P) (w := w) (base := base) T (A.d_classes_found.at_ X G) c_idle_change c_change_by_letter
  have c_Table := ok_Table_init (P := P) (w := w) (base := base) T A.iT c_is_list c_classes_found c_changes_behind
  have c_want_position := ok_want_position (P := P) (w := w) (base := base) T (A.d_want_position.at_ X G) c_is_count
  have c_passed_classes := ok_passed_classes (P := P) (w := w) (base := base) T (A.d_passed_classes.at_ X G)
  have c_passed := ok_passed (P := P) (w := w) (base := base) T (A.d_passed.at_ X G) c_want_table c_want_position c_passed_classes
  have eqM := ok_Machine_eq (P := P) (w := w) (base := base) T A.eM
  exact ok_law T F rfl ⟨rfl, by decide, by decide⟩ (A.d__law_right.at_ X G) c__law_pot fun A1 fr fdr FR g1 r1 => ok__law_right T FR g1 r1 eqM (A.d_lot_machine.at_ X G) (A.d_widened.at_ X G) c__law_draw c__law_few c__law_classes c_Machine c_Table c_lot_machine c__law_all c_lets c__law_class c_passed c__law_filter c__law_met c_widened c_is_within
end
end M22

set_option maxRecDepth 100000
set_option maxHeartbeats 4000000
/-! k22: the end: the law's call from the one that asks, told at its place of the stack; one table of code objects. -/
namespace M22
open PySem PySem.Spec PyProof.Rows L2 LamX
abbrev tab0 : Obj := { cls := .none, data := .fields #[] }
abbrev scr (vs : List Value) : Obj := { cls := .type "list", data := .seq vs.toArray }
section
variable {P : Program} {w : World} {K : PySem.W.Frag} {mg mb : Str → Option Value} {fa a c T : Addr} {fd : FuncData} {x : Str} {sp : Sp} {s : Shared} {vs : List Value} {ns : List Int} {H : Hp}
/-- what may be told of at the law's call: the script, if the part K has it not, and the table -/
def Told (K : PySem.W.Frag) (a T : Addr) (vs : List Value) (ns : List Int) (H : Hp) : Prop := ∀ (b : Addr) (o : HO), H b = some o → (b = T ∧ o = .tbl #[]) ∨ (b = a ∧ K.lookup a = none ∧ o = .frz (scr vs) (.lst (ns.map V.int)))
theorem Told.not (t : Told K a T vs ns H) {b : Addr} (h1 : b ≠ T) (h2 : b ≠ a) : H b = none := by
  cases q : H b with
  | none => rfl
  | some o =>
    rcases t b o q with z | z
    · exact absurd z.1 h1
    · exact absurd z.1 h2
theorem told_env (t : Told K a T vs ns H) (KX : K.In s.heap) (hns : s.heap.Ns mainGlobals mg) (hb : s.heap.Ns builtinsNs mb) (hbb : ∀ x : Str, x ≠ "__name__" → mb x = bootBuiltins x) (lim : s.heap.NoLimit) (hg : s.gens = #[])
    (hT : s.heap.get? T = some tab0) (nT : K.lookup T = none) (ha : s.heap.get? a = some (scr vs)) (hi : IntsAre vs ns) (hl : ns.length ≤ sizeLine) : Env0 P w K mg (hidT s.heap H) callerA [] s H := by
  have ent : ∀ {b : Addr} {o : Obj} {es : Array DictEntry} {ep : Nat}, s.heap.get? b = some o → o.data = .dict es ep → (hidT s.heap H).get? b = some o := fun {b o es ep} e d => by
    refine hidT_get e (t.not (fun z => ?_) fun z => ?_)
    · rw [z, hT] at e
      cases e
      cases d
    · rw [z, ha] at e
      cases e
      cases d
  have nsp : ∀ {b : Addr} {m : Str → Option Value}, s.heap.Ns b m → (hidT s.heap H).Ns b m := fun {b m} ⟨o, es, ep, e, d, r⟩ => ⟨o, es, ep, ent e d, d, r⟩
  obtain ⟨mc, l1, l2⟩ := lim
  refine ⟨rfl, ⟨fun b o e => hidT_get (KX b o e) ?_, nsp hns, ⟨mb, nsp hb, hbb⟩, ⟨mc, nsp l1, l2⟩⟩, fun b o e => of_hidT e, Nat.le_of_eq (hidT_size _ _), trivial, (fun b z => nomatch z), fun b o e => ?_, .of_eq hg⟩
  · cases q : H b with
    | none => rfl
    | some u =>
      rcases t b u q with ⟨z, _⟩ | ⟨z, n, _⟩
      · rw [z, nT] at e; cases e
      · rw [z, n] at e; cases e
  · rcases t b o e with ⟨z, y⟩ | ⟨z, _, y⟩
    · rw [z, y]
      exact hT
    · rw [z, y]
      exact ⟨ha, by rw [List.length_map]; exact hl, vs, _, vals_ints hi, ha⟩
theorem told_tab (t : Told K a T vs ns H) (hns : s.heap.Ns mainGlobals mg) (hT : s.heap.get? T = some tab0) (C : PySem.W.CodeHd s.heap c T) (ha : s.heap.get? a = some (scr vs))
    (hbm : ∃ (bm : Addr) (ob : Obj), mg "__builtins__" = some (.ref bm) ∧ bm ≠ builtinsNs ∧ s.heap.get? bm = some ob ∧ ob.cls = .type "module" ∧ ob.dict = some builtinsNs ∧ ob.data = .plain) : TabB (hidT s.heap H) mg c T := by
  refine ⟨?_, ?_, fun z => ?_⟩
  · obtain ⟨o, us, f, tf, fl, tg, i, n, tt, e, y1, y2, y3, y4, y5, y6, y7, y8, ne⟩ := C
    refine ⟨o, us, f, tf, fl, tg, i, n, tt, hidT_get e (t.not ne fun z => ?_), y1, y2, y3, y4, y5, y6, y7, y8, ne⟩
    rw [z, ha] at e
    cases e
    cases y2
  · obtain ⟨bm, ob, y1, y2, e, y4, y5, y6⟩ := hbm
    have n1 : bm ≠ T := fun z => by
      rw [z, hT] at e
      cases e
      cases y6
    have n2 : bm ≠ a := fun z => by
      rw [z, ha] at e
      cases e
      cases y6
    have n3 : bm ≠ mainGlobals := fun z => by
      obtain ⟨o, es, ep, e2, d, _⟩ := hns
      rw [z, e2] at e
      cases e
      rw [d] at y6
      cases y6
    exact ⟨bm, ob, y1, y2, n3, n1, hidT_get e (t.not n1 n2), y4, y5, y6⟩
  · obtain ⟨o, es, ep, e, d, _⟩ := hns
    rw [z, hT] at e
    cases e
    cases d
theorem told_call (t : Told K a T vs ns H) (hH : H T = some (.tbl #[])) (hs : SqL K H a (ns.map V.int)) (KX : K.In s.heap) (hns : s.heap.Ns mainGlobals mg) (hb : s.heap.Ns builtinsNs mb) (hbb : ∀ x : Str, x ≠ "__name__" → mb x = bootBuiltins x) (lim : s.heap.NoLimit) (hg : s.gens = #[])
    (hT : s.heap.get? T = some tab0) (nT : K.lookup T = none) (C : PySem.W.CodeHd s.heap c T) (hbm : ∃ (bm : Addr) (ob : Obj), mg "__builtins__" = some (.ref bm) ∧ bm ≠ builtinsNs ∧ s.heap.get? bm = some ob ∧ ob.cls = .type "module" ∧ ob.dict = some builtinsNs ∧ ob.data = .plain)
    (ha : s.heap.get? a = some (scr vs)) (hi : IntsAre vs ns) (hl : ns.length ≤ sizeLine) (F : ∀ base : Heap, TabB base mg c T → FnAt P w K mg base callerA fa fd [x] sp) (bind : ∀ (s : Shared) (u : Value), BindsTo s fd ⟨[u], []⟩ [(x, u)])
    (hsp : sp [.ref a] H (fun v _ => v = .bl true) fun _ _ _ => False) : codeAny (model P w) callerA (.call (.ref fa) ⟨[.ref a], []⟩) (fun r s' => r = .ok (.ret (.bool true)) ∧ OldK s.heap s'.heap ∧ s'.os = s.os ∧ AllBare s'.gens) s := by
  refine codeAny_mono ((F _ (told_tab t hns hT C ha hbm)).run [] s H ⟨[.ref a], []⟩ [.ref a] [.ref a] _ _ (told_env t KX hns hb hbb lim hg hT nT ha hi hl) (bind s (.ref a)) (.cons rfl .nil) hsp) fun r s' h => ?_
  cases r with
  | error e => exact False.elim h
  | ok fl =>
    cases fl with
    | next => exact False.elim h
    | brk => exact False.elim h
    | cont => exact False.elim h
    | ret u =>
      obtain ⟨v, H', os, bare, un, hok, rv, ev⟩ := h
      have ev : v = .bl true := ev
      subst ev
      obtain rfl : u = Value.bool true := rv
      have same : ∀ b o, b ≠ T → s.heap.get? b = some o → s'.heap.get? b = some o := fun b o n e => by
        cases q : H b with
        | none => exact un.keep b o e q (fun z => nomatch z) (fun z => nomatch z)
        | some y =>
          rcases t b y q with z | ⟨z, _, y2⟩
          · exact absurd z.1 n
          · rw [y2] at q
            obtain ⟨e2, _⟩ := hok b _ (un.frzs b _ _ q)
            rw [z, ha] at e
            rw [← e]
            exact e2
      obtain ⟨more, e3⟩ := un.tbls T #[] hH
      have eT : s'.heap.get? T = some { cls := .none, data := .fields (#[] ++ more) } := hok T _ e3
      refine ⟨rfl, ⟨fun b o e => ?_, fun b o e => ?_⟩, os, bare⟩
      · by_cases z : b = T
        · subst z
          rw [hT] at e
          cases e
          exact .inr (.inl ⟨(C.tab hT).isCodeTable, rfl, #[], more, rfl, eT⟩)
        · exact .inl (same b o z e)
      · by_cases z : b = T
        · exact ⟨_, by rw [z]; exact eT⟩
        · exact ⟨o, same b o z e⟩
/-- what the head's heap says of the law -/
def LawIn (l : PySem.W.OpenLaw) (w : World) (K : PySem.W.Frag) (mg : Str → Option Value) (fa : Addr) (h : Heap) : Prop := ∃ (fd : FuncData) (c T : Addr), h.get? T = some tab0 ∧ K.lookup T = none ∧ PySem.W.CodeHd h c T ∧ (∀ (s : Shared) (u : Value), BindsTo s fd ⟨[u], []⟩ [("_law_script", u)]) ∧
  ∀ base : Heap, TabB base mg c T → FnAt l.prog w K mg base callerA fa fd ["_law_script"] (spLaw K T)
theorem tabS_0 {q : Str} (h : H T = some (.tbl #[])) : TabS H T q := ⟨#[], h, trivial, fun pos cv e => nomatch e⟩
theorem walk_in {l : PySem.W.OpenLaw} {q : Program} {loose : List Str} {XP : (Str → Option Value) → Heap → Prop} {YP : World → Heap → Prop} {d : DefRec} {K : Params → PySem.W.Frag} (hn : l.most = some 63) (hdf : d.params.defaults = []) (hY : ∀ (w : World) (h : Heap), YP w h → (K w.params).In h)
    (F : ∀ (w : World) (mg : Str → Option Value) (fa : Addr) (h : Heap), YP w h → (K w.params).In h → h.Ns mainGlobals mg → mg d.name = some (.ref fa) → LawIn l w (K w.params) mg fa h) : PySem.W.WalkO q loose XP YP l.row.toRowW d [] (fun f vs => PySem.call f vs) := by
  refine Att.attach_callB hn hdf fun w s0 s mg mb fa o pm cd doc a vs ns G Y ho hd hcd hmg hobj hi hl _ hg => ?_
  have KX := hY w _ Y
  obtain ⟨fd, c, T, hT, nT, C, bind, FA⟩ := F w mg fa _ Y KX G.T.g hmg
  have hl2 : ns.length ≤ sizeLine := Nat.le_trans hl (by decide)
  have aT : a ≠ T := fun z => by
    rw [z, hT] at hobj
    cases hobj
  have sp : ∀ H : Hp, H T = some (.tbl #[]) → SqL (K w.params) H a (ns.map V.int) → spLaw (K w.params) T [.ref a] H (fun v _ => v = .bl true) fun _ _ _ => False := fun H h1 h2 => ⟨a, ns, rfl, h2, by omega, tabS_0 h1, fun _ => rfl⟩
  cases hk : (K w.params).lookup a with
  | some oa =>
    have ea := KX a oa hk
    rw [hobj] at ea
    cases ea
    have tl : (fun b => if b = T then some (HO.tbl #[]) else none : Hp) T = some (.tbl #[]) := if_pos rfl
    have sq : SqL (K w.params) (fun b => if b = T then some (HO.tbl #[]) else none : Hp) a (ns.map V.int) := .inr ⟨_, vs.toArray, _, hk, rfl, rfl, rfl, by rw [List.size_toArray, hi.length]; exact hl2, by simpa using vals_ints hi⟩
    exact told_call (fun b o e => by
      by_cases z : b = T
      · exact .inl ⟨z, by have e := (if_pos z).symm.trans e; cases e; rfl⟩
      · have e := (if_neg z).symm.trans e; cases e) tl sq KX G.T.g G.T.b G.T.builtins G.T.nolimit hg hT nT C G.T.bmain hobj hi hl2 FA bind (sp _ tl sq)
  | none =>
    have tl : (fun b => if b = T then some (HO.tbl #[]) else if b = a then some (.frz (scr vs) (.lst (ns.map V.int))) else none : Hp) T = some (.tbl #[]) := if_pos rfl
    have sq : SqL (K w.params) (fun b => if b = T then some (HO.tbl #[]) else if b = a then some (.frz (scr vs) (.lst (ns.map V.int))) else none : Hp) a (ns.map V.int) := .inl (.inr ⟨scr vs, (if_neg aT).trans (if_pos rfl)⟩)
    exact told_call (fun b o e => by
      by_cases z : b = T
      · exact .inl ⟨z, by have e := (if_pos z).symm.trans e; cases e; rfl⟩
      · have e := (if_neg z).symm.trans e
        by_cases y : b = a
        · exact .inr ⟨y, hk, by have e := (if_pos y).symm.trans e; cases e; rfl⟩
        · have e := (if_neg y).symm.trans e; cases e) tl sq KX G.T.g G.T.b G.T.builtins G.T.nolimit hg hT nT C G.T.bmain hobj hi hl2 FA bind (sp _ tl sq)
end
end M22

set_option maxRecDepth 100000
set_option maxHeartbeats 4000000
namespace M22
open PySem PySem.Spec PyProof.Rows L2 LamX
theorem law_in {l : PySem.W.OpenLaw} {w : World} {K : PySem.W.Frag} {mg : Str → Option Value} {fa : Addr} {h : Heap} {CM CT cc T fw fl : Addr} {oc kV doc pm ct oc2 kV2 doc2 pm2 cd2 ct2 : Value} {od an od2 an2 : Option Addr} {osl osl2 : Array (Option Value)} (KX : K.In h) (G : h.Ns mainGlobals mg) (hfa : mg "law" = some (.ref fa))
    (_ : PySem.W.nsIn K mainGlobals "Machine" = some (some (.ref CM))) (_ : PySem.W.nsIn K mainGlobals "Table" = some (some (.ref CT)))
    (wa : PySem.W.nsIn K mainGlobals "within_of" = some (some (.ref fw))) (wl : K.lookup fw = some ⟨oc, od, .func (PySem.W.fnOf "within_of" "within_of" (defArgs s_within_of) (defBody s_within_of) (defScope s_within_of) .none kV doc pm an (.ref cc) ct), osl⟩) (wc : PySem.W.codeIn K (.ref cc) "within_of" = true) (wk : PySem.W.keepIn K (.ref fw) = true)
    (la : PySem.W.nsIn K mainGlobals "law" = some (some (.ref fl))) (ll : K.lookup fl = some ⟨oc2, od2, .func (PySem.W.fnOf "law" "law" (defArgs s_law) (defBody s_law) (defScope s_law) .none kV2 doc2 pm2 an2 cd2 ct2), osl2⟩) (lc : PySem.W.codeIn K cd2 "law" = true) (lk : PySem.W.keepIn K (.ref fl) = true)
    (hT : h.get? T = some tab0) (nT : K.lookup T = none) (C : PySem.W.codeHdIn K cc T = true) (A : AllIn K CM CT) : LawIn l w K mg fa h := by
  have e := hfa.symm.trans (PySem.W.mg_of KX G la)
  cases e
  have FL := fun_mk (st := s_law) ll lc lk
  exact ⟨_, cc, T, hT, nT, PySem.W.codeHd_of_K KX C, fun s u => .of_eq rfl, fun base TB => law_at A KX G (defInC KX G wa wl wc wk) FL base TB⟩
end M22

open PySem PySem.W PyProof.Rows in
set_option maxRecDepth 100000 in
set_option maxHeartbeats 0 in
theorem PySem.Challenge.cw_widefills_k22_whole_lots_as_machines_and_holds : PySem.Challenge.rw_widefills_k22_whole_lots_as_machines_and.Holds := by
  w_on; o_law; k_head; (case hw => w_witness2)
  k_fill
  refine M22.walk_in (l := PySem.Challenge.rw_widefills_k22_whole_lots_as_machines_and) rfl rfl (fun w h Y => PySem.W.km_in_of Y) ?F
  case F =>
    intro w mg fa h Y KX G hmg
    refine' M22.law_in KX G hmg ?gM ?gT ?wa ?wl ?wc ?wk ?la ?ll ?lc ?lk (PySem.W.km_tabs_of Y _ List.mem_cons_self) ?nT ?hC ?A
    (case gM => k_is)
    (case gT => k_is)
    (case wa => k_is)
    (case wl => k_is)
    (case wc => k_is)
    (case wk => k_is)
    (case la => k_is)
    (case ll => k_is)
    (case lc => k_is)
    (case lk => k_is)
    (case nT => kernel_rfl)
    (case hC => kernel_rfl)
    case A =>
      refine' ⟨?tx, ?d_is_integer, ?d_is_count, ?d_is_list, ?d_want_at_most, ?d_want_letters, ?d_is_word_of, ?d_want_word, ?d_spots, ?d_is_class, ?d_lot_in, ?d_want_like_table, ?d_change_by_letter, ?d_class_behind_letter, ?d_class_row, ?d_widened_lot, ?d_want_lot, ?d_want_table, ?d_want_machine, ?d_widened, ?d_led_to, ?d_parted, ?d_least_form, ?d_are_steps, ?d_are_ends, ?d_least, ?d_machine_of_lot, ?d_lot_machine, ?d_is_end, ?d_first_apart, ?d_want_like, ?d_want_two, ?d_is_within, ?d__law_pot, ?d__law_draw, ?d__law_counting, ?d__law_lately, ?d__law_wild, ?d__law_filter, ?d__law_changed, ?d__law_classes, ?d__law_class, ?d__law_met, ?d__law_all, ?d__law_least, ?d__law_few, ?d_led, ?d_is_let, ?d_lets, ?d_idle_change, ?d_changes_behind, ?d_classes_found, ?d_want_position, ?d_passed_classes, ?d_passed, ?d__law_right, ?iM, ?iT, ?eM⟩
      case tx =>
        refine' ⟨?f0, ?f1, ?f2, ?f3, ?f4, ?f5, ?f6, ?f7, ?f8, ?f9, ?f10, ?f11, ?f12, ?f13, ?f14, ?f15, ?f16, ?f17, (M22.cS ?c0), (M22.cI ?c1), (M22.cI ?c2), (M22.cI ?c3), (M22.cI ?c4), (M22.cI ?c5), (M22.cI ?c6), ?hM, ?hT, ?jM, ?jT, ?n0, ?n1, ?n2, ?n3, ?n4, ?n5, ?n6, ?n7, ?n8⟩
        (case f0 => k_is)
        (case f1 => k_is)
        (case f2 => k_is)
        (case f3 => k_is)
        (case f4 => k_is)
        (case f5 => k_is)
        (case f6 => k_is)
        (case f7 => k_is)
        (case f8 => k_is)
        (case f9 => k_is)
        (case f10 => k_is)
        (case f11 => k_is)
        (case f12 => k_is)
        (case f13 => k_is)
        (case f14 => k_is)
        (case f15 => k_is)
        (case f16 => k_is)
        (case f17 => k_is)
        (case c0 => k_is)
        (case c1 => k_is)
        (case c2 => k_is)
        (case c3 => k_is)
        (case c4 => k_is)
        (case c5 => k_is)
        (case c6 => k_is)
        (case hM => k_is)
        (case hT => k_is)
        case jM =>
          refine' M22.insC ?x1 ?x2 ?x3 ?x4 ?x5 ?x6 ?x7 ?x8
          (case x1 => k_is)
          (case x2 => k_is)
          (case x3 => k_is)
          (case x4 => k_is)
          (case x5 => k_is)
          (case x6 => k_is)
          (case x7 => k_is)
          (case x8 => k_is)
        case jT =>
          refine' M22.insC ?x1 ?x2 ?x3 ?x4 ?x5 ?x6 ?x7 ?x8
          (case x1 => k_is)
          (case x2 => k_is)
          (case x3 => k_is)
          (case x4 => k_is)
          (case x5 => k_is)
          (case x6 => k_is)
          (case x7 => k_is)
          (case x8 => k_is)
        (case n0 => k_is)
        (case n1 => k_is)
        (case n2 => k_is)
        (case n3 => k_is)
        (case n4 => k_is)
        (case n5 => k_is)
        (case n6 => k_is)
        (case n7 => k_is)
        (case n8 => k_is)
      case d_is_integer =>
        refine' M22.defIn ?a ?l ?c ?k
        (case a => k_is)
        (case l => k_is)
        (case c => k_is)
        (case k => k_is)
      case d_is_count =>
        refine' M22.defIn ?a ?l ?c ?k
        (case a => k_is)
        (case l => k_is)
        (case c => k_is)
        (case k => k_is)
      case d_is_list =>
        refine' M22.defIn ?a ?l ?c ?k
        (case a => k_is)
        (case l => k_is)
        (case c => k_is)
        (case k => k_is)
      case d_want_at_most =>
        refine' M22.defIn ?a ?l ?c ?k
        (case a => k_is)
        (case l => k_is)
        (case c => k_is)
        (case k => k_is)
      case d_want_letters =>
        refine' M22.defIn ?a ?l ?c ?k
        (case a => k_is)
        (case l => k_is)
        (case c => k_is)
        (case k => k_is)
      case d_is_word_of =>
        refine' M22.defIn ?a ?l ?c ?k
        (case a => k_is)
        (case l => k_is)
        (case c => k_is)
        (case k => k_is)
      case d_want_word =>
        refine' M22.defIn ?a ?l ?c ?k
        (case a => k_is)
        (case l => k_is)
        (case c => k_is)
        (case k => k_is)
      case d_spots =>
        refine' M22.defIn ?a ?l ?c ?k
        (case a => k_is)
        (case l => k_is)
        (case c => k_is)
        (case k => k_is)
      case d_is_class =>
        refine' M22.defIn ?a ?l ?c ?k
        (case a => k_is)
        (case l => k_is)
        (case c => k_is)
        (case k => k_is)
      case d_lot_in =>
        refine' M22.defIn ?a ?l ?c ?k
        (case a => k_is)
        (case l => k_is)
        (case c => k_is)
        (case k => k_is)
      case d_want_like_table =>
        refine' M22.defIn ?a ?l ?c ?k
        (case a => k_is)
        (case l => k_is)
        (case c => k_is)
        (case k => k_is)
      case d_change_by_letter =>
        refine' M22.defIn ?a ?l ?c ?k
        (case a => k_is)
        (case l => k_is)
        (case c => k_is)
        (case k => k_is)
      case d_class_behind_letter =>
        refine' M22.defIn ?a ?l ?c ?k
        (case a => k_is)
        (case l => k_is)
        (case c => k_is)
        (case k => k_is)
      case d_class_row =>
        refine' M22.defIn ?a ?l ?c ?k
        (case a => k_is)
        (case l => k_is)
        (case c => k_is)
        (case k => k_is)
      case d_widened_lot =>
        refine' M22.defIn ?a ?l ?c ?k
        (case a => k_is)
        (case l => k_is)
        (case c => k_is)
        (case k => k_is)
      case d_want_lot =>
        refine' M22.defIn ?a ?l ?c ?k
        (case a => k_is)
        (case l => k_is)
        (case c => k_is)
        (case k => k_is)
      case d_want_table =>
        refine' M22.defIn ?a ?l ?c ?k
        (case a => k_is)
        (case l => k_is)
        (case c => k_is)
        (case k => k_is)
      case d_want_machine =>
        refine' M22.defIn ?a ?l ?c ?k
        (case a => k_is)
        (case l => k_is)
        (case c => k_is)
        (case k => k_is)
      case d_widened =>
        refine' M22.defIn ?a ?l ?c ?k
        (case a => k_is)
        (case l => k_is)
        (case c => k_is)
        (case k => k_is)
      case d_led_to =>
        refine' M22.defIn ?a ?l ?c ?k
        (case a => k_is)
        (case l => k_is)
        (case c => k_is)
        (case k => k_is)
      case d_parted =>
        refine' M22.defIn ?a ?l ?c ?k
        (case a => k_is)
        (case l => k_is)
        (case c => k_is)
        (case k => k_is)
      case d_least_form =>
        refine' M22.defIn ?a ?l ?c ?k
        (case a => k_is)
        (case l => k_is)
        (case c => k_is)
        (case k => k_is)
      case d_are_steps =>
        refine' M22.defIn ?a ?l ?c ?k
        (case a => k_is)
        (case l => k_is)
        (case c => k_is)
        (case k => k_is)
      case d_are_ends =>
        refine' M22.defIn ?a ?l ?c ?k
        (case a => k_is)
        (case l => k_is)
        (case c => k_is)
        (case k => k_is)
      case d_least =>
        refine' M22.defIn ?a ?l ?c ?k
        (case a => k_is)
        (case l => k_is)
        (case c => k_is)
        (case k => k_is)
      case d_machine_of_lot =>
        refine' M22.defIn ?a ?l ?c ?k
        (case a => k_is)
        (case l => k_is)
        (case c => k_is)
        (case k => k_is)
      case d_lot_machine =>
        refine' M22.defIn ?a ?l ?c ?k
        (case a => k_is)
        (case l => k_is)
        (case c => k_is)
        (case k => k_is)
      case d_is_end =>
        refine' M22.defIn ?a ?l ?c ?k
        (case a => k_is)
        (case l => k_is)
        (case c => k_is)
        (case k => k_is)
      case d_first_apart =>
        refine' M22.defIn ?a ?l ?c ?k
        (case a => k_is)
        (case l => k_is)
        (case c => k_is)
        (case k => k_is)
      case d_want_like =>
        refine' M22.defIn ?a ?l ?c ?k
        (case a => k_is)
        (case l => k_is)
        (case c => k_is)
        (case k => k_is)
      case d_want_two =>
        refine' M22.defIn ?a ?l ?c ?k
        (case a => k_is)
        (case l => k_is)
        (case c => k_is)
        (case k => k_is)
      case d_is_within =>
        refine' M22.defIn ?a ?l ?c ?k
        (case a => k_is)
        (case l => k_is)
        (case c => k_is)
        (case k => k_is)
      case d__law_pot =>
        refine' M22.defIn ?a ?l ?c ?k
        (case a => k_is)
        (case l => k_is)
        (case c => k_is)
        (case k => k_is)
      case d__law_draw =>
        refine' M22.defIn ?a ?l ?c ?k
        (case a => k_is)
        (case l => k_is)
        (case c => k_is)
        (case k => k_is)
      case d__law_counting =>
        refine' M22.defIn ?a ?l ?c ?k
        (case a => k_is)
        (case l => k_is)
        (case c => k_is)
        (case k => k_is)
      case d__law_lately =>
        refine' M22.defIn ?a ?l ?c ?k
        (case a => k_is)
        (case l => k_is)
        (case c => k_is)
        (case k => k_is)
      case d__law_wild =>
        refine' M22.defIn ?a ?l ?c ?k
        (case a => k_is)
        (case l => k_is)
        (case c => k_is)
        (case k => k_is)
      case d__law_filter =>
        refine' M22.defIn ?a ?l ?c ?k
        (case a => k_is)
        (case l => k_is)
        (case c => k_is)
        (case k => k_is)
      case d__law_changed =>
        refine' M22.defIn ?a ?l ?c ?k
        (case a => k_is)
        (case l => k_is)
        (case c => k_is)
        (case k => k_is)
      case d__law_classes =>
        refine' M22.defIn ?a ?l ?c ?k
        (case a => k_is)
        (case l => k_is)
        (case c => k_is)
        (case k => k_is)
      case d__law_class =>
        refine' M22.defIn ?a ?l ?c ?k
        (case a => k_is)
        (case l => k_is)
        (case c => k_is)
        (case k => k_is)
      case d__law_met =>
        refine' M22.defIn ?a ?l ?c ?k
        (case a => k_is)
        (case l => k_is)
        (case c => k_is)
        (case k => k_is)
      case d__law_all =>
        refine' M22.defIn ?a ?l ?c ?k
        (case a => k_is)
        (case l => k_is)
        (case c => k_is)
        (case k => k_is)
      case d__law_least =>
        refine' M22.defIn ?a ?l ?c ?k
        (case a => k_is)
        (case l => k_is)
        (case c => k_is)
        (case k => k_is)
      case d__law_few =>
        refine' M22.defIn ?a ?l ?c ?k
        (case a => k_is)
        (case l => k_is)
        (case c => k_is)
        (case k => k_is)
      case d_led =>
        refine' M22.defIn ?a ?l ?c ?k
        (case a => k_is)
        (case l => k_is)
        (case c => k_is)
        (case k => k_is)
      case d_is_let =>
        refine' M22.defIn ?a ?l ?c ?k
        (case a => k_is)
        (case l => k_is)
        (case c => k_is)
        (case k => k_is)
      case d_lets =>
        refine' M22.defIn ?a ?l ?c ?k
        (case a => k_is)
        (case l => k_is)
        (case c => k_is)
        (case k => k_is)
      case d_idle_change =>
        refine' M22.defIn ?a ?l ?c ?k
        (case a => k_is)
        (case l => k_is)
        (case c => k_is)
        (case k => k_is)
      case d_changes_behind =>
        refine' M22.defIn ?a ?l ?c ?k
        (case a => k_is)
        (case l => k_is)
        (case c => k_is)
        (case k => k_is)
      case d_classes_found =>
        refine' M22.defIn ?a ?l ?c ?k
        (case a => k_is)
        (case l => k_is)
        (case c => k_is)
        (case k => k_is)
      case d_want_position =>
        refine' M22.defIn ?a ?l ?c ?k
        (case a => k_is)
        (case l => k_is)
        (case c => k_is)
        (case k => k_is)
      case d_passed_classes =>
        refine' M22.defIn ?a ?l ?c ?k
        (case a => k_is)
        (case l => k_is)
        (case c => k_is)
        (case k => k_is)
      case d_passed =>
        refine' M22.defIn ?a ?l ?c ?k
        (case a => k_is)
        (case l => k_is)
        (case c => k_is)
        (case k => k_is)
      case d__law_right =>
        refine' M22.defIn ?a ?l ?c ?k
        (case a => k_is)
        (case l => k_is)
        (case c => k_is)
        (case k => k_is)
      case iM =>
        refine' M22.initIn ?a ?i ?l ?c ?k ?m ?kc
        (case a => k_is)
        (case i => k_is)
        (case l => k_is)
        (case c => k_is)
        (case k => k_is)
        (case m => k_is)
        (case kc => k_is)
      case iT =>
        refine' M22.initIn ?a ?i ?l ?c ?k ?m ?kc
        (case a => k_is)
        (case i => k_is)
        (case l => k_is)
        (case c => k_is)
        (case k => k_is)
        (case m => k_is)
        (case kc => k_is)
      case eM =>
        refine' M22.eqIn ?a ?i ?l ?c ?k ?ne ?s
        (case a => k_is)
        (case i => k_is)
        (case l => k_is)
        (case c => k_is)
        (case k => k_is)
        (case ne => k_is)
        (case s => k_is)
